import Derived.Test.YtiibecpllokhiaaDoorAtBytesIn
import Derived.Test.YtiibecpllokhiaaDoorAtG58
namespace Go.Proofs.YtiibecpllokhiaaDoor.Q
open Go.RowKit Go.Proofs.YtiibecpllokhiaaDoorW.PrintWords Go.Proofs.YtiibecpllokhiaaDoorW.PrintLast Go.Proofs.YtiibecpllokhiaaDoorW.PrintMore
def nmB (l : List UInt8) : Bool := l.all fun b => decide ((b.toNat : Int) = 45 ∨ 97 ≤ (b.toNat : Int) ∧ (b.toNat : Int) ≤ 122)
theorem nmB_yes {b : UInt8} {l : List UInt8} (h : (b.toNat : Int) = 45 ∨ 97 ≤ (b.toNat : Int) ∧ (b.toNat : Int) ≤ 122) : nmB (b :: l) = nmB l := by simp only [nmB, List.all_cons]; rw [decide_eq_true h, Bool.true_and]
theorem nmB_no {b : UInt8} {l : List UInt8} (h : ¬ ((b.toNat : Int) = 45 ∨ 97 ≤ (b.toNat : Int) ∧ (b.toNat : Int) ≤ 122)) : nmB (b :: l) = false := by simp only [nmB, List.all_cons]; rw [decide_eq_false h, Bool.false_and]
theorem inB_yes {lo hi : Int} {b : UInt8} {l : List UInt8} (h : lo ≤ (b.toNat : Int) ∧ (b.toNat : Int) ≤ hi) : inB lo hi (b :: l) = inB lo hi l := by simp only [inB, List.all_cons]; rw [decide_eq_true h, Bool.true_and]
theorem inB_no {lo hi : Int} {b : UInt8} {l : List UInt8} (h : ¬ (lo ≤ (b.toNat : Int) ∧ (b.toNat : Int) ≤ hi)) : inB lo hi (b :: l) = false := by simp only [inB, List.all_cons]; rw [decide_eq_false h, Bool.false_and]
def nameB (s : ByteArray) : Bool := nmB s.data.toList && decide (1 ≤ (s.size : Int) ∧ (s.size : Int) ≤ 20)
theorem name_impl_l (s : ByteArray) (hs : s.size ≤ 9223372036854775806) (d : Nat) : ∀ i : Nat, i ≤ s.size → s.size - i = d → Ev (fun k => impl_isFieldName.l0 k s (s.size : Int) (i : Int)) (nmB (s.data.toList.drop i) && decide (1 ≤ (s.size : Int) ∧ (s.size : Int) ≤ 20)) := by
  induction d with
  | zero =>
    intro i hi hd
    refine Ev.succ ?_
    simp only [impl_isFieldName.l0]
    rw [List.drop_eq_nil_of_le (by rw [sizeL]; omega), show nmB [] = true from rfl, Bool.true_and]
    exact Ev.no (by omega) (Ev.via (in_impl _ _ _) (Ev.now _))
  | succ d ih =>
    intro i hi hd
    have hlt : i < s.size := by omega
    have hb := bt_rng s i
    refine Ev.succ ?_
    simp only [impl_isFieldName.l0]
    rw [w64 (n := bt s i) (by omega) (by omega), wnat i _ hlt (by omega), drop_get _ i (by rw [sizeL]; exact hlt), bt_get s i hlt]
    refine Ev.yes (by omega) (Ev.yes (by omega) (Ev.yes (by omega) ?_))
    have h := ih (i + 1) (by omega) (by omega)
    generalize s.data.toList[i]'(by rw [sizeL]; exact hlt) = b at *
    by_cases c : (b.toNat : Int) = 45
    · rw [nmB_yes (.inl c)]; exact Ev.yes c h
    · refine Ev.no c (Ev.via (in_impl _ _ _) ?_)
      by_cases c2 : 97 ≤ (b.toNat : Int) ∧ (b.toNat : Int) ≤ 122
      · rw [nmB_yes (.inr c2)]; exact Ev.yes (decide_eq_true c2) h
      · rw [nmB_no (by omega), Bool.false_and]; exact Ev.no (by rw [decide_eq_false c2]; simp) (Ev.now _)
theorem name_impl (s : ByteArray) (hs : s.size ≤ 9223372036854775806) : Ev (fun k => impl_isFieldName.f k s) (nameB s) := name_impl_l s hs s.size 0 (by omega) (by omega)
theorem name_spec_l (s : ByteArray) (hs : s.size ≤ 9223372036854775806) (d : Nat) : ∀ i : Nat, i ≤ s.size → s.size - i = d → Ev (fun k => spec_l09Name.l0 k s (i : Int)) (nmB (s.data.toList.drop i) && decide (1 ≤ (s.size : Int) ∧ (s.size : Int) ≤ 20)) := by
  induction d with
  | zero =>
    intro i hi hd
    refine Ev.succ ?_
    simp only [spec_l09Name.l0]
    rw [List.drop_eq_nil_of_le (by rw [sizeL]; omega), show nmB [] = true from rfl, Bool.true_and]
    exact Ev.no (by omega) (Ev.via (in_spec _ _ _) (Ev.now _))
  | succ d ih =>
    intro i hi hd
    have hlt : i < s.size := by omega
    refine Ev.succ ?_
    simp only [spec_l09Name.l0]
    rw [wnat i _ hlt (by omega), drop_get _ i (by rw [sizeL]; exact hlt), bt_get s i hlt]
    refine Ev.yes (by omega) (Ev.yes (by omega) ?_)
    have h := ih (i + 1) (by omega) (by omega)
    generalize s.data.toList[i]'(by rw [sizeL]; exact hlt) = b at *
    by_cases c : (b.toNat : Int) < 97
    · refine Ev.yes c ?_
      by_cases c1 : (b.toNat : Int) = 45
      · rw [nmB_yes (.inl c1)]; exact Ev.yes c1 h
      · rw [nmB_no (by omega), Bool.false_and]; exact Ev.no c1 (Ev.now _)
    · refine Ev.no c ?_
      by_cases c2 : (b.toNat : Int) > 122
      · rw [nmB_no (by omega), Bool.false_and]; exact Ev.yes c2 (Ev.no (by omega) (Ev.now _))
      · rw [nmB_yes (by omega)]; exact Ev.no c2 h
theorem name_spec (s : ByteArray) (hs : s.size ≤ 9223372036854775806) : Ev (fun k => spec_l09Name.f k s) (nameB s) := name_spec_l s hs s.size 0 (by omega) (by omega)
theorem plain_spec_l (s : ByteArray) (m : Int) (hs : s.size ≤ 9223372036854775806) (d : Nat) : ∀ i : Nat, i ≤ s.size → s.size - i = d → Ev (fun k => spec_l09Plain.l0 k s m (i : Int)) (inB 32 126 (s.data.toList.drop i) && decide ((s.size : Int) ≤ m)) := by
  induction d with
  | zero =>
    intro i hi hd
    refine Ev.succ ?_
    simp only [spec_l09Plain.l0]
    rw [List.drop_eq_nil_of_le (by rw [sizeL]; omega), show inB 32 126 [] = true from rfl, Bool.true_and]
    exact Ev.no (by omega) (Ev.now _)
  | succ d ih =>
    intro i hi hd
    have hlt : i < s.size := by omega
    refine Ev.succ ?_
    simp only [spec_l09Plain.l0]
    rw [wnat i _ hlt (by omega), drop_get _ i (by rw [sizeL]; exact hlt), bt_get s i hlt]
    refine Ev.yes (by omega) (Ev.yes (by omega) ?_)
    have h := ih (i + 1) (by omega) (by omega)
    generalize s.data.toList[i]'(by rw [sizeL]; exact hlt) = b at *
    by_cases c : (b.toNat : Int) < 32
    · rw [inB_no (by omega), Bool.false_and]; exact Ev.yes c (Ev.now _)
    · refine Ev.no c ?_
      by_cases c2 : (b.toNat : Int) > 126
      · rw [inB_no (by omega), Bool.false_and]; exact Ev.yes c2 (Ev.now _)
      · rw [inB_yes (by omega)]; exact Ev.no c2 h
theorem plain_spec (s : ByteArray) (m : Int) (hs : s.size ≤ 9223372036854775806) : Ev (fun k => spec_l09Plain.f k s m) (inB 32 126 s.data.toList && decide ((s.size : Int) ≤ m)) := plain_spec_l s m hs s.size 0 (by omega) (by omega)
theorem dw_head (m : List UInt8) (hm : 0 < m.length) : m.dropWhile (· == (32 : UInt8)) = m ↔ m[0] ≠ 32 := by
  cases m with
  | nil => simp at hm
  | cons a t =>
    by_cases c : a = 32
    · subst c
      refine ⟨fun h => ?_, fun h => absurd rfl h⟩
      have h2 := (List.dropWhile_sublist (l := t) (· == (32 : UInt8))).length_le
      have h3 : ((32 : UInt8) :: t).dropWhile (· == (32 : UInt8)) = t.dropWhile (· == (32 : UInt8)) := by simp
      rw [h3] at h
      rw [h, List.length_cons] at h2
      omega
    · refine ⟨fun _ => c, fun _ => ?_⟩
      simp [c]
theorem trim_same (l : List UInt8) (hn : 0 < l.length) : Lib.trimB l 32 = l ↔ (l[0] ≠ 32 ∧ l[l.length - 1] ≠ 32) := by
  have hr : l.reverse.dropWhile (· == (32 : UInt8)) = l.reverse ↔ l[l.length - 1] ≠ 32 := by
    rw [dw_head l.reverse (by simpa using hn)]
    simp
  unfold Lib.trimB Lib.trimLeftB Lib.trimRightB
  constructor
  · intro h
    have e1 := (List.dropWhile_sublist (l := (l.reverse.dropWhile (· == (32 : UInt8))).reverse) (· == (32 : UInt8))).length_le
    rw [h, List.length_reverse] at e1
    have e2 : l.reverse.dropWhile (· == (32 : UInt8)) = l.reverse := (List.dropWhile_sublist (l := l.reverse) (· == (32 : UInt8))).eq_of_length (by
      have e3 := (List.dropWhile_sublist (l := l.reverse) (· == (32 : UInt8))).length_le
      rw [List.length_reverse] at e3 ⊢
      omega)
    rw [e2, List.reverse_reverse] at h
    exact ⟨(dw_head l hn).1 h, hr.1 e2⟩
  · rintro ⟨h1, h2⟩
    rw [hr.2 h2, List.reverse_reverse]
    exact (dw_head l hn).2 h1
def edgeB (v : ByteArray) : Bool := decide (Lib.trimB v.data.toList 32 = v.data.toList)
theorem edge_nil (v : ByteArray) (h : (v.size : Int) = 0) : edgeB v = true := by
  have : v.data.toList = [] := List.eq_nil_of_length_eq_zero (by rw [sizeL]; omega)
  unfold edgeB
  rw [this]
  rfl
theorem b32 (b : UInt8) : (b.toNat : Int) = 32 ↔ b = 32 := by
  constructor
  · intro h
    exact UInt8.toNat_inj.1 (by show b.toNat = 32; omega)
  · rintro rfl; rfl
theorem edge_first (v : ByteArray) (h : 0 < v.size) (c : bt v 0 = 32) : edgeB v = false := by
  have e := bt_get v 0 h
  rw [show ((0 : Nat) : Int) = 0 from rfl, c] at e
  refine decide_eq_false fun hh => ?_
  exact ((trim_same v.data.toList (by rw [sizeL]; exact h)).1 hh).1 ((b32 _).1 e.symm)
theorem edge_last (v : ByteArray) (hs : v.size ≤ 9223372036854775806) (h : 0 < v.size) (c : ¬ bt v 0 = 32) : edgeB v = (bt v (wrap64 ((v.size : Int) - 1)) != 32) := by
  · have e := bt_get v 0 h
    have e2 := bt_get v (v.size - 1) (by omega)
    have hw : wrap64 ((v.size : Int) - 1) = ((v.size - 1 : Nat) : Int) := by rw [w64 (by omega) (by omega)]; omega
    rw [hw, e2]
    rw [show ((0 : Nat) : Int) = 0 from rfl] at e
    rw [e, b32] at c
    have hl : v.data.toList.length - 1 = v.size - 1 := by rw [sizeL]
    unfold edgeB
    have ht := trim_same v.data.toList (by rw [sizeL]; exact h)
    simp only [hl] at ht
    by_cases q : v.data.toList[v.size - 1]'(by rw [sizeL]; omega) = 32
    · rw [decide_eq_false (fun hh => (ht.1 hh).2 q), q]; rfl
    · rw [decide_eq_true (ht.2 ⟨c, q⟩)]
      exact (bne_iff_ne.2 (fun hh => q ((b32 _).1 hh))).symm
def fieldB (n v : ByteArray) : Bool := nameB n && (decide ((v.size : Int) ≤ 60) && (inB 32 126 v.data.toList && edgeB v))
theorem fieldOk_impl (n v : ByteArray) (hn : n.size ≤ 9223372036854775806) (hv : v.size ≤ 9223372036854775806) : Ev (fun k => impl_FieldOk.f k n v) (fieldB n v) := by
  simp only [impl_FieldOk.f]
  unfold fieldB
  refine Ev.bind (name_impl n hn) ?_
  by_cases c : nameB n = true
  · rw [c, Bool.true_and]
    refine Ev.yes rfl ?_
    by_cases c2 : (v.size : Int) ≤ 60
    · rw [decide_eq_true c2, Bool.true_and]
      refine Ev.yes c2 (Ev.bind (bytesIn_ev v 32 126 (by omega)) ?_)
      by_cases c3 : inB 32 126 v.data.toList = true
      · rw [c3, Bool.true_and]
        refine Ev.yes rfl (Ev.via (a := ⟨(Lib.trimB v.data.toList 32).toArray⟩) (by unfold strings_Trim.f; exact if_pos ⟨rfl, by omega⟩) ?_)
        have : ((⟨(Lib.trimB v.data.toList 32).toArray⟩ : ByteArray).toList == v.toList) = edgeB v := by
          rw [toL, toL]
          unfold edgeB
          show ((Lib.trimB v.data.toList 32) == v.data.toList) = _
          by_cases q : Lib.trimB v.data.toList 32 = v.data.toList
          · rw [decide_eq_true q]; exact beq_iff_eq.2 q
          · rw [decide_eq_false q]; exact beq_eq_false_iff_ne.2 q
        rw [this]
        exact Ev.now _
      · rw [Bool.eq_false_iff.2 c3, Bool.false_and]; exact Ev.no (by simp) (Ev.now _)
    · rw [decide_eq_false c2, Bool.false_and]; exact Ev.no c2 (Ev.now _)
  · rw [Bool.eq_false_iff.2 c, Bool.false_and]; exact Ev.no (by simp) (Ev.now _)
theorem fieldOk_spec (n v : ByteArray) (hn : n.size ≤ 9223372036854775806) (hv : v.size ≤ 9223372036854775806) : Ev (fun k => spec_FieldOk.f k n v) (fieldB n v) := by
  simp only [spec_FieldOk.f]
  unfold fieldB
  refine Ev.bind (name_spec n hn) ?_
  by_cases c : nameB n = true
  · rw [c, Bool.true_and]
    refine Ev.yes rfl (Ev.bind (plain_spec v 60 hv) ?_)
    by_cases c2 : (v.size : Int) ≤ 60
    · rw [decide_eq_true c2, Bool.true_and, Bool.and_true]
      by_cases c3 : inB 32 126 v.data.toList = true
      · rw [c3, Bool.true_and]
        refine Ev.yes rfl ?_
        by_cases q : (v.size : Int) = 0
        · rw [edge_nil v q]; exact Ev.yes q (Ev.now _)
        · refine Ev.no q (Ev.yes (by omega) ?_)
          by_cases q2 : bt v 0 = 32
          · rw [edge_first v (by omega) q2]; exact Ev.yes q2 (Ev.now _)
          · rw [edge_last v hv (by omega) q2]
            have hw : wrap64 ((v.size : Int) - 1) = (v.size : Int) - 1 := w64 (by omega) (by omega)
            rw [hw]
            exact Ev.no q2 (Ev.yes (by omega) (Ev.yes (by omega) (Ev.now _)))
      · rw [Bool.eq_false_iff.2 c3, Bool.false_and]; exact Ev.no (by simp) (Ev.now _)
    · rw [decide_eq_false c2, Bool.false_and, Bool.and_false]; exact Ev.no (by simp) (Ev.now _)
  · rw [Bool.eq_false_iff.2 c, Bool.false_and]; exact Ev.no (by simp) (Ev.now _)
end Go.Proofs.YtiibecpllokhiaaDoor.Q
