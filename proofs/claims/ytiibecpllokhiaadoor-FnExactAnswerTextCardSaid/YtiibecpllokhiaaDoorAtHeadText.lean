import Derived.Test.YtiibecpllokhiaaDoorAtFieldOk
import Derived.Test.YtiibecpllokhiaaDoorAtHead
import Derived.Test.YtiibecpllokhiaaDoorAtG49
import Derived.Test.YtiibecpllokhiaaDoorAtG28
import Derived.Test.YtiibecpllokhiaaDoorAtG15
namespace Go.Proofs.YtiibecpllokhiaaDoor.Q
open Go.RowKit Go.Proofs.YtiibecpllokhiaaDoorW.PrintWords Go.Proofs.YtiibecpllokhiaaDoorW.PrintLast Go.Proofs.YtiibecpllokhiaaDoorW.PrintMore
def crlf : ByteArray := ⟨#[13, 10]⟩
def lineF (f : S40) : ByteArray := f.f0 ++ (⟨#[58, 32]⟩ : ByteArray) ++ f.f1 ++ crlf
def fieldsT : List S40 → ByteArray
  | [] => ⟨#[]⟩
  | f :: r => lineF f ++ fieldsT r
def hsz : List S40 → Nat
  | [] => 0
  | f :: r => f.f0.size + f.f1.size + 4 + hsz r
def headT (a : ByteArray) (l : List S40) : ByteArray := a ++ crlf ++ fieldsT l ++ crlf
theorem crlf_size : crlf.size = 2 := rfl
theorem sp_size : (⟨#[58, 32]⟩ : ByteArray).size = 2 := rfl
theorem app_nil (s : ByteArray) : s ++ (⟨#[]⟩ : ByteArray) = s := ByteArray.append_empty
theorem lineF_size (f : S40) : (lineF f).size = f.f0.size + f.f1.size + 4 := by
  simp only [lineF, ByteArray.size_append, crlf_size, sp_size]; omega
theorem fieldsT_size (l : List S40) : (fieldsT l).size = hsz l := by
  induction l with
  | nil => rfl
  | cons f r ih => simp only [fieldsT, hsz, ByteArray.size_append, lineF_size, ih]
theorem headT_size (a : ByteArray) (l : List S40) : (headT a l).size = a.size + hsz l + 4 := by
  simp only [headT, ByteArray.size_append, crlf_size, fieldsT_size]; omega
theorem hsz_map (l : List S37) : hsz (l.map cvF) = fsz l + 4 * l.length := by
  induction l with
  | nil => rfl
  | cons f r ih => simp only [List.map_cons, hsz, ih, fsz_cons, cvF, List.length_cons]; omega
theorem hsz_mem {l : List S40} {f : S40} (h : f ∈ l) : f.f0.size + f.f1.size ≤ hsz l := by
  induction l with
  | nil => cases h
  | cons g r ih =>
    rw [hsz]
    rcases List.mem_cons.1 h with rfl | h
    · omega
    · have := ih h; omega
theorem text_impl_l (l : List S40) (hl : l.length ≤ 9223372036854775806) (d : Nat) : ∀ (i : Nat) (o : ByteArray), i ≤ l.length → l.length - i = d → o.size + hsz (l.drop i) + 2 ≤ 9223372036854775807 → Ev (fun k => impl_headText.l0 k o l (l.length : Int) (i : Int)) (o ++ fieldsT (l.drop i) ++ crlf) := by
  induction d with
  | zero =>
    intro i o hi hd hs
    refine Ev.succ ?_
    simp only [impl_headText.l0]
    rw [List.drop_eq_nil_of_le (by omega)] at hs ⊢
    rw [fieldsT, app_nil]
    rw [hsz] at hs
    exact Ev.no (by omega) (Ev.yes (by omega) (Ev.now _))
  | succ d ih =>
    intro i o hi hd hs
    have hlt : i < l.length := by omega
    refine Ev.succ ?_
    simp only [impl_headText.l0]
    rw [drop_get l i hlt, hsz] at hs
    rw [wnat i _ hlt (by omega), rdF_get l i hlt, drop_get l i hlt, fieldsT]
    have h := ih (i + 1) (o ++ lineF l[i]) (by omega) (by omega) (by rw [ByteArray.size_append, lineF_size]; omega)
    rw [ByteArray.append_assoc (a := o)] at h
    refine Ev.yes (by omega) (Ev.yes (by omega) (Ev.yes (by omega) (Ev.yes (by omega) (Ev.yes (by rw [ByteArray.size_append, sp_size]; omega) (Ev.yes (by rw [ByteArray.size_append, ByteArray.size_append, sp_size]; omega) (Ev.yes (by show o.size + (lineF l[i]).size ≤ _; rw [lineF_size]; omega) ?_))))))
    exact h
theorem text_impl (a : ByteArray) (l : List S40) (hl : l.length ≤ 9223372036854775806) (hs : a.size + hsz l + 4 ≤ 9223372036854775807) : Ev (fun k => impl_headText.f k a l) (headT a l) := by
  simp only [impl_headText.f]
  exact Ev.yes (by omega) (text_impl_l l hl l.length 0 (a ++ crlf) (by omega) (by omega) (by rw [List.drop_zero, ByteArray.size_append, crlf_size]; omega))
theorem text_spec_l (a : ByteArray) (l : List S40) (hl : l.length ≤ 9223372036854775806) (d : Nat) : ∀ (i : Nat) (o : ByteArray), i ≤ l.length → l.length - i = d → o.size + hsz (l.drop i) + 2 ≤ 9223372036854775807 → Ev (fun k => spec_l09Text.l0 k o (i : Int) a l) (o ++ fieldsT (l.drop i) ++ crlf) := by
  induction d with
  | zero =>
    intro i o hi hd hs
    refine Ev.succ ?_
    simp only [spec_l09Text.l0]
    rw [List.drop_eq_nil_of_le (by omega)] at hs ⊢
    rw [fieldsT, app_nil]
    rw [hsz] at hs
    exact Ev.no (by omega) (Ev.yes (by omega) (Ev.now _))
  | succ d ih =>
    intro i o hi hd hs
    have hlt : i < l.length := by omega
    refine Ev.succ ?_
    simp only [spec_l09Text.l0]
    rw [drop_get l i hlt, hsz] at hs
    rw [wnat i _ hlt (by omega), rdF_get l i hlt, drop_get l i hlt, fieldsT]
    have h := ih (i + 1) (o ++ lineF l[i]) (by omega) (by omega) (by rw [ByteArray.size_append, lineF_size]; omega)
    rw [ByteArray.append_assoc (a := o)] at h
    have e : o ++ lineF l[i] = (((o ++ l[i].f0) ++ (⟨#[58, 32]⟩ : ByteArray)) ++ l[i].f1) ++ (⟨#[13, 10]⟩ : ByteArray) := by
      simp only [lineF, crlf, ByteArray.append_assoc]
    rw [e] at h
    exact Ev.yes (by omega) (Ev.yes (by omega) (Ev.yes (by omega) (Ev.yes (by rw [ByteArray.size_append]; omega) (Ev.yes (by rw [ByteArray.size_append, ByteArray.size_append, sp_size]; omega) (Ev.yes (by rw [ByteArray.size_append, ByteArray.size_append, ByteArray.size_append, sp_size]; omega) h)))))
theorem text_spec (a : ByteArray) (l : List S40) (hl : l.length ≤ 9223372036854775806) (hs : a.size + hsz l + 4 ≤ 9223372036854775807) : Ev (fun k => spec_l09Text.f k a l) (headT a l) := by
  simp only [spec_l09Text.f]
  exact Ev.yes (by omega) (text_spec_l a l hl l.length 0 (a ++ crlf) (by omega) (by omega) (by rw [List.drop_zero, ByteArray.size_append, crlf_size]; omega))
def fieldsB (l : List S40) : Bool := l.all fun f => fieldB f.f0 f.f1
def lineB (a : ByteArray) : Bool := decide (1 ≤ (a.size : Int) ∧ (a.size : Int) ≤ 80) && inB 32 126 a.data.toList
def headB (a : ByteArray) (l : List S40) : Bool := fieldsB l && (lineB a && (decide ((l.length : Int) ≤ 8) && decide (((headT a l).size : Int) ≤ 300)))
theorem fieldsB_cons (f : S40) (l : List S40) : fieldsB (f :: l) = (fieldB f.f0 f.f1 && fieldsB l) := rfl
theorem isLine_ev (a : ByteArray) (ha : a.size ≤ 9223372036854775806) : Ev (fun k => impl_isLine.f k a) (lineB a) := by
  simp only [impl_isLine.f]
  unfold lineB
  refine Ev.via (in_impl _ _ _) ?_
  by_cases c : 1 ≤ (a.size : Int) ∧ (a.size : Int) ≤ 80
  · rw [decide_eq_true c, Bool.true_and]; exact Ev.yes rfl (Ev.bind (bytesIn_ev a 32 126 (by omega)) (Ev.now _))
  · rw [decide_eq_false c, Bool.false_and]; exact Ev.no (by simp) (Ev.now _)
theorem headOk_impl_l (a : ByteArray) (l : List S40) (hl : l.length ≤ 9223372036854775806) (hs : a.size + hsz l + 4 ≤ 9223372036854775806) (d : Nat) : ∀ i : Nat, i ≤ l.length → l.length - i = d → Ev (fun k => impl_HeadOk.l0 k l (l.length : Int) (i : Int) a l) (fieldsB (l.drop i) && (lineB a && (decide ((l.length : Int) ≤ 8) && decide (((headT a l).size : Int) ≤ 300)))) := by
  induction d with
  | zero =>
    intro i hi hd
    refine Ev.succ ?_
    simp only [impl_HeadOk.l0]
    rw [List.drop_eq_nil_of_le (by omega), show fieldsB [] = true from rfl, Bool.true_and]
    refine Ev.no (by omega) (Ev.bind (isLine_ev a (by omega)) ?_)
    by_cases c : lineB a = true
    · rw [c, Bool.true_and]
      refine Ev.yes rfl ?_
      by_cases c2 : (l.length : Int) ≤ 8
      · rw [decide_eq_true c2, Bool.true_and]; exact Ev.yes c2 (Ev.bind (text_impl a l hl (by omega)) (Ev.now _))
      · rw [decide_eq_false c2, Bool.false_and]; exact Ev.no c2 (Ev.now _)
    · rw [Bool.eq_false_iff.2 c, Bool.false_and]; exact Ev.no (by simp) (Ev.now _)
  | succ d ih =>
    intro i hi hd
    have hlt : i < l.length := by omega
    have hm := hsz_mem (List.getElem_mem hlt)
    refine Ev.succ ?_
    simp only [impl_HeadOk.l0]
    rw [wnat i _ hlt (by omega), rdF_get l i hlt, drop_get l i hlt, fieldsB_cons]
    refine Ev.yes (by omega) (Ev.yes (by omega) (Ev.yes (by omega) (Ev.bind (fieldOk_impl _ _ (by omega) (by omega)) ?_)))
    by_cases c : fieldB l[i].f0 l[i].f1 = true
    · rw [c, Bool.true_and]; exact Ev.yes rfl (ih (i + 1) (by omega) (by omega))
    · rw [Bool.eq_false_iff.2 c, Bool.false_and, Bool.false_and]; exact Ev.no (by simp) (Ev.now _)
theorem headOk_impl (a : ByteArray) (l : List S40) (hl : l.length ≤ 9223372036854775806) (hs : a.size + hsz l + 4 ≤ 9223372036854775806) : Ev (fun k => impl_HeadOk.f k a l) (headB a l) := by
  simp only [impl_HeadOk.f]
  exact headOk_impl_l a l hl hs l.length 0 (by omega) (by omega)
theorem headOk_spec_l (a : ByteArray) (l : List S40) (hl : l.length ≤ 9223372036854775806) (hs : a.size + hsz l + 4 ≤ 9223372036854775806) (d : Nat) : ∀ i : Nat, i ≤ l.length → l.length - i = d → Ev (fun k => spec_HeadOk.l0 k (i : Int) a l) (fieldsB (l.drop i) && decide (((headT a l).size : Int) ≤ 300)) := by
  induction d with
  | zero =>
    intro i hi hd
    refine Ev.succ ?_
    simp only [spec_HeadOk.l0]
    rw [List.drop_eq_nil_of_le (by omega), show fieldsB [] = true from rfl, Bool.true_and]
    exact Ev.no (by omega) (Ev.bind (text_spec a l hl (by omega)) (Ev.now _))
  | succ d ih =>
    intro i hi hd
    have hlt : i < l.length := by omega
    have hm := hsz_mem (List.getElem_mem hlt)
    refine Ev.succ ?_
    simp only [spec_HeadOk.l0]
    rw [wnat i _ hlt (by omega), rdF_get l i hlt, drop_get l i hlt, fieldsB_cons]
    refine Ev.yes (by omega) (Ev.yes (by omega) (Ev.bind (fieldOk_spec _ _ (by omega) (by omega)) ?_))
    by_cases c : fieldB l[i].f0 l[i].f1 = true
    · rw [c, Bool.true_and]; exact Ev.yes rfl (ih (i + 1) (by omega) (by omega))
    · rw [Bool.eq_false_iff.2 c, Bool.false_and, Bool.false_and]; exact Ev.no (by simp) (Ev.now _)
theorem headOk_spec (a : ByteArray) (l : List S40) (hl : l.length ≤ 9223372036854775806) (hs : a.size + hsz l + 4 ≤ 9223372036854775806) : Ev (fun k => spec_HeadOk.f k a l) (headB a l) := by
  simp only [spec_HeadOk.f]
  have no : Ev (fun k => spec_HeadOk.j0 k true a l) false := by refine Ev.succ ?_; simp only [spec_HeadOk.j0]; exact Ev.yes (by simp) (Ev.now _)
  by_cases c0 : (a.size : Int) = 0
  · rw [show headB a l = false from by unfold headB lineB; rw [decide_eq_false (by omega)]; simp]
    exact Ev.yes c0 no
  · refine Ev.no c0 (Ev.bind (plain_spec a 80 (by omega)) ?_)
    by_cases c : (inB 32 126 a.data.toList && decide ((a.size : Int) ≤ 80)) = true
    · refine Ev.yes c ?_
      rw [Bool.and_eq_true, decide_eq_true_iff] at c
      have hL : lineB a = true := by unfold lineB; rw [decide_eq_true ⟨by omega, c.2⟩, c.1]; rfl
      refine Ev.succ ?_
      simp only [spec_HeadOk.j0]
      unfold headB
      rw [hL, Bool.true_and]
      by_cases c8 : (l.length : Int) > 8
      · rw [decide_eq_true c8, decide_eq_false (show ¬ (l.length : Int) ≤ 8 by omega), Bool.false_and, Bool.and_false]; exact Ev.yes (by simp) (Ev.now _)
      · rw [decide_eq_false c8, decide_eq_true (show (l.length : Int) ≤ 8 by omega), Bool.true_and]
        exact Ev.no (by simp) (headOk_spec_l a l hl hs l.length 0 (by omega) (by omega))
    · refine Ev.no c ?_
      have hL : lineB a = false := by
        unfold lineB
        by_cases q : inB 32 126 a.data.toList = true
        · rw [q, Bool.true_and, decide_eq_true_iff] at c; rw [decide_eq_false (by omega), Bool.false_and]
        · rw [Bool.eq_false_iff.2 q, Bool.and_false]
      rw [show headB a l = false from by unfold headB; rw [hL]; simp]
      exact no
def headTB (a : ByteArray) (l : List S40) : ByteArray × Bool := if headB a l = true then (headT a l, true) else (⟨#[]⟩, false)
theorem headText_impl (a : ByteArray) (l : List S40) (hl : l.length ≤ 9223372036854775806) (hs : a.size + hsz l + 4 ≤ 9223372036854775806) : Ev (fun k => impl_HeadText.f k a l) (headTB a l) := by
  simp only [impl_HeadText.f]
  unfold headTB
  refine Ev.bind (headOk_impl a l hl hs) ?_
  by_cases c : headB a l = true
  · rw [if_pos c]; exact Ev.yes c (Ev.bind (text_impl a l hl (by omega)) (Ev.now _))
  · rw [if_neg c]; exact Ev.no c (Ev.now _)
end Go.Proofs.YtiibecpllokhiaaDoor.Q
