import Derived.Test.YtiibecpllokhiaaDoorOtWords
import Derived.Lib.Strings
import Derived.Test.YtiibecpllokhiaaDoorOtG31
import Derived.Test.YtiibecpllokhiaaDoorOtG33
import Derived.Test.YtiibecpllokhiaaDoorOtG111
import Derived.Lib.IndexAny
import Derived.Test.YtiibecpllokhiaaDoorOtG50
import Derived.Test.YtiibecpllokhiaaDoorOtG72
import Derived.Test.YtiibecpllokhiaaDoorOtG65
import Derived.Test.YtiibecpllokhiaaDoorOtG68
import Derived.Test.YtiibecpllokhiaaDoorOtG58
import Derived.Test.YtiibecpllokhiaaDoorOtG56
import Derived.Test.YtiibecpllokhiaaDoorOtG20
import Derived.Test.YtiibecpllokhiaaDoorOtG61
import Derived.Test.YtiibecpllokhiaaDoorOtG92
import Derived.Test.YtiibecpllokhiaaDoorOtG62
import Derived.Test.YtiibecpllokhiaaDoorOtG28
import Derived.Test.YtiibecpllokhiaaDoorOtG49
import Derived.Test.YtiibecpllokhiaaDoorOtG15
import Derived.Test.YtiibecpllokhiaaDoorOtG17
import Derived.Test.YtiibecpllokhiaaDoorOtG13
import Derived.Test.YtiibecpllokhiaaDoorOtG18
import Derived.Test.YtiibecpllokhiaaDoorOtG44
import Derived.Test.YtiibecpllokhiaaDoorOtG30
import Derived.Test.YtiibecpllokhiaaDoorOtG29
namespace Go.Proofs.YtiibecpllokhiaaDoor.Q
open Go.RowKit Go.Proofs.YtiibecpllokhiaaDoorW.PrintWords Go.Proofs.YtiibecpllokhiaaDoorW.PrintLast Go.Proofs.YtiibecpllokhiaaDoorW.PrintMore
/-- With enough rounds g tells something of which P holds. -/
def EvP {α : Type} (g : Nat → Option α) (P : α → Prop) : Prop := ∃ r, Ev g r ∧ P r
theorem Ev.succ {α : Type} {g : Nat → Option α} {r : α} (h : Ev (fun k => g (k + 1)) r) : Ev g r := Ev.step (fun _ => rfl) h
theorem Ev.yes {α : Type} {f g : Nat → Option α} {r : α} {c : Prop} [Decidable c] (hc : c) (h : Ev f r) : Ev (fun k => if c then f k else g k) r := Ev.congr (fun _ => if_pos hc) h
theorem Ev.no {α : Type} {f g : Nat → Option α} {r : α} {c : Prop} [Decidable c] (hc : ¬ c) (h : Ev g r) : Ev (fun k => if c then f k else g k) r := Ev.congr (fun _ => if_neg hc) h
theorem Ev.via {α β : Type} {g : Option α} {f : Nat → α → Option β} {a : α} {r : β} (h : g = some a) (k : Ev (fun n => f n a) r) : Ev (fun n => g.bind (f n)) r := Ev.congr (fun _ => by rw [h]; rfl) k
theorem Ev.const {α : Type} {g : Option α} {a : α} (h : g = some a) : Ev (fun _ => g) a := ⟨0, fun _ _ => h⟩
theorem EvP.bind {α β : Type} {g : Nat → Option α} {f : Nat → α → Option β} {P : α → Prop} {Q : β → Prop} (h : EvP g P) (k : ∀ a, P a → EvP (fun n => f n a) Q) : EvP (fun n => (g n).bind (f n)) Q := by
  obtain ⟨a, ha, hp⟩ := h
  obtain ⟨r, hr, hq⟩ := k a hp
  exact ⟨r, Ev.bind ha hr, hq⟩
theorem EvP.ite {α : Type} {f g : Nat → Option α} {P : α → Prop} {c : Prop} [Decidable c] (h1 : c → EvP f P) (h2 : ¬ c → EvP g P) : EvP (fun k => if c then f k else g k) P := by
  by_cases hc : c
  · obtain ⟨r, hr, hp⟩ := h1 hc; exact ⟨r, Ev.yes hc hr, hp⟩
  · obtain ⟨r, hr, hp⟩ := h2 hc; exact ⟨r, Ev.no hc hr, hp⟩
theorem EvP.yes {α : Type} {f g : Nat → Option α} {P : α → Prop} {c : Prop} [Decidable c] (hc : c) (h : EvP f P) : EvP (fun k => if c then f k else g k) P := EvP.ite (fun _ => h) (fun hn => absurd hc hn)
theorem EvP.no {α : Type} {f g : Nat → Option α} {P : α → Prop} {c : Prop} [Decidable c] (hc : ¬ c) (h : EvP g P) : EvP (fun k => if c then f k else g k) P := EvP.ite (fun hn => absurd hn hc) (fun _ => h)
theorem EvP.ret {α : Type} {a : α} {P : α → Prop} (h : P a) : EvP (fun _ => some a) P := ⟨a, Ev.now a, h⟩
theorem EvP.const {α : Type} {g : Option α} {a : α} {P : α → Prop} (h : g = some a) (hp : P a) : EvP (fun _ => g) P := ⟨a, Ev.const h, hp⟩
theorem EvP.succ {α : Type} {g : Nat → Option α} {P : α → Prop} (h : EvP (fun k => g (k + 1)) P) : EvP g P := by
  obtain ⟨r, hr, hp⟩ := h
  exact ⟨r, Ev.succ hr, hp⟩
theorem EvP.is {α : Type} {g : Nat → Option α} {r : α} (h : EvP g (fun x => x = r)) : Ev g r := by
  obtain ⟨_, hr, rfl⟩ := h
  exact hr
end Go.Proofs.YtiibecpllokhiaaDoor.Q
namespace Go.Proofs.YtiibecpllokhiaaDoor.Q
open Go.RowKit Go.Proofs.YtiibecpllokhiaaDoorW.PrintWords Go.Proofs.YtiibecpllokhiaaDoorW.PrintLast Go.Proofs.YtiibecpllokhiaaDoorW.PrintMore
theorem w64 {n : Int} (h0 : -9223372036854775808 ≤ n) (h1 : n < 9223372036854775808) : wrap64 n = n := by unfold wrap64; omega
theorem wnat (i n : Nat) (h : i < n) (hn : n ≤ 9223372036854775807) : wrap64 ((i : Int) + 1) = ((i + 1 : Nat) : Int) := by rw [w64 (by omega) (by omega)]; rfl
theorem rd_get (l : List Int) (i : Nat) (h : i < l.length) : rd l i = l[i] := by simp [rd, h]
theorem drop_get {α : Type} (l : List α) (i : Nat) (h : i < l.length) : l.drop i = l[i] :: l.drop (i + 1) := List.drop_eq_getElem_cons h
theorem toL (s : ByteArray) : s.toList = s.data.toList := Lib.toList_data s
theorem sizeL (s : ByteArray) : s.data.toList.length = s.size := (Lib.size_eq s).symm
theorem ba_ext {s t : ByteArray} (h : s.data.toList = t.data.toList) : s = t := ByteArray.ext (Array.toList_inj.1 h)
theorem bt_get (s : ByteArray) (i : Nat) (h : i < s.size) : bt s (i : Int) = ((s.data.toList[i]'(by rw [sizeL]; exact h)).toNat : Int) := by simp [bt, h]; rfl
theorem bt_rng (s : ByteArray) (i : Int) : 0 ≤ bt s i ∧ bt s i ≤ 255 := bt_range s i
/-- Are all bytes in lo .. hi. -/
def inB (lo hi : Int) (l : List UInt8) : Bool := l.all fun b => decide (lo ≤ (b.toNat : Int) ∧ (b.toNat : Int) ≤ hi)
end Go.Proofs.YtiibecpllokhiaaDoor.Q
namespace Go.Proofs.YtiibecpllokhiaaDoor.Q
open Go.RowKit Go.Proofs.YtiibecpllokhiaaDoorW.PrintWords Go.Proofs.YtiibecpllokhiaaDoorW.PrintLast Go.Proofs.YtiibecpllokhiaaDoorW.PrintMore
def pre (s p : ByteArray) : Bool := decide (p.size ≤ s.size) && ((s.extract 0 p.size).toList == p.toList)
def suf (s p : ByteArray) : Bool := decide (p.size ≤ s.size) && ((s.extract (s.size - p.size) s.size).toList == p.toList)
end Go.Proofs.YtiibecpllokhiaaDoor.Q
namespace Go.Proofs.YtiibecpllokhiaaDoor.Q
open Go.RowKit Go.Proofs.YtiibecpllokhiaaDoorW.PrintWords Go.Proofs.YtiibecpllokhiaaDoorW.PrintLast Go.Proofs.YtiibecpllokhiaaDoorW.PrintMore
set_option linter.unusedSimpArgs false
def ba (l : List UInt8) : ByteArray := ⟨l.toArray⟩
theorem ba_toL (l : List UInt8) : (ba l).data.toList = l := by simp [ba]
theorem ba_list (l : List UInt8) : (ba l).toList = l := by rw [toL, ba_toL]
theorem ba_size (l : List UInt8) : (ba l).size = l.length := by rw [← sizeL, ba_toL]
theorem ba_of (s : ByteArray) : ba s.data.toList = s := by apply ba_ext; rw [ba_toL]
def ct (p : List UInt8) : List UInt8 → List UInt8 × List UInt8 × Bool
  | [] => ([], [], false)
  | b :: t => if p.isPrefixOf (b :: t) then ([], (b :: t).drop p.length, true) else if (ct p t).2.2 = true then (b :: (ct p t).1, (ct p t).2.1, true) else (b :: t, [], false)
theorem cut_ct (p : List UInt8) (hp : p ≠ []) (t : List UInt8) : Lib.cut t p = ct p t := by
  induction t with
  | nil =>
    cases p with
    | nil => exact absurd rfl hp
    | cons a p => rfl
  | cons b t ih =>
    rw [ct]
    unfold Lib.cut at ih ⊢
    rw [Lib.index]
    by_cases c : p.isPrefixOf (b :: t) = true
    · rw [if_pos c, if_pos c]; simp
    · rw [if_neg c, if_neg c, ← ih]
      have g : -1 ≤ Lib.index t p := by
        clear ih c
        induction t with
        | nil => rw [Lib.index]; split <;> decide
        | cons a t ih => rw [Lib.index]; split; decide; split; decide; omega
      by_cases c2 : Lib.index t p = -1
      · rw [c2]; simp
      · have h0 : 0 ≤ Lib.index t p := by omega
        have e1 : (Lib.index t p == -1) = false := by simpa using c2
        rw [e1]
        simp only [if_pos h0, Bool.false_eq_true, if_false, if_true]
        rw [if_pos (by omega)]
        have e2 : (Lib.index t p + 1).toNat = (Lib.index t p).toNat + 1 := by omega
        rw [e2, List.take_succ_cons, show (Lib.index t p).toNat + 1 + p.length = (Lib.index t p).toNat + p.length + 1 by omega, List.drop_succ_cons]
theorem ct_true {p t : List UInt8} (h : (ct p t).2.2 = true) : t = (ct p t).1 ++ p ++ (ct p t).2.1 := by
  induction t with
  | nil => simp [ct] at h
  | cons b t ih =>
    rw [ct] at h ⊢
    by_cases c : p.isPrefixOf (b :: t) = true
    · rw [if_pos c]
      obtain ⟨r, hr⟩ := List.isPrefixOf_iff_prefix.1 c
      simp only [List.nil_append]
      rw [← hr, List.drop_left]
    · rw [if_neg c] at h ⊢
      by_cases c2 : (ct p t).2.2 = true
      · rw [if_pos c2]
        have := ih c2
        simp only [List.cons_append]
        rw [← this]
      · rw [if_neg c2] at h; simp at h
theorem ct_false {p t : List UInt8} (h : (ct p t).2.2 = false) : (ct p t).1 = t := by
  cases t with
  | nil => rfl
  | cons b t =>
    rw [ct] at h ⊢
    by_cases c : p.isPrefixOf (b :: t) = true
    · rw [if_pos c] at h; simp at h
    · rw [if_neg c] at h ⊢
      by_cases c2 : (ct p t).2.2 = true
      · rw [if_pos c2] at h; simp at h
      · rw [if_neg c2]
theorem cut_ev (s : ByteArray) (p : ByteArray) (hp : p.data.toList ≠ []) (hs : s.size ≤ 4000000000) : strings_Cut.f s p = some (ba (ct p.data.toList s.data.toList).1, ba (ct p.data.toList s.data.toList).2.1, (ct p.data.toList s.data.toList).2.2) := by
  unfold strings_Cut.f
  rw [if_pos (by omega), cut_ct _ hp]; rfl
/-- No end of a line in it. -/
def cl (l : List UInt8) : Bool := l.all fun b => !(b == 10) && !(b == 13)
theorem cl_cons (b : UInt8) (l : List UInt8) : cl (b :: l) = ((!(b == 10) && !(b == 13)) && cl l) := rfl
theorem cl_app (x y : List UInt8) : cl (x ++ y) = (cl x && cl y) := by simp [cl, List.all_append]
theorem cl_ex {l : List UInt8} (h : cl l = false) : ∃ b ∈ l, b = 10 ∨ b = 13 := by
  unfold cl at h
  rw [List.all_eq_false] at h
  obtain ⟨b, hb, h⟩ := h
  refine ⟨b, hb, ?_⟩
  by_cases c : b = 10
  · exact .inl c
  · by_cases d : b = 13
    · exact .inr d
    · simp [c, d] at h
/-- A line: none: there is none; its end may not be there. -/
def ln13 : List UInt8 → Option (List UInt8 × Option (List UInt8))
  | [] => some ([], none)
  | c :: r => if c = 10 then some ([], some r) else none
def lnC (b : UInt8) : Option (List UInt8 × Option (List UInt8)) → Option (List UInt8 × Option (List UInt8))
  | none => none
  | some p => some (b :: p.1, p.2)
def ln : List UInt8 → Option (List UInt8 × Option (List UInt8))
  | [] => some ([], none)
  | b :: r => if b = 10 then none else if b = 13 then ln13 r else lnC b (ln r)
def chop : List UInt8 → List UInt8
  | [] => []
  | b :: r => if r = [] ∧ b = 13 then [] else b :: chop r
theorem chop_c {b : UInt8} {r : List UInt8} (h : ¬ (r = [] ∧ b = 13)) : chop (b :: r) = b :: chop r := by rw [chop, if_neg h]
theorem pre2 (b : UInt8) (t : List UInt8) : ([13, 10] : List UInt8).isPrefixOf (b :: t) = (13 == b && (match t with | [] => false | c :: _ => 10 == c)) := by
  cases t with
  | nil => simp [List.isPrefixOf]
  | cons c t => simp [List.isPrefixOf]
theorem ln_true (t : List UInt8) (h : (ct [13, 10] t).2.2 = true) : ln t = if cl (ct [13, 10] t).1 = true then some ((ct [13, 10] t).1, some (ct [13, 10] t).2.1) else none := by
  induction t with
  | nil => simp [ct] at h
  | cons b t ih =>
    rw [ct] at h ⊢
    by_cases c : ([13, 10] : List UInt8).isPrefixOf (b :: t) = true
    · rw [if_pos c]
      rw [pre2] at c
      cases t with
      | nil => simp at c
      | cons d t =>
        simp only [Bool.and_eq_true, beq_iff_eq] at c
        obtain ⟨rfl, rfl⟩ := c
        simp [ln, ln13, cl]
    · rw [if_neg c] at h ⊢
      rw [pre2] at c
      by_cases c2 : (ct [13, 10] t).2.2 = true
      · rw [if_pos c2]
        have ih := ih c2
        simp only [cl_cons]
        rw [ln]
        by_cases d1 : b = 10
        · subst d1; simp
        · by_cases d2 : b = 13
          · subst d2
            cases t with
            | nil => simp [ct] at c2
            | cons d t =>
              have : d ≠ 10 := by intro e; subst e; simp at c
              simp [this, ln13]
          · rw [if_neg d1, if_neg d2, ih]
            by_cases q : cl (ct [13, 10] t).1 = true
            · simp [q, d1, d2, lnC]
            · simp [q, d1, d2, lnC]
      · rw [if_neg c2] at h; simp at h
theorem ln_false (t : List UInt8) (h : (ct [13, 10] t).2.2 = false) : ln t = if cl (chop t) = true then some (chop t, none) else none := by
  induction t with
  | nil => simp [ln, chop, cl]
  | cons b t ih =>
    rw [ct] at h
    by_cases c : ([13, 10] : List UInt8).isPrefixOf (b :: t) = true
    · rw [if_pos c] at h; simp at h
    · rw [if_neg c] at h
      rw [pre2] at c
      by_cases c2 : (ct [13, 10] t).2.2 = true
      · rw [if_pos c2] at h; simp at h
      · have ih := ih (Bool.eq_false_iff.2 c2)
        rw [ln]
        by_cases d1 : b = 10
        · subst d1
          rw [if_pos rfl, chop_c (by rintro ⟨_, h⟩; exact absurd h (by decide)), cl_cons]; simp
        · rw [if_neg d1]
          by_cases d2 : b = 13
          · subst d2
            rw [if_pos rfl]
            cases t with
            | nil => simp [cl, ln13, chop]
            | cons d t =>
              have : d ≠ 10 := by intro e; subst e; simp at c
              rw [chop_c (by rintro ⟨h, _⟩; cases h), cl_cons]; simp [this, ln13]
          · rw [if_neg d2, ih, chop_c (fun h => d2 h.2), cl_cons]
            by_cases q : cl (chop t) = true
            · simp [q, d1, d2, lnC]
            · simp [q, d1, d2, lnC]
theorem ext_ba (s : ByteArray) (a b : Nat) : s.extract a b = ba ((s.data.toList.drop a).take (b - a)) := by
  apply ba_ext; rw [ba_toL, Lib.extract_data]
end Go.Proofs.YtiibecpllokhiaaDoor.Q
namespace Go.Proofs.YtiibecpllokhiaaDoor.Q
open Go.RowKit Go.Proofs.YtiibecpllokhiaaDoorW.PrintWords Go.Proofs.YtiibecpllokhiaaDoorW.PrintLast Go.Proofs.YtiibecpllokhiaaDoorW.PrintMore
theorem in_impl (a b c : Int) : impl_within.f a b c = some (decide (b ≤ a ∧ a ≤ c)) := by
  unfold impl_within.f
  by_cases h : a ≥ b
  · rw [if_pos h]; simp [show b ≤ a from h]
  · rw [if_neg h]; simp [show ¬ b ≤ a from h]
end Go.Proofs.YtiibecpllokhiaaDoor.Q
namespace Go.Proofs.YtiibecpllokhiaaDoor.Q
open Go.RowKit Go.Proofs.YtiibecpllokhiaaDoorW.PrintWords Go.Proofs.YtiibecpllokhiaaDoorW.PrintLast Go.Proofs.YtiibecpllokhiaaDoorW.PrintMore
theorem bytesIn_l (s : ByteArray) (lo hi : Int) (hs : s.size ≤ 9223372036854775807) (d : Nat) : ∀ i : Nat, i ≤ s.size → s.size - i = d → Ev (fun k => impl_bytesIn.l0 k s lo hi (s.size : Int) (i : Int)) (inB lo hi (s.data.toList.drop i)) := by
  induction d with
  | zero =>
    intro i hi_ hd
    refine Ev.succ ?_
    simp only [impl_bytesIn.l0]
    rw [List.drop_eq_nil_of_le (by rw [sizeL]; omega)]
    exact Ev.no (by omega) (Ev.now _)
  | succ d ih =>
    intro i hi_ hd
    have hlt : i < s.size := by omega
    have hb := bt_rng s i
    refine Ev.succ ?_
    simp only [impl_bytesIn.l0]
    rw [w64 (n := bt s i) (by omega) (by omega), wnat i _ hlt hs, drop_get _ i (by rw [sizeL]; exact hlt)]
    simp only [in_impl, Option.bind_some]
    refine Ev.yes (by omega) (Ev.yes (by omega) (Ev.yes (by omega) ?_))
    rw [bt_get s i hlt]
    by_cases c : lo ≤ ((s.data.toList[i]'(by rw [sizeL]; exact hlt)).toNat : Int) ∧ ((s.data.toList[i]'(by rw [sizeL]; exact hlt)).toNat : Int) ≤ hi
    · refine Ev.yes (decide_eq_true c) ?_
      rw [show inB lo hi (s.data.toList[i]'(by rw [sizeL]; exact hlt) :: s.data.toList.drop (i + 1)) = inB lo hi (s.data.toList.drop (i + 1)) from by simp only [inB, List.all_cons]; rw [decide_eq_true c, Bool.true_and]]
      exact ih (i + 1) (by omega) (by omega)
    · refine Ev.no (by simpa using c) ?_
      rw [show inB lo hi (s.data.toList[i]'(by rw [sizeL]; exact hlt) :: s.data.toList.drop (i + 1)) = false from by simp only [inB, List.all_cons]; rw [decide_eq_false c, Bool.false_and]]
      exact Ev.now _
theorem bytesIn_ev (s : ByteArray) (lo hi : Int) (hs : s.size ≤ 9223372036854775807) : Ev (fun k => impl_bytesIn.f k s lo hi) (inB lo hi s.data.toList) := bytesIn_l s lo hi hs s.size 0 (by omega) (by omega)
end Go.Proofs.YtiibecpllokhiaaDoor.Q
namespace Go.Proofs.YtiibecpllokhiaaDoor.Q
open Go.RowKit Go.Proofs.YtiibecpllokhiaaDoorW.PrintWords Go.Proofs.YtiibecpllokhiaaDoorW.PrintLast Go.Proofs.YtiibecpllokhiaaDoorW.PrintMore
def nmB (l : List UInt8) : Bool := l.all fun b => decide ((b.toNat : Int) = 45 ∨ 97 ≤ (b.toNat : Int) ∧ (b.toNat : Int) ≤ 122)
theorem nmB_yes {b : UInt8} {l : List UInt8} (h : (b.toNat : Int) = 45 ∨ 97 ≤ (b.toNat : Int) ∧ (b.toNat : Int) ≤ 122) : nmB (b :: l) = nmB l := by simp only [nmB, List.all_cons]; rw [decide_eq_true h, Bool.true_and]
theorem nmB_no {b : UInt8} {l : List UInt8} (h : ¬ ((b.toNat : Int) = 45 ∨ 97 ≤ (b.toNat : Int) ∧ (b.toNat : Int) ≤ 122)) : nmB (b :: l) = false := by simp only [nmB, List.all_cons]; rw [decide_eq_false h, Bool.false_and]
def nameB (s : ByteArray) : Bool := nmB s.data.toList && decide (1 ≤ (s.size : Int) ∧ (s.size : Int) ≤ 20)
theorem name_impl_l (s : ByteArray) (hs : s.size ≤ 9223372036854775806) (d : Nat) : ∀ i : Nat, i ≤ s.size → s.size - i = d → Ev (fun k => impl_isFieldName.l0 k s (s.size : Int) (i : Int)) (nmB (s.data.toList.drop i) && decide (1 ≤ (s.size : Int) ∧ (s.size : Int) ≤ 20)) := by
  induction d with
  | zero =>
    intro i hi hd
    refine Ev.succ ?_
    simp only [impl_isFieldName.l0]
    rw [List.drop_eq_nil_of_le (by rw [sizeL]; omega), show nmB [] = true from rfl, Bool.true_and]
    exact Ev.no (by omega) (Ev.via (in_impl _ _ _) (Ev.now _))
  | succ d ih =>
    intro i hi hd
    have hlt : i < s.size := by omega
    have hb := bt_rng s i
    refine Ev.succ ?_
    simp only [impl_isFieldName.l0]
    rw [w64 (n := bt s i) (by omega) (by omega), wnat i _ hlt (by omega), drop_get _ i (by rw [sizeL]; exact hlt), bt_get s i hlt]
    refine Ev.yes (by omega) (Ev.yes (by omega) (Ev.yes (by omega) ?_))
    have h := ih (i + 1) (by omega) (by omega)
    generalize s.data.toList[i]'(by rw [sizeL]; exact hlt) = b at *
    by_cases c : (b.toNat : Int) = 45
    · rw [nmB_yes (.inl c)]; exact Ev.yes c h
    · refine Ev.no c (Ev.via (in_impl _ _ _) ?_)
      by_cases c2 : 97 ≤ (b.toNat : Int) ∧ (b.toNat : Int) ≤ 122
      · rw [nmB_yes (.inr c2)]; exact Ev.yes (decide_eq_true c2) h
      · rw [nmB_no (by omega), Bool.false_and]; exact Ev.no (by rw [decide_eq_false c2]; simp) (Ev.now _)
theorem name_impl (s : ByteArray) (hs : s.size ≤ 9223372036854775806) : Ev (fun k => impl_isFieldName.f k s) (nameB s) := name_impl_l s hs s.size 0 (by omega) (by omega)
def edgeB (v : ByteArray) : Bool := decide (Lib.trimB v.data.toList 32 = v.data.toList)
def fieldB (n v : ByteArray) : Bool := nameB n && (decide ((v.size : Int) ≤ 60) && (inB 32 126 v.data.toList && edgeB v))
theorem fieldOk_impl (n v : ByteArray) (hn : n.size ≤ 9223372036854775806) (hv : v.size ≤ 9223372036854775806) : Ev (fun k => impl_FieldOk.f k n v) (fieldB n v) := by
  simp only [impl_FieldOk.f]
  unfold fieldB
  refine Ev.bind (name_impl n hn) ?_
  by_cases c : nameB n = true
  · rw [c, Bool.true_and]
    refine Ev.yes rfl ?_
    by_cases c2 : (v.size : Int) ≤ 60
    · rw [decide_eq_true c2, Bool.true_and]
      refine Ev.yes c2 (Ev.bind (bytesIn_ev v 32 126 (by omega)) ?_)
      by_cases c3 : inB 32 126 v.data.toList = true
      · rw [c3, Bool.true_and]
        refine Ev.yes rfl (Ev.via (a := ⟨(Lib.trimB v.data.toList 32).toArray⟩) (by unfold strings_Trim.f; exact if_pos ⟨rfl, by omega⟩) ?_)
        have : ((⟨(Lib.trimB v.data.toList 32).toArray⟩ : ByteArray).toList == v.toList) = edgeB v := by
          rw [toL, toL]
          unfold edgeB
          show ((Lib.trimB v.data.toList 32) == v.data.toList) = _
          by_cases q : Lib.trimB v.data.toList 32 = v.data.toList
          · rw [decide_eq_true q]; exact beq_iff_eq.2 q
          · rw [decide_eq_false q]; exact beq_eq_false_iff_ne.2 q
        rw [this]
        exact Ev.now _
      · rw [Bool.eq_false_iff.2 c3, Bool.false_and]; exact Ev.no (by simp) (Ev.now _)
    · rw [decide_eq_false c2, Bool.false_and]; exact Ev.no c2 (Ev.now _)
  · rw [Bool.eq_false_iff.2 c, Bool.false_and]; exact Ev.no (by simp) (Ev.now _)
end Go.Proofs.YtiibecpllokhiaaDoor.Q
namespace Go.Proofs.YtiibecpllokhiaaDoor.Q
open Go.RowKit Go.Proofs.YtiibecpllokhiaaDoorW.PrintWords Go.Proofs.YtiibecpllokhiaaDoorW.PrintLast Go.Proofs.YtiibecpllokhiaaDoorW.PrintMore
theorem rdF_get (l : List S40) (i : Nat) (h : i < l.length) : rd_T40 l i = l[i] := by simp [rd_T40, h]
end Go.Proofs.YtiibecpllokhiaaDoor.Q
namespace Go.Proofs.YtiibecpllokhiaaDoor.Q
open Go.RowKit Go.Proofs.YtiibecpllokhiaaDoorW.PrintWords Go.Proofs.YtiibecpllokhiaaDoorW.PrintLast Go.Proofs.YtiibecpllokhiaaDoorW.PrintMore
def crlf : ByteArray := ⟨#[13, 10]⟩
def lineF (f : S40) : ByteArray := f.f0 ++ (⟨#[58, 32]⟩ : ByteArray) ++ f.f1 ++ crlf
def fieldsT : List S40 → ByteArray
  | [] => ⟨#[]⟩
  | f :: r => lineF f ++ fieldsT r
def hsz : List S40 → Nat
  | [] => 0
  | f :: r => f.f0.size + f.f1.size + 4 + hsz r
def headT (a : ByteArray) (l : List S40) : ByteArray := a ++ crlf ++ fieldsT l ++ crlf
theorem crlf_size : crlf.size = 2 := rfl
theorem sp_size : (⟨#[58, 32]⟩ : ByteArray).size = 2 := rfl
theorem app_nil (s : ByteArray) : s ++ (⟨#[]⟩ : ByteArray) = s := ByteArray.append_empty
theorem lineF_size (f : S40) : (lineF f).size = f.f0.size + f.f1.size + 4 := by
  simp only [lineF, ByteArray.size_append, crlf_size, sp_size]; omega
theorem hsz_mem {l : List S40} {f : S40} (h : f ∈ l) : f.f0.size + f.f1.size ≤ hsz l := by
  induction l with
  | nil => cases h
  | cons g r ih =>
    rw [hsz]
    rcases List.mem_cons.1 h with rfl | h
    · omega
    · have := ih h; omega
theorem text_impl_l (l : List S40) (hl : l.length ≤ 9223372036854775806) (d : Nat) : ∀ (i : Nat) (o : ByteArray), i ≤ l.length → l.length - i = d → o.size + hsz (l.drop i) + 2 ≤ 9223372036854775807 → Ev (fun k => impl_headText.l0 k o l (l.length : Int) (i : Int)) (o ++ fieldsT (l.drop i) ++ crlf) := by
  induction d with
  | zero =>
    intro i o hi hd hs
    refine Ev.succ ?_
    simp only [impl_headText.l0]
    rw [List.drop_eq_nil_of_le (by omega)] at hs ⊢
    rw [fieldsT, app_nil]
    rw [hsz] at hs
    exact Ev.no (by omega) (Ev.yes (by omega) (Ev.now _))
  | succ d ih =>
    intro i o hi hd hs
    have hlt : i < l.length := by omega
    refine Ev.succ ?_
    simp only [impl_headText.l0]
    rw [drop_get l i hlt, hsz] at hs
    rw [wnat i _ hlt (by omega), rdF_get l i hlt, drop_get l i hlt, fieldsT]
    have h := ih (i + 1) (o ++ lineF l[i]) (by omega) (by omega) (by rw [ByteArray.size_append, lineF_size]; omega)
    rw [ByteArray.append_assoc (a := o)] at h
    refine Ev.yes (by omega) (Ev.yes (by omega) (Ev.yes (by omega) (Ev.yes (by omega) (Ev.yes (by rw [ByteArray.size_append, sp_size]; omega) (Ev.yes (by rw [ByteArray.size_append, ByteArray.size_append, sp_size]; omega) (Ev.yes (by show o.size + (lineF l[i]).size ≤ _; rw [lineF_size]; omega) ?_))))))
    exact h
theorem text_impl (a : ByteArray) (l : List S40) (hl : l.length ≤ 9223372036854775806) (hs : a.size + hsz l + 4 ≤ 9223372036854775807) : Ev (fun k => impl_headText.f k a l) (headT a l) := by
  simp only [impl_headText.f]
  exact Ev.yes (by omega) (text_impl_l l hl l.length 0 (a ++ crlf) (by omega) (by omega) (by rw [List.drop_zero, ByteArray.size_append, crlf_size]; omega))
def fieldsB (l : List S40) : Bool := l.all fun f => fieldB f.f0 f.f1
def lineB (a : ByteArray) : Bool := decide (1 ≤ (a.size : Int) ∧ (a.size : Int) ≤ 80) && inB 32 126 a.data.toList
def headB (a : ByteArray) (l : List S40) : Bool := fieldsB l && (lineB a && (decide ((l.length : Int) ≤ 8) && decide (((headT a l).size : Int) ≤ 300)))
theorem fieldsB_cons (f : S40) (l : List S40) : fieldsB (f :: l) = (fieldB f.f0 f.f1 && fieldsB l) := rfl
theorem isLine_ev (a : ByteArray) (ha : a.size ≤ 9223372036854775806) : Ev (fun k => impl_isLine.f k a) (lineB a) := by
  simp only [impl_isLine.f]
  unfold lineB
  refine Ev.via (in_impl _ _ _) ?_
  by_cases c : 1 ≤ (a.size : Int) ∧ (a.size : Int) ≤ 80
  · rw [decide_eq_true c, Bool.true_and]; exact Ev.yes rfl (Ev.bind (bytesIn_ev a 32 126 (by omega)) (Ev.now _))
  · rw [decide_eq_false c, Bool.false_and]; exact Ev.no (by simp) (Ev.now _)
theorem headOk_impl_l (a : ByteArray) (l : List S40) (hl : l.length ≤ 9223372036854775806) (hs : a.size + hsz l + 4 ≤ 9223372036854775806) (d : Nat) : ∀ i : Nat, i ≤ l.length → l.length - i = d → Ev (fun k => impl_HeadOk.l0 k l (l.length : Int) (i : Int) a l) (fieldsB (l.drop i) && (lineB a && (decide ((l.length : Int) ≤ 8) && decide (((headT a l).size : Int) ≤ 300)))) := by
  induction d with
  | zero =>
    intro i hi hd
    refine Ev.succ ?_
    simp only [impl_HeadOk.l0]
    rw [List.drop_eq_nil_of_le (by omega), show fieldsB [] = true from rfl, Bool.true_and]
    refine Ev.no (by omega) (Ev.bind (isLine_ev a (by omega)) ?_)
    by_cases c : lineB a = true
    · rw [c, Bool.true_and]
      refine Ev.yes rfl ?_
      by_cases c2 : (l.length : Int) ≤ 8
      · rw [decide_eq_true c2, Bool.true_and]; exact Ev.yes c2 (Ev.bind (text_impl a l hl (by omega)) (Ev.now _))
      · rw [decide_eq_false c2, Bool.false_and]; exact Ev.no c2 (Ev.now _)
    · rw [Bool.eq_false_iff.2 c, Bool.false_and]; exact Ev.no (by simp) (Ev.now _)
  | succ d ih =>
    intro i hi hd
    have hlt : i < l.length := by omega
    have hm := hsz_mem (List.getElem_mem hlt)
    refine Ev.succ ?_
    simp only [impl_HeadOk.l0]
    rw [wnat i _ hlt (by omega), rdF_get l i hlt, drop_get l i hlt, fieldsB_cons]
    refine Ev.yes (by omega) (Ev.yes (by omega) (Ev.yes (by omega) (Ev.bind (fieldOk_impl _ _ (by omega) (by omega)) ?_)))
    by_cases c : fieldB l[i].f0 l[i].f1 = true
    · rw [c, Bool.true_and]; exact Ev.yes rfl (ih (i + 1) (by omega) (by omega))
    · rw [Bool.eq_false_iff.2 c, Bool.false_and, Bool.false_and]; exact Ev.no (by simp) (Ev.now _)
theorem headOk_impl (a : ByteArray) (l : List S40) (hl : l.length ≤ 9223372036854775806) (hs : a.size + hsz l + 4 ≤ 9223372036854775806) : Ev (fun k => impl_HeadOk.f k a l) (headB a l) := by
  simp only [impl_HeadOk.f]
  exact headOk_impl_l a l hl hs l.length 0 (by omega) (by omega)
end Go.Proofs.YtiibecpllokhiaaDoor.Q
namespace Go.Proofs.YtiibecpllokhiaaDoor.Q
open Go.RowKit Go.Proofs.YtiibecpllokhiaaDoorW.PrintWords Go.Proofs.YtiibecpllokhiaaDoorW.PrintLast Go.Proofs.YtiibecpllokhiaaDoorW.PrintMore
set_option linter.unusedSimpArgs false
theorem suf13 (s : ByteArray) : suf s (⟨#[13]⟩ : ByteArray) = decide (s.data.toList.getLast? = some 13) := by
  unfold suf
  rw [toL, Lib.extract_data]
  have hz : (⟨#[13]⟩ : ByteArray).size = 1 := rfl
  have hL := sizeL s
  rw [hz, toL]
  rcases List.eq_nil_or_concat s.data.toList with e | ⟨l, b, e⟩
  · rw [e] at hL ⊢
    rw [decide_eq_false (by simp at hL; omega)]; simp
  · rw [List.concat_eq_append] at e
    rw [e] at hL ⊢
    rw [List.length_append, List.length_singleton] at hL
    rw [decide_eq_true (by omega), Bool.true_and, show s.size - 1 = l.length by omega, List.drop_left, show s.size - l.length = 1 by omega]
    simp only [List.take_succ_cons, List.take_zero, List.getLast?_append, List.getLast?_singleton, Option.some_or, Option.some.injEq]
    rw [Bool.eq_iff_iff, beq_iff_eq, decide_eq_true_iff]
    show ([b] = [13]) ↔ _
    simp
theorem chop_eq (l : List UInt8) : chop l = if l.getLast? = some 13 then l.take (l.length - 1) else l := by
  induction l with
  | nil => rfl
  | cons b r ih =>
    rw [chop]
    cases r with
    | nil =>
      by_cases c : b = 13
      · subst c; simp
      · simp [c, chop]
    | cons c r =>
      rw [if_neg (by simp), ih]
      have e : (b :: c :: r).getLast? = (c :: r).getLast? := by simp [List.getLast?_cons]
      rw [e]
      split
      · simp only [List.length_cons]; rw [show r.length + 1 + 1 - 1 = (r.length + 1 - 1) + 1 by omega, List.take_succ_cons]
      · rfl
theorem trimSuf_ev (s : ByteArray) (hs : s.size ≤ 9223372036854775807) : strings_TrimSuffix.f s (⟨#[13]⟩ : ByteArray) = some (ba (chop s.data.toList)) := by
  have hz : (⟨#[13]⟩ : ByteArray).size = 1 := rfl
  have e : stringslite_HasSuffix.f s (⟨#[13]⟩ : ByteArray) = some (suf s (⟨#[13]⟩ : ByteArray)) := by
    simp only [stringslite_HasSuffix.f]
    unfold suf
    by_cases c : (s.size : Int) ≥ ((⟨#[13]⟩ : ByteArray).size : Int)
    · have hw : wrap64 ((s.size : Int) - ((⟨#[13]⟩ : ByteArray).size : Int)) = ((s.size - (⟨#[13]⟩ : ByteArray).size : Nat) : Int) := by rw [w64 (by omega) (by omega)]; omega
      rw [if_pos c, hw, if_pos (by omega), if_pos (by omega), decide_eq_true (by omega), Bool.true_and, Int.toNat_natCast]
    · rw [if_neg c, decide_eq_false (by omega), Bool.false_and]
  simp only [strings_TrimSuffix.f, stringslite_TrimSuffix.f, e, Option.bind_some, suf13]
  rw [chop_eq]
  by_cases c : s.data.toList.getLast? = some 13
  · have hp : 1 ≤ s.size := by
      rcases Nat.eq_zero_or_pos s.size with h | h
      · have : s.data.toList = [] := List.eq_nil_of_length_eq_zero (by rw [sizeL]; exact h)
        rw [this] at c; cases c
      · exact h
    have hw : wrap64 ((s.size : Int) - ((⟨#[13]⟩ : ByteArray).size : Int)) = ((s.size - 1 : Nat) : Int) := by rw [hz, w64 (by omega) (by omega)]; omega
    rw [decide_eq_true c, if_pos c, if_pos rfl, hw, if_pos (by omega), if_pos (by omega), Int.toNat_natCast, ext_ba, List.drop_zero, Nat.sub_zero, sizeL]; rfl
  · rw [decide_eq_false c, if_neg c, if_neg (by simp), ba_of]; rfl
theorem contains_cl (l : List UInt8) : Lib.containsAny l [13, 10] = !(cl l) := by
  unfold Lib.containsAny
  induction l with
  | nil => rfl
  | cons b l ih =>
    rw [Lib.indexAny, cl_cons]
    have hg := Lib.indexAny_ge [13, 10] l
    by_cases c : ([13, 10] : List UInt8).contains b = true
    · rw [if_pos c]
      simp only [List.contains_cons, List.contains_nil, Bool.or_false, Bool.or_eq_true, beq_iff_eq] at c
      rcases c with rfl | rfl <;> simp
    · rw [if_neg c]
      have c' := Bool.eq_false_iff.2 c
      simp only [List.contains_cons, List.contains_nil, Bool.or_false, Bool.or_eq_false_iff, beq_eq_false_iff_ne] at c'
      rw [show (b == (10 : UInt8)) = false from beq_eq_false_iff_ne.2 c'.2, show (b == (13 : UInt8)) = false from beq_eq_false_iff_ne.2 c'.1]
      simp only [Bool.not_false, Bool.true_and]
      rw [← ih]
      by_cases d : Lib.indexAny l [13, 10] = -1
      · rw [d]; decide
      · rw [show (Lib.indexAny l [13, 10] == -1) = false from by simpa using d]
        simp only [Bool.false_eq_true, if_false]
        rw [decide_eq_true (by omega), decide_eq_true (by omega)]
def restB (t : List UInt8) (first : Bool) : Bool := cl (chop t) && (!first || (decide (((chop t).length : Int) ≤ 80) && inB 32 126 (chop t)))
theorem chop_len (t : List UInt8) : (chop t).length ≤ t.length := by
  rw [chop_eq]; split
  · rw [List.length_take]; omega
  · omega
theorem restOk_ev (s : ByteArray) (first : Bool) (hs : s.size ≤ 4000000000) : Ev (fun k => impl_restOk.f k s first) (restB s.data.toList first) := by
  simp only [impl_restOk.f]
  have hl := chop_len s.data.toList
  rw [sizeL] at hl
  refine Ev.via (trimSuf_ev s (by omega)) (Ev.via (a := !(cl (chop s.data.toList))) (by unfold strings_ContainsAny.f; rw [if_pos ⟨by rw [ba_size]; omega, rfl⟩, ba_toL, contains_cl]) ?_)
  unfold restB
  by_cases c : cl (chop s.data.toList) = true
  · rw [c]
    refine Ev.no (by simp) ?_
    cases first with
    | false => exact Ev.no (by simp) (Ev.now _)
    | true =>
      refine Ev.yes rfl ?_
      rw [ba_size]
      by_cases d : ((chop s.data.toList).length : Int) ≤ 80
      · rw [decide_eq_true d]
        have := bytesIn_ev (ba (chop s.data.toList)) 32 126 (by rw [ba_size]; omega)
        rw [ba_toL] at this
        exact Ev.yes d (Ev.bind this (Ev.now _))
      · rw [decide_eq_false d]; exact Ev.no d (Ev.now _)
  · rw [Bool.eq_false_iff.2 c]; exact Ev.yes (by simp) (Ev.now _)
theorem low_ba (l : List UInt8) : impl_lower.all (ba l) = ba (l.map impl_lower.one) := by
  apply ba_ext; rw [ba_toL]; unfold impl_lower.all ba; simp
/-- The field that a line tells, and whether it is one. -/
def fldF (t : List UInt8) : ByteArray × ByteArray × Bool :=
  (ba ((ct [58] t).1.map impl_lower.one), ba (Lib.trimB (ct [58] t).2.1 32), fieldB (ba ((ct [58] t).1.map impl_lower.one)) (ba (Lib.trimB (ct [58] t).2.1 32)))
def fldL (t : List UInt8) : Option S40 := if (ct [58] t).2.2 = true ∧ (fldF t).2.2 = true then some ⟨(fldF t).1, (fldF t).2.1⟩ else none
theorem trim_len (l : List UInt8) : (Lib.trimB l 32).length ≤ l.length := by
  unfold Lib.trimB Lib.trimLeftB Lib.trimRightB
  have h1 := (List.dropWhile_sublist (l := (l.reverse.dropWhile (· == (32 : UInt8))).reverse) (· == (32 : UInt8))).length_le
  have h2 := (List.dropWhile_sublist (l := l.reverse) (· == (32 : UInt8))).length_le
  rw [List.length_reverse] at h1 h2
  omega
theorem ct_len {p t : List UInt8} : (ct p t).1.length ≤ t.length ∧ (ct p t).2.1.length ≤ t.length := by
  cases h : (ct p t).2.2 with
  | true =>
    have := congrArg List.length (ct_true h)
    simp only [List.length_append] at this
    omega
  | false =>
    refine ⟨by rw [ct_false h]; omega, ?_⟩
    cases t with
    | nil => simp [ct]
    | cons b t =>
      rw [ct] at h ⊢
      split at h
      · cases h
      · rename_i c
        rw [if_neg c]
        split at h
        · cases h
        · rename_i c2; rw [if_neg c2]; simp
theorem readField_ev (s : ByteArray) (hs : s.size ≤ 1048576) : EvP (fun k => impl_readField.f k s) (fun r => (fldL s.data.toList = none ∧ r.2.2 = false) ∨ (∃ f, fldL s.data.toList = some f ∧ r.1 = f.f0 ∧ r.2.1 = f.f1 ∧ r.2.2 = true)) := by
  simp only [impl_readField.f]
  have hc := @ct_len [58] s.data.toList
  rw [sizeL] at hc
  have ht := trim_len (ct [58] s.data.toList).2.1
  have e1 : impl_lower.f (ba (ct [58] s.data.toList).1) = some (fldF s.data.toList).1 := by
    unfold impl_lower.f; rw [if_pos (by rw [ba_size]; omega), low_ba]; rfl
  have e2 : strings_Trim.f (ba (ct [58] s.data.toList).2.1) (⟨#[32]⟩ : ByteArray) = some (fldF s.data.toList).2.1 := by
    unfold strings_Trim.f; rw [if_pos ⟨rfl, by rw [ba_size]; omega⟩, ba_toL]; rfl
  have e0 := cut_ev s (⟨#[58]⟩ : ByteArray) (by simp) (by omega)
  have l1 : (fldF s.data.toList).1.size ≤ 1048576 := by unfold fldF; rw [ba_size, List.length_map]; omega
  have l2 : (fldF s.data.toList).2.1.size ≤ 1048576 := by unfold fldF; rw [ba_size]; omega
  unfold fldL
  by_cases c : (ct [58] s.data.toList).2.2 = true
  · refine ⟨((fldF s.data.toList).1, (fldF s.data.toList).2.1, (fldF s.data.toList).2.2), Ev.via e0 (Ev.via e1 (Ev.via e2 (Ev.yes c (Ev.bind (fieldOk_impl _ _ (by omega) (by omega)) (Ev.now _))))), ?_⟩
    by_cases d : (fldF s.data.toList).2.2 = true
    · rw [if_pos ⟨c, d⟩]; exact .inr ⟨_, rfl, rfl, rfl, d⟩
    · rw [if_neg (fun h => d h.2)]; exact .inl ⟨rfl, Bool.eq_false_iff.2 d⟩
  · refine ⟨((fldF s.data.toList).1, (fldF s.data.toList).2.1, false), Ev.via e0 (Ev.via e1 (Ev.via e2 (Ev.no c (Ev.now _)))), ?_⟩
    rw [if_neg (fun h => c h.1)]; exact .inl ⟨rfl, rfl⟩
def badR : ByteArray × List S40 × Int × Int := (⟨#[]⟩, [], 0, 2)
def moreR : ByteArray × List S40 × Int × Int := (⟨#[]⟩, [], 0, 1)
def endR (n : Nat) : ByteArray × List S40 × Int × Int := if (n : Int) > 300 then badR else moreR
def doneR (n : Nat) (y : List UInt8) (a : ByteArray) (l : List S40) : ByteArray × List S40 × Int × Int := if headB a l = true ∧ ((n - y.length : Nat) : Int) ≤ 300 then (a, l, ((n - y.length : Nat) : Int), 0) else badR
def rdL (n : Nat) : Nat → List UInt8 → ByteArray → List S40 → ByteArray × List S40 × Int × Int
  | 0, _, _, _ => badR
  | d + 1, t, a, l => match ln t with
    | none => badR
    | some (_, none) => endR n
    | some (x, some y) => if x = [] then doneR n y a l else (match fldL x with
      | none => badR
      | some f => if l.length = 8 then badR else rdL n d y a (l ++ [f]))
def rdH (t : List UInt8) : ByteArray × List S40 × Int × Int := match ln t with
  | none => badR
  | some (x, none) => if (inB 32 126 x && decide ((x.length : Int) ≤ 80)) = true then endR t.length else badR
  | some (x, some y) => if lineB (ba x) = true then rdL t.length t.length y (ba x) [] else badR
theorem rdL_none {n d : Nat} {t : List UInt8} {a : ByteArray} {l : List S40} (h : ln t = none) : rdL n (d + 1) t a l = badR := by rw [rdL, h]
theorem rdL_more {n d : Nat} {t x : List UInt8} {a : ByteArray} {l : List S40} (h : ln t = some (x, none)) : rdL n (d + 1) t a l = endR n := by rw [rdL, h]
theorem rdL_done {n d : Nat} {t y : List UInt8} {a : ByteArray} {l : List S40} (h : ln t = some ([], some y)) : rdL n (d + 1) t a l = doneR n y a l := by rw [rdL, h]; rfl
theorem rdL_bad {n d : Nat} {t x y : List UInt8} {a : ByteArray} {l : List S40} (h : ln t = some (x, some y)) (hx : x ≠ []) (hf : fldL x = none) : rdL n (d + 1) t a l = badR := by rw [rdL, h]; simp only [if_neg hx, hf]
theorem rdL_full {n d : Nat} {t x y : List UInt8} {a : ByteArray} {l : List S40} {f : S40} (h : ln t = some (x, some y)) (hx : x ≠ []) (hf : fldL x = some f) (h8 : l.length = 8) : rdL n (d + 1) t a l = badR := by rw [rdL, h]; simp only [if_neg hx, hf, if_pos h8]
theorem rdL_go {n d : Nat} {t x y : List UInt8} {a : ByteArray} {l : List S40} {f : S40} (h : ln t = some (x, some y)) (hx : x ≠ []) (hf : fldL x = some f) (h8 : l.length ≠ 8) : rdL n (d + 1) t a l = rdL n d y a (l ++ [f]) := by rw [rdL, h]; simp only [if_neg hx, hf, if_neg h8]
theorem rdH_none {t : List UInt8} (h : ln t = none) : rdH t = badR := by unfold rdH; rw [h]
theorem rdH_more {t x : List UInt8} (h : ln t = some (x, none)) (c : (inB 32 126 x && decide ((x.length : Int) ≤ 80)) = true) : rdH t = endR t.length := by unfold rdH; rw [h]; simp only [if_pos c]
theorem rdH_part {t x : List UInt8} (h : ln t = some (x, none)) (c : ¬ (inB 32 126 x && decide ((x.length : Int) ≤ 80)) = true) : rdH t = badR := by unfold rdH; rw [h]; simp only [if_neg c]
theorem rdH_bad {t x y : List UInt8} (h : ln t = some (x, some y)) (c : ¬ lineB (ba x) = true) : rdH t = badR := by unfold rdH; rw [h]; simp only [if_neg c]
theorem rdH_go {t x y : List UInt8} (h : ln t = some (x, some y)) (c : lineB (ba x) = true) : rdH t = rdL t.length t.length y (ba x) [] := by unfold rdH; rw [h]; simp only [if_pos c]
theorem endR_big {n : Nat} (h : (n : Int) > 300) : endR n = badR := if_pos h
theorem endR_small {n : Nat} (h : ¬ (n : Int) > 300) : endR n = moreR := if_neg h
theorem doneR_no {n : Nat} {y : List UInt8} {a : ByteArray} {l : List S40} (h : ¬ headB a l = true) : doneR n y a l = badR := if_neg fun h2 => h h2.1
theorem doneR_big {n : Nat} {y : List UInt8} {a : ByteArray} {l : List S40} (h : ((n - y.length : Nat) : Int) > 300) : doneR n y a l = badR := if_neg fun h2 => by have := h2.2; omega
theorem doneR_ok {n : Nat} {y : List UInt8} {a : ByteArray} {l : List S40} (hb : headB a l = true) (h : ¬ ((n - y.length : Nat) : Int) > 300) : doneR n y a l = (a, l, ((n - y.length : Nat) : Int), 0) := if_pos ⟨hb, by omega⟩
theorem cut_crlf (s : ByteArray) (hs : s.size ≤ 4000000000) : strings_Cut.f s (⟨#[13, 10]⟩ : ByteArray) = some (ba (ct [13, 10] s.data.toList).1, ba (ct [13, 10] s.data.toList).2.1, (ct [13, 10] s.data.toList).2.2) := cut_ev s ⟨#[13, 10]⟩ (by simp) hs
/-- The fields read so far. -/
def okF (l : List S40) : Prop := l.length ≤ 8 ∧ ∀ f ∈ l, f.f0.size ≤ 20 ∧ f.f1.size ≤ 60
theorem okF_hsz {l : List S40} (h : ∀ f ∈ l, f.f0.size ≤ 20 ∧ f.f1.size ≤ 60) : hsz l ≤ 84 * l.length := by
  induction l with
  | nil => simp [hsz]
  | cons f r ih =>
    have h1 := h f (by simp)
    have h2 := ih (fun g hg => h g (by simp [hg]))
    rw [hsz, List.length_cons]; omega
theorem fld_size {n v : ByteArray} (h : fieldB n v = true) : n.size ≤ 20 ∧ v.size ≤ 60 := by
  unfold fieldB nameB at h
  simp only [Bool.and_eq_true, decide_eq_true_iff] at h
  omega
theorem fldL_size {t : List UInt8} {f : S40} (h : fldL t = some f) : f.f0.size ≤ 20 ∧ f.f1.size ≤ 60 := by
  unfold fldL at h
  split at h
  · rename_i c
    obtain rfl := Option.some.inj h
    exact fld_size c.2
  · cases h
theorem okF_add {l : List S40} {t : List UInt8} {f : S40} (h : okF l) (h8 : l.length ≠ 8) (hf : fldL t = some f) : okF (l ++ [f]) := by
  refine ⟨by rw [List.length_append, List.length_singleton]; have := h.1; omega, fun g hg => ?_⟩
  rcases List.mem_append.1 hg with hg | hg
  · exact h.2 g hg
  · rw [List.mem_singleton] at hg; subst hg; exact fldL_size hf
theorem inB_cl {l : List UInt8} (h : cl l = false) : inB 32 126 l = false := by
  obtain ⟨b, hb, h⟩ := cl_ex h
  unfold inB
  rw [List.all_eq_false]
  refine ⟨b, hb, ?_⟩
  rcases h with rfl | rfl <;> decide
theorem nmB_map {l : List UInt8} (h : cl l = false) : nmB (l.map impl_lower.one) = false := by
  obtain ⟨b, hb, h⟩ := cl_ex h
  unfold nmB
  rw [List.all_eq_false]
  refine ⟨impl_lower.one b, List.mem_map_of_mem hb, ?_⟩
  rcases h with rfl | rfl <;> decide
theorem trim_mem {l : List UInt8} {b : UInt8} (hb : b ∈ l) (h : b ≠ 32) : b ∈ Lib.trimB l 32 := by
  have hm : ∀ m : List UInt8, b ∈ m → b ∈ m.dropWhile (· == (32 : UInt8)) := fun m hm => by
    have := List.takeWhile_append_dropWhile (p := (· == (32 : UInt8))) (l := m)
    rw [← this] at hm
    rcases List.mem_append.1 hm with hm | hm
    · have := List.all_eq_true.1 (List.all_takeWhile (p := (· == (32 : UInt8))) (l := m)) b hm
      exact absurd (beq_iff_eq.1 this) h
    · exact hm
  unfold Lib.trimB Lib.trimLeftB Lib.trimRightB
  refine hm _ ?_
  rw [List.mem_reverse]
  refine hm _ ?_
  rw [List.mem_reverse]
  exact hb
theorem fldL_cl {t : List UInt8} (h : cl t = false) : fldL t = none := by
  unfold fldL
  by_cases c : (ct [58] t).2.2 = true
  · rw [if_neg]
    rintro ⟨_, hf⟩
    have e := ct_true c
    unfold fldF fieldB nameB at hf
    simp only [Bool.and_eq_true, ba_toL] at hf
    rw [e, cl_app, cl_app] at h
    by_cases c1 : cl (ct [58] t).1 = true
    · rw [c1] at h
      have h2 : cl (ct [58] t).2.1 = false := by
        simpa [cl] using h
      obtain ⟨b, hb, hh⟩ := cl_ex h2
      have hm := trim_mem hb (by rcases hh with rfl | rfl <;> decide)
      have h3 : cl (Lib.trimB (ct [58] t).2.1 32) = false := by
        unfold cl
        rw [List.all_eq_false]
        refine ⟨b, hm, ?_⟩
        rcases hh with rfl | rfl <;> decide
      rw [inB_cl h3] at hf
      simp at hf
    · rw [nmB_map (Bool.eq_false_iff.2 c1)] at hf
      simp at hf
  · rw [if_neg (fun h => c h.1)]
theorem ct_shrink {t : List UInt8} (h : (ct [13, 10] t).2.2 = true) : (ct [13, 10] t).1.length + 2 + (ct [13, 10] t).2.1.length = t.length := by
  have := congrArg List.length (ct_true h)
  simp only [List.length_append, List.length_cons, List.length_nil] at this
  omega
theorem rd_impl_l (s : ByteArray) (a : ByteArray) (hs : s.size ≤ 1048576) (ha : a.size ≤ 1048576) (ha0 : 0 < a.size) (d : Nat) : ∀ (t : List UInt8) (i : Int) (l : List S40), t.length < d → t.length ≤ s.size → 0 < i → i + t.length ≤ 4194304 → okF l → Ev (fun k => impl_ReadHead.l0 k s (ba t) i a l) (rdL s.size d t a l) := by
  have ea : (a.toList == ([] : List UInt8)) = false := by
    rw [toL, beq_eq_false_iff_ne]
    intro h
    have := congrArg List.length h
    rw [sizeL, List.length_nil] at this
    omega
  induction d with
  | zero => intro t i l h; omega
  | succ d ih =>
    intro t i l hd ht hi0 hi1 hok
    have hz := okF_hsz hok.2
    have h8 := hok.1
    refine Ev.succ ?_
    simp only [impl_ReadHead.l0]
    have e0 := cut_crlf (ba t) (by rw [ba_size]; omega)
    rw [ba_toL] at e0
    refine Ev.via e0 ?_
    by_cases c : (ct [13, 10] t).2.2 = true
    · have hln := ln_true t c
      have hsh := ct_shrink c
      refine Ev.yes c (Ev.no (by omega) ?_)
      simp only [ba_list, ba_size]
      by_cases q : cl (ct [13, 10] t).1 = true
      · rw [if_pos q] at hln
        by_cases x0 : (ct [13, 10] t).1 = []
        · rw [x0] at hln
          rw [rdL_done hln]
          refine Ev.yes x0 (Ev.bind (headOk_impl a l (by omega) (by omega)) ?_)
          have hw : wrap64 ((s.size : Int) - ((ct [13, 10] t).2.1.length : Int)) = ((s.size - (ct [13, 10] t).2.1.length : Nat) : Int) := by rw [w64 (by omega) (by omega)]; omega
          rw [hw]
          by_cases hb : headB a l = true
          · refine Ev.yes hb (Ev.succ ?_)
            simp only [impl_ReadHead.j1]
            by_cases g : ((s.size - (ct [13, 10] t).2.1.length : Nat) : Int) > 300
            · rw [doneR_big g]
              exact Ev.yes (decide_eq_true g) (Ev.now _)
            · rw [doneR_ok hb g]
              exact Ev.no (by rw [decide_eq_false g]; simp) (Ev.now _)
          · rw [doneR_no hb]
            refine Ev.no hb (Ev.succ ?_)
            simp only [impl_ReadHead.j1]
            exact Ev.yes trivial (Ev.now _)
        · refine Ev.no x0 ?_
          obtain ⟨r, er, hr⟩ := readField_ev (ba (ct [13, 10] t).1) (by rw [ba_size]; omega)
          rw [ba_toL] at hr
          refine Ev.bind er ?_
          rcases hr with ⟨hn, hf⟩ | ⟨f, hn, h1, h2, h3⟩
          · rw [rdL_bad hln x0 hn]; exact Ev.no (by rw [hf]; simp) (Ev.now _)
          · refine Ev.yes h3 ?_
            by_cases g : l.length = 8
            · rw [rdL_full hln x0 hn g]; exact Ev.yes (by omega) (Ev.now _)
            · rw [rdL_go hln x0 hn g, h1, h2, w64 (n := i + 1) (by omega) (by omega)]
              exact Ev.no (by omega) (Ev.yes (by omega) (ih _ (i + 1) (l ++ [f]) (by omega) (by omega) (by omega) (by omega) (okF_add hok g hn)))
      · rw [if_neg q] at hln
        rw [rdL_none hln]
        have x0 : (ct [13, 10] t).1 ≠ [] := by intro h; rw [h] at q; exact q rfl
        refine Ev.no x0 ?_
        obtain ⟨r, er, hr⟩ := readField_ev (ba (ct [13, 10] t).1) (by rw [ba_size]; omega)
        rw [ba_toL, fldL_cl (Bool.eq_false_iff.2 q)] at hr
        refine Ev.bind er ?_
        rcases hr with ⟨_, hf⟩ | ⟨f, hn, _⟩
        · exact Ev.no (by rw [hf]; simp) (Ev.now _)
        · cases hn
    · have hln := ln_false t (Bool.eq_false_iff.2 c)
      refine Ev.no c ?_
      by_cases q : cl (chop t) = true
      · rw [if_pos q] at hln
        rw [rdL_more hln]
        by_cases g : (s.size : Int) > 300
        · rw [endR_big g]; exact Ev.yes g (Ev.now _)
        · rw [endR_small g, ea]
          have er := restOk_ev (ba t) false (by rw [ba_size]; omega)
          rw [ba_toL] at er
          exact Ev.no g (Ev.bind er (Ev.yes (by unfold restB; rw [q]; rfl) (Ev.now _)))
      · rw [if_neg q] at hln
        rw [rdL_none hln]
        by_cases g : (s.size : Int) > 300
        · exact Ev.yes g (Ev.now _)
        · rw [ea]
          have er := restOk_ev (ba t) false (by rw [ba_size]; omega)
          rw [ba_toL] at er
          exact Ev.no g (Ev.bind er (Ev.no (by unfold restB; rw [Bool.eq_false_iff.2 q]; simp) (Ev.now _)))
theorem rd_impl (s : ByteArray) (hs : s.size ≤ 1048576) : Ev (fun k => impl_ReadHead.f k s) (rdH s.data.toList) := by
  simp only [impl_ReadHead.f]
  have hL := sizeL s
  refine Ev.succ ?_
  simp only [impl_ReadHead.l0]
  refine Ev.via (cut_crlf s (by omega)) ?_
  by_cases c : (ct [13, 10] s.data.toList).2.2 = true
  · have hln := ln_true _ c
    have hsh := ct_shrink c
    refine Ev.yes c (Ev.yes trivial (Ev.bind (isLine_ev _ (by rw [ba_size]; omega)) ?_))
    by_cases q : cl (ct [13, 10] s.data.toList).1 = true
    · rw [if_pos q] at hln
      by_cases g : lineB (ba (ct [13, 10] s.data.toList).1) = true
      · rw [rdH_go hln g, hL]
        have h1 : 0 < (ba (ct [13, 10] s.data.toList).1).size := by
          unfold lineB at g
          simp only [Bool.and_eq_true, decide_eq_true_iff] at g
          omega
        rw [show wrap64 (0 + 1) = 1 from by rw [w64 (by omega) (by omega)]; rfl]
        exact Ev.yes g (rd_impl_l s _ hs (by rw [ba_size]; omega) h1 s.size (ct [13, 10] s.data.toList).2.1 1 [] (by omega) (by omega) (by omega) (by omega) ⟨by simp, by simp⟩)
      · rw [rdH_bad hln g]; exact Ev.no g (Ev.now _)
    · rw [if_neg q] at hln
      rw [rdH_none hln]
      have : lineB (ba (ct [13, 10] s.data.toList).1) = false := by
        unfold lineB; rw [ba_toL, inB_cl (Bool.eq_false_iff.2 q), Bool.and_false]
      rw [this]
      exact Ev.no (by simp) (Ev.now _)
  · have hln := ln_false _ (Bool.eq_false_iff.2 c)
    refine Ev.no c ?_
    have er : Ev (fun k => impl_restOk.f k s ((⟨#[]⟩ : ByteArray).toList == ([] : List UInt8))) (restB s.data.toList true) := by
      rw [show ((⟨#[]⟩ : ByteArray).toList == ([] : List UInt8)) = true from by rw [toL]; rfl]
      exact restOk_ev s true (by omega)
    by_cases q : cl (chop s.data.toList) = true
    · rw [if_pos q] at hln
      by_cases g2 : (inB 32 126 (chop s.data.toList) && decide (((chop s.data.toList).length : Int) ≤ 80)) = true
      · rw [rdH_more hln g2, hL]
        by_cases g : (s.size : Int) > 300
        · rw [endR_big g]; exact Ev.yes g (Ev.now _)
        · rw [endR_small g]
          refine Ev.no g (Ev.bind er (Ev.yes ?_ (Ev.now _)))
          unfold restB
          rw [q, Bool.and_comm (decide _), g2]; rfl
      · rw [rdH_part hln g2]
        by_cases g : (s.size : Int) > 300
        · exact Ev.yes g (Ev.now _)
        · refine Ev.no g (Ev.bind er (Ev.no ?_ (Ev.now _)))
          unfold restB
          rw [q, Bool.and_comm (decide _), Bool.eq_false_iff.2 g2]; simp
    · rw [if_neg q] at hln
      rw [rdH_none hln]
      by_cases g : (s.size : Int) > 300
      · exact Ev.yes g (Ev.now _)
      · exact Ev.no g (Ev.bind er (Ev.no (by unfold restB; rw [Bool.eq_false_iff.2 q]; simp) (Ev.now _)))
end Go.Proofs.YtiibecpllokhiaaDoor.Q
namespace Go.Proofs.YtiibecpllokhiaaDoor.Q
open Go.RowKit Go.Proofs.YtiibecpllokhiaaDoorW.PrintWords Go.Proofs.YtiibecpllokhiaaDoorW.PrintLast Go.Proofs.YtiibecpllokhiaaDoorW.PrintMore
theorem ln_at {x : List UInt8} (h : cl x = true) (y : List UInt8) : ln (x ++ 13 :: 10 :: y) = some (x, some y) := by
  induction x with
  | nil => simp [ln, ln13]
  | cons b x ih =>
    rw [cl_cons] at h
    simp only [Bool.and_eq_true, Bool.not_eq_true', beq_eq_false_iff_ne] at h
    rw [List.cons_append, ln, if_neg h.1.1, if_neg h.1.2, ih h.2, lnC]
end Go.Proofs.YtiibecpllokhiaaDoor.Q
namespace Go.Proofs.YtiibecpllokhiaaDoor.Q
open Go.RowKit Go.Proofs.YtiibecpllokhiaaDoorW.PrintWords Go.Proofs.YtiibecpllokhiaaDoorW.PrintLast Go.Proofs.YtiibecpllokhiaaDoorW.PrintMore
theorem Ev.of_mono {α : Type} {g : Nat → Option α} {r : α} (hm : ∀ k, LeO (g k) (g (k + 1))) (K : Nat) (h : g K = some r) : Ev g r := by
  refine ⟨K, fun k hk => ?_⟩
  induction k with
  | zero => obtain rfl : K = 0 := by omega
            exact h
  | succ k ih =>
    by_cases c : K = k + 1
    · rw [← c]; exact h
    · exact hm k _ (ih (by omega))
end Go.Proofs.YtiibecpllokhiaaDoor.Q
namespace Go.Proofs.YtiibecpllokhiaaDoor.Q
open Go.RowKit Go.Proofs.YtiibecpllokhiaaDoorW.PrintWords Go.Proofs.YtiibecpllokhiaaDoorW.PrintLast Go.Proofs.YtiibecpllokhiaaDoorW.PrintMore
theorem and255v (a : Int) : Go.bits .and .i64 a 255 = a % 256 := by
  unfold Go.bits
  simp only [IntKind.wrap_i64]
  have e1 : (BitVec.ofInt IntKind.i64.bits a).toNat = (a % 18446744073709551616).toNat := by rw [BitVec.toNat_ofInt]; rfl
  have e2 : (BitVec.ofInt IntKind.i64.bits 255).toNat = 2 ^ 8 - 1 := by decide
  rw [BitVec.toNat_and, e1, e2, Nat.and_two_pow_sub_one_eq_mod]
  omega
/-- A place in the code that is drawn from. -/
def cu (l : List Int) (i : Int) : Prop := (0 ≤ i ∧ i ≤ l.length) ∧ l.length ≤ 4611686018427387904
theorem byte_ok (l : List Int) (i h : Int) (hc : cu l i) : ∃ x i' h', spec_l01Byte.f l i h = some (x, i', h') ∧ 0 ≤ x ∧ x ≤ 255 ∧ cu l i' := by
  obtain ⟨⟨h0, h1⟩, hl⟩ := hc
  unfold spec_l01Byte.f
  by_cases c : i < (l.length : Int)
  · rw [if_pos c, if_pos h0, w64 (n := i + 1) (by omega) (by omega), and255v]
    exact ⟨_, _, _, rfl, by omega, by omega, ⟨by omega, by omega⟩, hl⟩
  · rw [if_neg c, and255v]
    exact ⟨_, _, _, rfl, by omega, by omega, ⟨by omega, by omega⟩, hl⟩
theorem below_ok (l : List Int) (i h n : Int) (hn : 1 ≤ n) (hc : cu l i) : ∃ x i' h', spec_l01Below.f l i h n = some (x, i', h') ∧ 0 ≤ x ∧ x < n ∧ cu l i' := by
  unfold spec_l01Below.f
  obtain ⟨x1, i1, g1, e1, a1, b1, c1⟩ := byte_ok l i h hc
  rw [if_neg (by omega), e1]
  simp only [Option.bind_some]
  by_cases c : n ≤ 256
  · rw [if_pos c, if_neg (by omega), Int.tmod_eq_emod_of_nonneg a1]
    exact ⟨_, _, _, rfl, Int.emod_nonneg _ (by omega), Int.emod_lt_of_pos _ (by omega), c1⟩
  · obtain ⟨x2, i2, g2, e2, a2, b2, c2⟩ := byte_ok l i1 g1 c1
    obtain ⟨x3, i3, g3, e3, a3, b3, c3⟩ := byte_ok l i2 g2 c2
    obtain ⟨x4, i4, g4, e4, a4, b4, c4⟩ := byte_ok l i3 g3 c3
    rw [if_neg c, e2]
    simp only [Option.bind_some]
    rw [e3]
    simp only [Option.bind_some]
    rw [e4]
    simp only [Option.bind_some]
    rw [w64 (n := x1 * 16777216) (by omega) (by omega), w64 (n := x2 * 65536) (by omega) (by omega), w64 (n := x3 * 256) (by omega) (by omega), w64 (n := x1 * 16777216 + x2 * 65536) (by omega) (by omega), w64 (n := x1 * 16777216 + x2 * 65536 + x3 * 256) (by omega) (by omega),
      w64 (n := x1 * 16777216 + x2 * 65536 + x3 * 256 + x4) (by omega) (by omega), if_neg (by omega), Int.tmod_eq_emod_of_nonneg (by omega)]
    exact ⟨_, _, _, rfl, Int.emod_nonneg _ (by omega), Int.emod_lt_of_pos _ (by omega), c4⟩
theorem byteP (l : List Int) (i h : Int) (hc : cu l i) : EvP (fun _ => spec_l01Byte.f l i h) (fun r => (0 ≤ r.1 ∧ r.1 ≤ 255) ∧ cu l r.2.1) := by
  obtain ⟨x, i', h', e, a, b, c⟩ := byte_ok l i h hc
  exact EvP.const e ⟨⟨a, b⟩, c⟩
theorem belowP (l : List Int) (i h n : Int) (hn : 1 ≤ n) (hc : cu l i) : EvP (fun _ => spec_l01Below.f l i h n) (fun r => (0 ≤ r.1 ∧ r.1 < n) ∧ cu l r.2.1) := by
  obtain ⟨x, i', h', e, a, b, c⟩ := below_ok l i h n hn hc
  exact EvP.const e ⟨⟨a, b⟩, c⟩
theorem cu_zero {l : List Int} (hl : l.length ≤ 4611686018427387904) : cu l 0 := ⟨⟨by omega, by omega⟩, hl⟩
theorem newP_l (l : List Int) (hl : l.length ≤ 4611686018427387904) (d : Nat) : ∀ (h : Int) (i : Nat), i ≤ l.length → l.length - i = d → EvP (fun k => spec_l01New.l0 k l h (i : Int)) (fun r => r.1 = l ∧ cu l r.2.1) := by
  induction d with
  | zero => intro h i hi hd; refine EvP.succ ?_; simp only [spec_l01New.l0]; exact EvP.no (by omega) (EvP.ret ⟨rfl, cu_zero hl⟩)
  | succ d ih =>
    intro h i hi hd
    have hlt : i < l.length := by omega
    refine EvP.succ ?_
    simp only [spec_l01New.l0]
    refine EvP.yes (by omega) (EvP.ite (fun c => EvP.yes (by omega) ?_) (fun c => EvP.ret ⟨rfl, cu_zero hl⟩))
    rw [wnat i _ hlt (by omega)]
    exact ih _ (i + 1) (by omega) (by omega)
theorem newP (l : List Int) (hl : l.length ≤ 4611686018427387904) : EvP (fun k => spec_l01New.f k l) (fun r => r.1 = l ∧ cu l r.2.1) := newP_l l hl l.length _ 0 (by omega) (by omega)
end Go.Proofs.YtiibecpllokhiaaDoor.Q
namespace Go.Proofs.YtiibecpllokhiaaDoor.Q
open Go.RowKit Go.Proofs.YtiibecpllokhiaaDoorW.PrintWords Go.Proofs.YtiibecpllokhiaaDoorW.PrintLast Go.Proofs.YtiibecpllokhiaaDoorW.PrintMore
def Pl (r : List Int) : Prop := r.length = 12 ∧ ∀ p ∈ r, 0 ≤ p ∧ p < 10000
theorem placesP_l (l : List Int) (d : Nat) : ∀ (i : Nat) (x : List Int) (ci ch : Int), i ≤ 12 → 12 - i = d → x.length = i → (∀ p ∈ x, 0 ≤ p ∧ p < 10000) → cu l ci → EvP (fun k => spec_DrawPlaces.l0 k x (i : Int) l ci ch) Pl := by
  induction d with
  | zero =>
    intro i x ci ch hi hd hx hp hc
    refine EvP.succ ?_
    simp only [spec_DrawPlaces.l0]
    exact EvP.no (by omega) (EvP.ret ⟨by omega, hp⟩)
  | succ d ih =>
    intro i x ci ch hi hd hx hp hc
    refine EvP.succ ?_
    simp only [spec_DrawPlaces.l0]
    rw [wnat i 12 (by omega) (by omega)]
    refine EvP.yes (by omega) (EvP.bind (belowP l _ _ 10000 (by omega) hc) fun y hy => EvP.yes (by omega) ?_)
    refine ih (i + 1) _ _ _ (by omega) (by omega) (by simp; omega) (fun p h => ?_) hy.2
    rcases List.mem_append.mp h with h | h
    · exact hp p h
    · rw [List.mem_singleton.mp h]; exact hy.1
theorem placesP (l : List Int) (hl : l.length ≤ 4611686018427387904) : EvP (fun k => spec_DrawPlaces.f k l) Pl := by
  simp only [spec_DrawPlaces.f]
  refine EvP.bind (newP l hl) fun c hc => ?_
  rw [hc.1]
  exact EvP.bind (byteP l _ _ hc.2) fun y hy => placesP_l l 12 0 [] _ _ (by omega) (by omega) rfl (fun p h => absurd h (by simp)) hy.2
end Go.Proofs.YtiibecpllokhiaaDoor.Q
namespace Go.Proofs.YtiibecpllokhiaaDoor.Q
open Go.RowKit Go.Proofs.YtiibecpllokhiaaDoorW.PrintWords Go.Proofs.YtiibecpllokhiaaDoorW.PrintLast Go.Proofs.YtiibecpllokhiaaDoorW.PrintMore
def fieldF (name : ByteArray) : List S40 → ByteArray × Bool
  | [] => ((⟨#[]⟩ : ByteArray), false)
  | f :: r => if f.f0.toList = name.toList then (f.f1, true) else fieldF name r
theorem fieldOf_impl_l (name : ByteArray) (l : List S40) (hl : l.length ≤ 9223372036854775807) (d : Nat) : ∀ i : Nat, i ≤ l.length → l.length - i = d → Ev (fun k => impl_FieldOf.l0 k name l (l.length : Int) (i : Int)) (fieldF name (l.drop i)) := by
  induction d with
  | zero => intro i hi hd; refine Ev.succ ?_; simp only [impl_FieldOf.l0]; rw [List.drop_eq_nil_of_le (by omega)]; exact Ev.no (by omega) (Ev.now _)
  | succ d ih =>
    intro i hi hd
    have hlt : i < l.length := by omega
    refine Ev.succ ?_
    simp only [impl_FieldOf.l0]
    rw [rdF_get l i hlt, wnat i _ hlt hl, drop_get l i hlt]
    refine Ev.yes (by omega) (Ev.yes (by omega) (Ev.yes (by omega) ?_))
    by_cases c : l[i].f0.toList = name.toList
    · rw [fieldF, if_pos c]; exact Ev.yes c (Ev.now _)
    · rw [fieldF, if_neg c]; exact Ev.no c (ih (i + 1) (by omega) (by omega))
theorem fieldOf_impl (a : ByteArray) (l : List S40) (name : ByteArray) (hl : l.length ≤ 9223372036854775807) : Ev (fun k => impl_FieldOf.f k a l name) (fieldF name l) := fieldOf_impl_l name l hl l.length 0 (by omega) (by omega)
end Go.Proofs.YtiibecpllokhiaaDoor.Q
namespace Go.Proofs.YtiibecpllokhiaaDoor.Q
open Go.RowKit Go.Proofs.YtiibecpllokhiaaDoorW.PrintWords Go.Proofs.YtiibecpllokhiaaDoorW.PrintLast Go.Proofs.YtiibecpllokhiaaDoorW.PrintMore
def keyO (i : Int) : ByteArray := rdOf ByteArray.empty ([(⟨#[88, 45, 75, 101, 121]⟩ : ByteArray), (⟨#[120, 45, 107, 101, 121]⟩ : ByteArray), (⟨#[88, 45, 75, 69, 89]⟩ : ByteArray)] : List ByteArray) i
def spO (n : Nat) : ByteArray := ⟨(List.replicate n (32 : UInt8)).toArray⟩
def textO (i : Int) (s t : ByteArray) : ByteArray := ((((((⟨#[71, 69, 84, 32, 47, 97, 32, 72, 84, 84, 80, 47, 49, 46, 49, 13, 10]⟩ : ByteArray) ++ keyO i) ++ (⟨#[58]⟩ : ByteArray)) ++ s) ++ (⟨#[118, 32, 119]⟩ : ByteArray)) ++ t) ++ (⟨#[13, 10, 13, 10]⟩ : ByteArray)
def otherP (n : Int) (r : ByteArray × List S40 × Int × Int) : Bool := decide (r.2.2.1 = n) && decide (r.2.2.2 = 0) && (match r.2.1 with
  | [f] => decide (f.f0.data.toList = [120, 45, 107, 101, 121]) && decide (f.f1.data.toList = [118, 32, 119])
  | _ => false)
theorem other_row : ∀ b : Fin 4, laws_row.f 8 ((b.val : Nat) : Int) (⟨#[32]⟩ : ByteArray) = some (spO b.val) ∧ (spO b.val).size ≤ 3 := by decide +kernel
theorem other_key : ∀ a : Fin 3, (keyO ((a.val : Nat) : Int)).size ≤ 5 := by decide +kernel
theorem other_all : ∀ (a : Fin 3) (b c : Fin 4), (impl_ReadHead.f 60 (textO ((a.val : Nat) : Int) (spO b.val) (spO c.val))).map (otherP ((textO ((a.val : Nat) : Int) (spO b.val) (spO c.val)).size : Int)) = some true := by decide +kernel
theorem other_bad1 : (impl_ReadHead.f 60 (⟨#[71, 69, 84, 32, 47, 97, 32, 72, 84, 84, 80, 47, 49, 46, 49, 10, 120, 58, 32, 121, 13, 10, 13, 10]⟩ : ByteArray)).map (·.2.2.2) = some 2 := by decide +kernel
theorem other_bad2 : (impl_ReadHead.f 60 (⟨#[71, 69, 84, 32, 47, 97, 32, 72, 84, 84, 80, 47, 49, 46, 49, 13, 10, 120, 32, 121, 13, 10, 13, 10]⟩ : ByteArray)).map (·.2.2.2) = some 2 := by decide +kernel
theorem row_all (n : Nat) (b : UInt8) (d : Nat) : ∀ (i : Nat) (o : ByteArray), i ≤ n → n ≤ 100000 → n - i = d → o.data.toList = List.replicate i b → Ev (fun k => laws_row.l0 k (n : Int) (⟨#[b]⟩ : ByteArray) o (i : Int)) (ba (List.replicate n b)) := by
  induction d with
  | zero =>
    intro i o hi hn hd ho
    obtain rfl : i = n := by omega
    refine Ev.succ ?_
    simp only [laws_row.l0]
    rw [← ho, ba_of]
    exact Ev.no (by omega) (Ev.now _)
  | succ d ih =>
    intro i o hi hn hd ho
    refine Ev.succ ?_
    simp only [laws_row.l0]
    rw [wnat i n (by omega) (by omega)]
    have hz : o.size = i := by rw [← sizeL, ho, List.length_replicate]
    exact Ev.yes (by omega) (Ev.yes (by rw [hz]; show i + 1 ≤ _; omega) (ih (i + 1) _ (by omega) hn (by omega) (by rw [List.replicate_succ', ← ho]; simp)))
theorem row_ev (n : Nat) (b : UInt8) (hn : n ≤ 100000) : Ev (fun k => laws_row.f k (n : Int) (⟨#[b]⟩ : ByteArray)) (ba (List.replicate n b)) := by
  simp only [laws_row.f]
  exact row_all n b n 0 (⟨#[]⟩ : ByteArray) (by omega) hn (by omega) rfl
theorem ln_rep (n : Nat) : ln (List.replicate n (98 : UInt8)) = some (List.replicate n 98, none) := by
  induction n with
  | zero => rfl
  | succ n ih => rw [List.replicate_succ, ln, if_neg (by decide), if_neg (by decide), ih, lnC]
theorem pureFnOther (l0 : List Int) (_ : l0.length ≤ maxLen) (_ : ∀ x ∈ l0, (Lit.int .u8 x).wf = true) : ∃ k, laws_FnOther.f k l0 = some true := by
  refine Ev.rounds (g := fun k => laws_FnOther.f k l0) ?_
  simp only [laws_FnOther.f, laws_big.f, Option.bind_some]
  by_cases c : (l0.length : Int) > 1048576
  · exact Ev.yes (decide_eq_true c) (Ev.now _)
  refine Ev.no (by simpa using c) ?_
  obtain ⟨p, ep, hp, hq⟩ := placesP l0 (by omega)
  refine Ev.bind ep ?_
  have p0 := hq _ (List.getElem_mem (show 0 < p.length by omega))
  have p1 := hq _ (List.getElem_mem (show 1 < p.length by omega))
  have p2 := hq _ (List.getElem_mem (show 2 < p.length by omega))
  have g0 := rd_get p 0 (by omega)
  have g1 := rd_get p 1 (by omega)
  have g2 := rd_get p 2 (by omega)
  rw [show ((0 : Nat) : Int) = 0 from rfl] at g0
  rw [show ((1 : Nat) : Int) = 1 from rfl] at g1
  rw [show ((2 : Nat) : Int) = 2 from rfl] at g2
  rw [g0, g1, g2, Int.tmod_eq_emod_of_nonneg p0.1, Int.tmod_eq_emod_of_nonneg p1.1, Int.tmod_eq_emod_of_nonneg p2.1]
  obtain ⟨a, ha⟩ : ∃ a : Fin 3, p[0] % 3 = ((a.val : Nat) : Int) := ⟨⟨(p[0] % 3).toNat, by omega⟩, by dsimp only; omega⟩
  obtain ⟨b, hb⟩ : ∃ b : Fin 4, p[1] % 4 = ((b.val : Nat) : Int) := ⟨⟨(p[1] % 4).toNat, by omega⟩, by dsimp only; omega⟩
  obtain ⟨c, hc⟩ : ∃ c : Fin 4, p[2] % 4 = ((c.val : Nat) : Int) := ⟨⟨(p[2] % 4).toNat, by omega⟩, by dsimp only; omega⟩
  rw [ha, hb, hc]
  have hac := a.isLt
  obtain ⟨eb, zb⟩ := other_row b
  obtain ⟨ec, zc⟩ := other_row c
  have zk := other_key a
  have er := other_all a b c
  have eb' : Ev (fun k => laws_row.f k ((b.val : Nat) : Int) (⟨#[32]⟩ : ByteArray)) (spO b.val) := Ev.of_mono (laws_row.mono _ _) 8 eb
  have ec' : Ev (fun k => laws_row.f k ((c.val : Nat) : Int) (⟨#[32]⟩ : ByteArray)) (spO c.val) := Ev.of_mono (laws_row.mono _ _) 8 ec
  obtain ⟨⟨r1, r2, r3, r4⟩, er1, er2⟩ := Option.map_eq_some_iff.1 er
  have er' := Ev.of_mono (impl_ReadHead.mono _) 60 er1
  unfold otherP at er2
  simp only [Bool.and_eq_true, decide_eq_true_iff] at er2
  obtain ⟨⟨e3, e4⟩, e5⟩ := er2
  obtain ⟨f, rfl⟩ : ∃ f, r2 = [f] := by
    cases r2 with
    | nil => simp at e5
    | cons f r =>
      cases r with
      | nil => exact ⟨f, rfl⟩
      | cons g r => simp at e5
  simp only [Bool.and_eq_true, decide_eq_true_iff] at e5
  obtain ⟨x1, ex1, hx1⟩ := Option.map_eq_some_iff.1 other_bad1
  obtain ⟨x2, ex2, hx2⟩ := Option.map_eq_some_iff.1 other_bad2
  have ex1' := Ev.of_mono (impl_ReadHead.mono _) 60 ex1
  have ex2' := Ev.of_mono (impl_ReadHead.mono _) 60 ex2
  have ew := row_ev 300 98 (by omega)
  have ez := rd_impl ((⟨#[97, 13, 10]⟩ : ByteArray) ++ ba (List.replicate 300 98)) (by rw [ByteArray.size_append, ba_size, List.length_replicate]; show 3 + 300 ≤ _; omega)
  rw [show ((⟨#[97, 13, 10]⟩ : ByteArray) ++ ba (List.replicate 300 98)).data.toList = 97 :: 13 :: 10 :: List.replicate 300 98 from by rw [ByteArray.data_append, Array.toList_append, ba_toL]; rfl] at ez
  have ez2 : (rdH (97 :: 13 :: 10 :: List.replicate 300 98)).2.2.2 = 2 := by
    have e := ln_at (x := [97]) (by decide) (List.replicate 300 98)
    rw [List.singleton_append] at e
    rw [rdH_go e (by decide), List.length_cons, rdL_more (ln_rep 300), endR_big (by simp only [List.length_cons, List.length_replicate]; omega)]
    rfl
  have ef := fieldOf_impl r1 [f] (⟨#[120, 45, 107, 101, 121]⟩ : ByteArray) (by simp)
  have hf : fieldF (⟨#[120, 45, 107, 101, 121]⟩ : ByteArray) [f] = (f.f1, true) := by
    rw [fieldF, if_pos (by rw [toL, toL, e5.1])]
  rw [hf] at ef
  have k17 : ∀ (x : ByteArray) (n : Nat), (⟨#[71, 69, 84, 32, 47, 97, 32, 72, 84, 84, 80, 47, 49, 46, 49, 13, 10]⟩ : ByteArray).size = 17 := fun _ _ => rfl
  have k1 : (⟨#[58]⟩ : ByteArray).size = 1 := rfl
  have k3 : (⟨#[118, 32, 119]⟩ : ByteArray).size = 3 := rfl
  have kk := k17 ByteArray.empty 0
  have zk' : (rdOf ByteArray.empty ([(⟨#[88, 45, 75, 101, 121]⟩ : ByteArray), (⟨#[120, 45, 107, 101, 121]⟩ : ByteArray), (⟨#[88, 45, 75, 69, 89]⟩ : ByteArray)] : List ByteArray) ((a.val : Nat) : Int)).size ≤ 5 := zk
  refine Ev.yes (by omega) (Ev.yes (by omega) (Ev.yes (by show ((a.val : Nat) : Int) < 3; omega) (Ev.yes (by omega) (Ev.yes (by rw [ByteArray.size_append]; omega) (Ev.yes (by omega) (Ev.bind eb' (Ev.yes (by simp only [ByteArray.size_append]; omega) (Ev.yes (by simp only [ByteArray.size_append]; omega) (Ev.yes (by omega) (Ev.bind ec' (Ev.yes (by simp only [ByteArray.size_append]; omega) (Ev.yes (by simp only [ByteArray.size_append]; omega) ?_))))))))))))
  refine Ev.bind er' (Ev.bind ef (Ev.bind ex1' (Ev.bind ex2' (Ev.bind ew (Ev.yes (by rw [ba_size, List.length_replicate]; omega) (Ev.bind ez (Ev.yes e4 (Ev.yes e3 (Ev.yes rfl (Ev.yes (by rw [toL]; exact e5.2) (Ev.yes hx1 (Ev.yes hx2 ?_))))))))))))
  rw [ez2]
  exact Ev.now _
end Go.Proofs.YtiibecpllokhiaaDoor.Q
