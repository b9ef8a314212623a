import Derived.Test.YtiibecpllokhiaaDoorHtWords
import Derived.Lib.Strings
import Derived.Test.YtiibecpllokhiaaDoorHtG31
import Derived.Test.YtiibecpllokhiaaDoorHtG33
import Derived.Test.YtiibecpllokhiaaDoorHtG111
import Derived.Lib.IndexAny
import Derived.Test.YtiibecpllokhiaaDoorHtG50
import Derived.Test.YtiibecpllokhiaaDoorHtG72
import Derived.Test.YtiibecpllokhiaaDoorHtG65
import Derived.Test.YtiibecpllokhiaaDoorHtG68
import Derived.Test.YtiibecpllokhiaaDoorHtG58
import Derived.Test.YtiibecpllokhiaaDoorHtG56
import Derived.Test.YtiibecpllokhiaaDoorHtG20
import Derived.Test.YtiibecpllokhiaaDoorHtG61
import Derived.Test.YtiibecpllokhiaaDoorHtG92
import Derived.Test.YtiibecpllokhiaaDoorHtG62
import Derived.Test.YtiibecpllokhiaaDoorHtG28
import Derived.Test.YtiibecpllokhiaaDoorHtG49
import Derived.Test.YtiibecpllokhiaaDoorHtG15
import Derived.Test.YtiibecpllokhiaaDoorHtG17
import Derived.Test.YtiibecpllokhiaaDoorHtG13
import Derived.Test.YtiibecpllokhiaaDoorHtG18
import Derived.Test.YtiibecpllokhiaaDoorHtG79
import Derived.Test.YtiibecpllokhiaaDoorHtG99
import Derived.Test.YtiibecpllokhiaaDoorHtG77
import Derived.Test.YtiibecpllokhiaaDoorHtG44
import Derived.Test.YtiibecpllokhiaaDoorHtG30
import Derived.Test.YtiibecpllokhiaaDoorHtG11
namespace Go.Proofs.YtiibecpllokhiaaDoor.Q
open Go.RowKit Go.Proofs.YtiibecpllokhiaaDoorW.PrintWords Go.Proofs.YtiibecpllokhiaaDoorW.PrintLast Go.Proofs.YtiibecpllokhiaaDoorW.PrintMore
/-- With enough rounds g tells something of which P holds. -/
def EvP {α : Type} (g : Nat → Option α) (P : α → Prop) : Prop := ∃ r, Ev g r ∧ P r
theorem Ev.succ {α : Type} {g : Nat → Option α} {r : α} (h : Ev (fun k => g (k + 1)) r) : Ev g r := Ev.step (fun _ => rfl) h
theorem Ev.yes {α : Type} {f g : Nat → Option α} {r : α} {c : Prop} [Decidable c] (hc : c) (h : Ev f r) : Ev (fun k => if c then f k else g k) r := Ev.congr (fun _ => if_pos hc) h
theorem Ev.no {α : Type} {f g : Nat → Option α} {r : α} {c : Prop} [Decidable c] (hc : ¬ c) (h : Ev g r) : Ev (fun k => if c then f k else g k) r := Ev.congr (fun _ => if_neg hc) h
theorem Ev.via {α β : Type} {g : Option α} {f : Nat → α → Option β} {a : α} {r : β} (h : g = some a) (k : Ev (fun n => f n a) r) : Ev (fun n => g.bind (f n)) r := Ev.congr (fun _ => by rw [h]; rfl) k
theorem Ev.const {α : Type} {g : Option α} {a : α} (h : g = some a) : Ev (fun _ => g) a := ⟨0, fun _ _ => h⟩
theorem EvP.bind {α β : Type} {g : Nat → Option α} {f : Nat → α → Option β} {P : α → Prop} {Q : β → Prop} (h : EvP g P) (k : ∀ a, P a → EvP (fun n => f n a) Q) : EvP (fun n => (g n).bind (f n)) Q := by
  obtain ⟨a, ha, hp⟩ := h
  obtain ⟨r, hr, hq⟩ := k a hp
  exact ⟨r, Ev.bind ha hr, hq⟩
theorem EvP.ite {α : Type} {f g : Nat → Option α} {P : α → Prop} {c : Prop} [Decidable c] (h1 : c → EvP f P) (h2 : ¬ c → EvP g P) : EvP (fun k => if c then f k else g k) P := by
  by_cases hc : c
  · obtain ⟨r, hr, hp⟩ := h1 hc; exact ⟨r, Ev.yes hc hr, hp⟩
  · obtain ⟨r, hr, hp⟩ := h2 hc; exact ⟨r, Ev.no hc hr, hp⟩
theorem EvP.yes {α : Type} {f g : Nat → Option α} {P : α → Prop} {c : Prop} [Decidable c] (hc : c) (h : EvP f P) : EvP (fun k => if c then f k else g k) P := EvP.ite (fun _ => h) (fun hn => absurd hc hn)
theorem EvP.no {α : Type} {f g : Nat → Option α} {P : α → Prop} {c : Prop} [Decidable c] (hc : ¬ c) (h : EvP g P) : EvP (fun k => if c then f k else g k) P := EvP.ite (fun hn => absurd hn hc) (fun _ => h)
theorem EvP.ret {α : Type} {a : α} {P : α → Prop} (h : P a) : EvP (fun _ => some a) P := ⟨a, Ev.now a, h⟩
theorem EvP.ev {α : Type} {g : Nat → Option α} {r : α} {P : α → Prop} (h : Ev g r) (hp : P r) : EvP g P := ⟨r, h, hp⟩
theorem EvP.const {α : Type} {g : Option α} {a : α} {P : α → Prop} (h : g = some a) (hp : P a) : EvP (fun _ => g) P := ⟨a, Ev.const h, hp⟩
theorem EvP.succ {α : Type} {g : Nat → Option α} {P : α → Prop} (h : EvP (fun k => g (k + 1)) P) : EvP g P := by
  obtain ⟨r, hr, hp⟩ := h
  exact ⟨r, Ev.succ hr, hp⟩
theorem EvP.imp {α : Type} {g : Nat → Option α} {P Q : α → Prop} (h : EvP g P) (k : ∀ r, P r → Q r) : EvP g Q := by
  obtain ⟨r, hr, hp⟩ := h
  exact ⟨r, hr, k r hp⟩
theorem EvP.is {α : Type} {g : Nat → Option α} {r : α} (h : EvP g (fun x => x = r)) : Ev g r := by
  obtain ⟨_, hr, rfl⟩ := h
  exact hr
end Go.Proofs.YtiibecpllokhiaaDoor.Q
namespace Go.Proofs.YtiibecpllokhiaaDoor.Q
open Go.RowKit Go.Proofs.YtiibecpllokhiaaDoorW.PrintWords Go.Proofs.YtiibecpllokhiaaDoorW.PrintLast Go.Proofs.YtiibecpllokhiaaDoorW.PrintMore
theorem w64 {n : Int} (h0 : -9223372036854775808 ≤ n) (h1 : n < 9223372036854775808) : wrap64 n = n := by unfold wrap64; omega
theorem wnat (i n : Nat) (h : i < n) (hn : n ≤ 9223372036854775807) : wrap64 ((i : Int) + 1) = ((i + 1 : Nat) : Int) := by rw [w64 (by omega) (by omega)]; rfl
theorem drop_get {α : Type} (l : List α) (i : Nat) (h : i < l.length) : l.drop i = l[i] :: l.drop (i + 1) := List.drop_eq_getElem_cons h
theorem take_set {α : Type} (x : List α) (i : Nat) (v : α) (h : i < x.length) : (x.set i v).take (i + 1) = x.take i ++ [v] := by
  have h2 : i < (x.set i v).length := by rw [List.length_set]; exact h
  rw [List.take_succ_eq_append_getElem h2, List.take_set, List.set_eq_of_length_le (by simp; omega)]
  simp
theorem toL (s : ByteArray) : s.toList = s.data.toList := Lib.toList_data s
theorem sizeL (s : ByteArray) : s.data.toList.length = s.size := (Lib.size_eq s).symm
theorem ba_ext {s t : ByteArray} (h : s.data.toList = t.data.toList) : s = t := ByteArray.ext (Array.toList_inj.1 h)
theorem ext_size (s : ByteArray) (a b : Nat) (h : b ≤ s.size) : (s.extract a b).size = b - a := by
  rw [← sizeL, Lib.extract_data, List.length_take, List.length_drop, sizeL]; omega
theorem bt_get (s : ByteArray) (i : Nat) (h : i < s.size) : bt s (i : Int) = ((s.data.toList[i]'(by rw [sizeL]; exact h)).toNat : Int) := by simp [bt, h]; rfl
theorem bt_rng (s : ByteArray) (i : Int) : 0 ≤ bt s i ∧ bt s i ≤ 255 := bt_range s i
/-- Are all bytes in lo .. hi. -/
def inB (lo hi : Int) (l : List UInt8) : Bool := l.all fun b => decide (lo ≤ (b.toNat : Int) ∧ (b.toNat : Int) ≤ hi)
end Go.Proofs.YtiibecpllokhiaaDoor.Q
namespace Go.Proofs.YtiibecpllokhiaaDoor.Q
open Go.RowKit Go.Proofs.YtiibecpllokhiaaDoorW.PrintWords Go.Proofs.YtiibecpllokhiaaDoorW.PrintLast Go.Proofs.YtiibecpllokhiaaDoorW.PrintMore
def pre (s p : ByteArray) : Bool := decide (p.size ≤ s.size) && ((s.extract 0 p.size).toList == p.toList)
def suf (s p : ByteArray) : Bool := decide (p.size ≤ s.size) && ((s.extract (s.size - p.size) s.size).toList == p.toList)
end Go.Proofs.YtiibecpllokhiaaDoor.Q
namespace Go.Proofs.YtiibecpllokhiaaDoor.Q
open Go.RowKit Go.Proofs.YtiibecpllokhiaaDoorW.PrintWords Go.Proofs.YtiibecpllokhiaaDoorW.PrintLast Go.Proofs.YtiibecpllokhiaaDoorW.PrintMore
set_option linter.unusedSimpArgs false
def ba (l : List UInt8) : ByteArray := ⟨l.toArray⟩
theorem ba_toL (l : List UInt8) : (ba l).data.toList = l := by simp [ba]
theorem ba_list (l : List UInt8) : (ba l).toList = l := by rw [toL, ba_toL]
theorem ba_size (l : List UInt8) : (ba l).size = l.length := by rw [← sizeL, ba_toL]
theorem ba_of (s : ByteArray) : ba s.data.toList = s := by apply ba_ext; rw [ba_toL]
def ct (p : List UInt8) : List UInt8 → List UInt8 × List UInt8 × Bool
  | [] => ([], [], false)
  | b :: t => if p.isPrefixOf (b :: t) then ([], (b :: t).drop p.length, true) else if (ct p t).2.2 = true then (b :: (ct p t).1, (ct p t).2.1, true) else (b :: t, [], false)
theorem cut_ct (p : List UInt8) (hp : p ≠ []) (t : List UInt8) : Lib.cut t p = ct p t := by
  induction t with
  | nil =>
    cases p with
    | nil => exact absurd rfl hp
    | cons a p => rfl
  | cons b t ih =>
    rw [ct]
    unfold Lib.cut at ih ⊢
    rw [Lib.index]
    by_cases c : p.isPrefixOf (b :: t) = true
    · rw [if_pos c, if_pos c]; simp
    · rw [if_neg c, if_neg c, ← ih]
      have g : -1 ≤ Lib.index t p := by
        clear ih c
        induction t with
        | nil => rw [Lib.index]; split <;> decide
        | cons a t ih => rw [Lib.index]; split; decide; split; decide; omega
      by_cases c2 : Lib.index t p = -1
      · rw [c2]; simp
      · have h0 : 0 ≤ Lib.index t p := by omega
        have e1 : (Lib.index t p == -1) = false := by simpa using c2
        rw [e1]
        simp only [if_pos h0, Bool.false_eq_true, if_false, if_true]
        rw [if_pos (by omega)]
        have e2 : (Lib.index t p + 1).toNat = (Lib.index t p).toNat + 1 := by omega
        rw [e2, List.take_succ_cons, show (Lib.index t p).toNat + 1 + p.length = (Lib.index t p).toNat + p.length + 1 by omega, List.drop_succ_cons]
theorem ct_true {p t : List UInt8} (h : (ct p t).2.2 = true) : t = (ct p t).1 ++ p ++ (ct p t).2.1 := by
  induction t with
  | nil => simp [ct] at h
  | cons b t ih =>
    rw [ct] at h ⊢
    by_cases c : p.isPrefixOf (b :: t) = true
    · rw [if_pos c]
      obtain ⟨r, hr⟩ := List.isPrefixOf_iff_prefix.1 c
      simp only [List.nil_append]
      rw [← hr, List.drop_left]
    · rw [if_neg c] at h ⊢
      by_cases c2 : (ct p t).2.2 = true
      · rw [if_pos c2]
        have := ih c2
        simp only [List.cons_append]
        rw [← this]
      · rw [if_neg c2] at h; simp at h
theorem ct_false {p t : List UInt8} (h : (ct p t).2.2 = false) : (ct p t).1 = t := by
  cases t with
  | nil => rfl
  | cons b t =>
    rw [ct] at h ⊢
    by_cases c : p.isPrefixOf (b :: t) = true
    · rw [if_pos c] at h; simp at h
    · rw [if_neg c] at h ⊢
      by_cases c2 : (ct p t).2.2 = true
      · rw [if_pos c2] at h; simp at h
      · rw [if_neg c2]
theorem cut_ev (s : ByteArray) (p : ByteArray) (hp : p.data.toList ≠ []) (hs : s.size ≤ 4000000000) : strings_Cut.f s p = some (ba (ct p.data.toList s.data.toList).1, ba (ct p.data.toList s.data.toList).2.1, (ct p.data.toList s.data.toList).2.2) := by
  unfold strings_Cut.f
  rw [if_pos (by omega), cut_ct _ hp]; rfl
/-- No end of a line in it. -/
def cl (l : List UInt8) : Bool := l.all fun b => !(b == 10) && !(b == 13)
theorem cl_cons (b : UInt8) (l : List UInt8) : cl (b :: l) = ((!(b == 10) && !(b == 13)) && cl l) := rfl
theorem cl_app (x y : List UInt8) : cl (x ++ y) = (cl x && cl y) := by simp [cl, List.all_append]
theorem cl_ex {l : List UInt8} (h : cl l = false) : ∃ b ∈ l, b = 10 ∨ b = 13 := by
  unfold cl at h
  rw [List.all_eq_false] at h
  obtain ⟨b, hb, h⟩ := h
  refine ⟨b, hb, ?_⟩
  by_cases c : b = 10
  · exact .inl c
  · by_cases d : b = 13
    · exact .inr d
    · simp [c, d] at h
/-- A line: none: there is none; its end may not be there. -/
def ln13 : List UInt8 → Option (List UInt8 × Option (List UInt8))
  | [] => some ([], none)
  | c :: r => if c = 10 then some ([], some r) else none
def lnC (b : UInt8) : Option (List UInt8 × Option (List UInt8)) → Option (List UInt8 × Option (List UInt8))
  | none => none
  | some p => some (b :: p.1, p.2)
def ln : List UInt8 → Option (List UInt8 × Option (List UInt8))
  | [] => some ([], none)
  | b :: r => if b = 10 then none else if b = 13 then ln13 r else lnC b (ln r)
def chop : List UInt8 → List UInt8
  | [] => []
  | b :: r => if r = [] ∧ b = 13 then [] else b :: chop r
theorem chop_c {b : UInt8} {r : List UInt8} (h : ¬ (r = [] ∧ b = 13)) : chop (b :: r) = b :: chop r := by rw [chop, if_neg h]
theorem pre2 (b : UInt8) (t : List UInt8) : ([13, 10] : List UInt8).isPrefixOf (b :: t) = (13 == b && (match t with | [] => false | c :: _ => 10 == c)) := by
  cases t with
  | nil => simp [List.isPrefixOf]
  | cons c t => simp [List.isPrefixOf]
theorem ln_true (t : List UInt8) (h : (ct [13, 10] t).2.2 = true) : ln t = if cl (ct [13, 10] t).1 = true then some ((ct [13, 10] t).1, some (ct [13, 10] t).2.1) else none := by
  induction t with
  | nil => simp [ct] at h
  | cons b t ih =>
    rw [ct] at h ⊢
    by_cases c : ([13, 10] : List UInt8).isPrefixOf (b :: t) = true
    · rw [if_pos c]
      rw [pre2] at c
      cases t with
      | nil => simp at c
      | cons d t =>
        simp only [Bool.and_eq_true, beq_iff_eq] at c
        obtain ⟨rfl, rfl⟩ := c
        simp [ln, ln13, cl]
    · rw [if_neg c] at h ⊢
      rw [pre2] at c
      by_cases c2 : (ct [13, 10] t).2.2 = true
      · rw [if_pos c2]
        have ih := ih c2
        simp only [cl_cons]
        rw [ln]
        by_cases d1 : b = 10
        · subst d1; simp
        · by_cases d2 : b = 13
          · subst d2
            cases t with
            | nil => simp [ct] at c2
            | cons d t =>
              have : d ≠ 10 := by intro e; subst e; simp at c
              simp [this, ln13]
          · rw [if_neg d1, if_neg d2, ih]
            by_cases q : cl (ct [13, 10] t).1 = true
            · simp [q, d1, d2, lnC]
            · simp [q, d1, d2, lnC]
      · rw [if_neg c2] at h; simp at h
theorem ln_false (t : List UInt8) (h : (ct [13, 10] t).2.2 = false) : ln t = if cl (chop t) = true then some (chop t, none) else none := by
  induction t with
  | nil => simp [ln, chop, cl]
  | cons b t ih =>
    rw [ct] at h
    by_cases c : ([13, 10] : List UInt8).isPrefixOf (b :: t) = true
    · rw [if_pos c] at h; simp at h
    · rw [if_neg c] at h
      rw [pre2] at c
      by_cases c2 : (ct [13, 10] t).2.2 = true
      · rw [if_pos c2] at h; simp at h
      · have ih := ih (Bool.eq_false_iff.2 c2)
        rw [ln]
        by_cases d1 : b = 10
        · subst d1
          rw [if_pos rfl, chop_c (by rintro ⟨_, h⟩; exact absurd h (by decide)), cl_cons]; simp
        · rw [if_neg d1]
          by_cases d2 : b = 13
          · subst d2
            rw [if_pos rfl]
            cases t with
            | nil => simp [cl, ln13, chop]
            | cons d t =>
              have : d ≠ 10 := by intro e; subst e; simp at c
              rw [chop_c (by rintro ⟨h, _⟩; cases h), cl_cons]; simp [this, ln13]
          · rw [if_neg d2, ih, chop_c (fun h => d2 h.2), cl_cons]
            by_cases q : cl (chop t) = true
            · simp [q, d1, d2, lnC]
            · simp [q, d1, d2, lnC]
theorem ln_take {t x : List UInt8} {y : Option (List UInt8)} (h : ln t = some (x, y)) : t.take x.length = x ∧ x.length ≤ t.length ∧ ∀ r, y = some r → t.drop (x.length + 2) = r ∧ x.length + 2 + r.length = t.length := by
  induction t generalizing x with
  | nil => simp only [ln, Option.some.injEq, Prod.mk.injEq] at h; obtain ⟨rfl, rfl⟩ := h; simp
  | cons b t ih =>
    rw [ln] at h
    by_cases d1 : b = 10
    · rw [if_pos d1] at h; cases h
    · rw [if_neg d1] at h
      by_cases d2 : b = 13
      · rw [if_pos d2] at h
        cases t with
        | nil => simp only [ln13, Option.some.injEq, Prod.mk.injEq] at h; obtain ⟨rfl, rfl⟩ := h; simp
        | cons c t =>
          rw [ln13] at h
          by_cases d3 : c = 10
          · rw [if_pos d3] at h
            simp only [Option.some.injEq, Prod.mk.injEq] at h; obtain ⟨rfl, rfl⟩ := h
            refine ⟨rfl, by simp, fun r hr => ?_⟩
            obtain rfl := Option.some.inj hr
            simp; omega
          · rw [if_neg d3] at h; cases h
      · rw [if_neg d2] at h
        cases e : ln t with
        | none => rw [e] at h; simp [lnC] at h
        | some p =>
          rw [e] at h
          simp only [lnC, Option.some.injEq, Prod.mk.injEq] at h
          obtain ⟨rfl, rfl⟩ := h
          obtain ⟨h1, h2, h3⟩ := ih e
          refine ⟨by rw [List.length_cons, List.take_succ_cons, h1], by simp only [List.length_cons]; omega, fun r hr => ?_⟩
          obtain ⟨h4, h5⟩ := h3 r hr
          refine ⟨?_, by simp only [List.length_cons]; omega⟩
          rw [List.length_cons, show p.1.length + 1 + 2 = p.1.length + 2 + 1 by omega, List.drop_succ_cons, h4]
theorem ext_ba (s : ByteArray) (a b : Nat) : s.extract a b = ba ((s.data.toList.drop a).take (b - a)) := by
  apply ba_ext; rw [ba_toL, Lib.extract_data]
/-- A line of the reference, and the place behind it. -/
def lnR (s : ByteArray) (at_ : Nat) (n : Nat) : Option (List UInt8 × Option (List UInt8)) → ByteArray × Int
  | none => (⟨#[]⟩, -1)
  | some (x, none) => (ba ((s.data.toList.drop at_).take (n + x.length)), 0)
  | some (x, some r) => (ba ((s.data.toList.drop at_).take (n + x.length)), ((s.size - r.length : Nat) : Int))
theorem line_l (s : ByteArray) (at_ : Nat) (hs : s.size ≤ 9223372036854775800) (d : Nat) : ∀ i : Nat, at_ ≤ i → i ≤ s.size → s.size - i = d → Ev (fun k => spec_l09Line.l0 k s (at_ : Int) (i : Int)) (lnR s at_ (i - at_) (ln (s.data.toList.drop i))) := by
  induction d with
  | zero =>
    intro i h0 hi hd
    obtain rfl : i = s.size := by omega
    refine Ev.succ ?_
    simp only [spec_l09Line.l0]
    rw [show s.data.toList.drop s.size = [] from List.drop_eq_nil_of_le (by rw [sizeL]; omega)]
    simp only [ln, lnR, Int.toNat_natCast, ext_ba, List.length_nil, Nat.add_zero]
    exact Ev.no (by omega) (Ev.yes (by omega) (Ev.yes (by omega) (Ev.now _)))
  | succ d ih =>
    intro i h0 hi hd
    have hlt : i < s.size := by omega
    have hL := sizeL s
    refine Ev.succ ?_
    simp only [spec_l09Line.l0]
    rw [wnat i s.size hlt (by omega), drop_get s.data.toList i (by rw [sizeL]; exact hlt), bt_get s i hlt]
    have hz := ih (i + 1) (by omega) (by omega) (by omega)
    have hd2 : s.data.toList.drop (i + 1) = [] ∨ ∃ h : i + 1 < s.size, s.data.toList.drop (i + 1) = s.data.toList[i + 1]'(by rw [sizeL]; exact h) :: s.data.toList.drop (i + 2) := by
      by_cases q : i + 1 < s.size
      · exact .inr ⟨q, drop_get s.data.toList (i + 1) (by rw [sizeL]; exact q)⟩
      · exact .inl (List.drop_eq_nil_of_le (by rw [sizeL]; omega))
    generalize s.data.toList[i]'(by rw [sizeL]; exact hlt) = b at *
    refine Ev.yes (by omega) (Ev.yes (by omega) ?_)
    have bn : ∀ (v : UInt8) (n : Nat), v.toNat = n → (((b.toNat : Int) = (n : Int)) ↔ b = v) := fun v n hv => ⟨fun h => UInt8.toNat_inj.1 (by omega), fun h => by rw [h, hv]⟩
    rw [ln]
    by_cases c : b = 10
    · rw [if_pos c]
      exact Ev.yes ((bn 10 10 rfl).2 c) (Ev.now _)
    · rw [if_neg c]
      refine Ev.no (fun h => c ((bn 10 10 rfl).1 h)) ?_
      by_cases c2 : b = 13
      · rw [if_pos c2]
        refine Ev.yes ((bn 13 13 rfl).2 c2) ?_
        rcases hd2 with e | ⟨hq, e⟩
        · have : i + 1 = s.size := by
            have := congrArg List.length e
            rw [List.length_drop, List.length_nil, sizeL] at this
            omega
          rw [e]
          simp only [ln13, lnR, Int.toNat_natCast, ext_ba, List.length_nil, Nat.add_zero]
          exact Ev.yes (by omega) (Ev.yes (by omega) (Ev.yes (by omega) (Ev.yes (by omega) (Ev.now _))))
        · rw [e, bt_get s (i + 1) hq, ln13]
          generalize s.data.toList[i + 1]'(by rw [sizeL]; exact hq) = b2 at *
          have bn2 : ((b2.toNat : Int) = 10) ↔ b2 = 10 := ⟨fun h => UInt8.toNat_inj.1 (by show b2.toNat = 10; omega), fun h => by rw [h]; rfl⟩
          refine Ev.no (by omega) (Ev.yes (by omega) (Ev.yes (by omega) ?_))
          by_cases c3 : b2 = 10
          · rw [if_pos c3]
            refine Ev.yes (bn2.2 c3) ?_
            simp only [lnR, Int.toNat_natCast, ext_ba, List.length_nil, Nat.add_zero]
            have e3 : wrap64 ((i : Int) + 2) = ((s.size - (s.data.toList.drop (i + 2)).length : Nat) : Int) := by
              rw [w64 (by omega) (by omega), List.length_drop, sizeL]; omega
            rw [e3]
            exact Ev.yes (by omega) (Ev.yes (by omega) (Ev.yes (by omega) (Ev.now _)))
          · rw [if_neg c3]
            exact Ev.no (fun h => c3 (bn2.1 h)) (Ev.now _)
      · rw [if_neg c2]
        refine Ev.no (fun h => c2 ((bn 13 13 rfl).1 h)) ?_
        refine Ev.congr (fun _ => rfl) ?_
        have : lnR s at_ (i - at_) (lnC b (ln (s.data.toList.drop (i + 1)))) = lnR s at_ (i + 1 - at_) (ln (s.data.toList.drop (i + 1))) := by
          cases ln (s.data.toList.drop (i + 1)) with
          | none => rfl
          | some p =>
            obtain ⟨x, y⟩ := p
            cases y with
            | none => simp only [lnC, lnR, List.length_cons]; rw [show i - at_ + (x.length + 1) = i + 1 - at_ + x.length by omega]
            | some y => simp only [lnC, lnR, List.length_cons]; rw [show i - at_ + (x.length + 1) = i + 1 - at_ + x.length by omega]
        rw [this]
        exact hz
def lnE (n : Nat) : Option (List UInt8 × Option (List UInt8)) → ByteArray × Int
  | none => (⟨#[]⟩, -1)
  | some (x, none) => (ba x, 0)
  | some (x, some r) => (ba x, ((n - r.length : Nat) : Int))
theorem line_ev (s : ByteArray) (at_ : Nat) (hs : s.size ≤ 9223372036854775800) (ha : at_ ≤ s.size) : Ev (fun k => spec_l09Line.f k s (at_ : Int)) (lnE s.size (ln (s.data.toList.drop at_))) := by
  have h := line_l s at_ hs (s.size - at_) at_ (Nat.le_refl _) ha rfl
  simp only [spec_l09Line.f]
  have e : lnR s at_ (at_ - at_) (ln (s.data.toList.drop at_)) = lnE s.size (ln (s.data.toList.drop at_)) := by
    cases e : ln (s.data.toList.drop at_) with
    | none => rfl
    | some p =>
      obtain ⟨x, y⟩ := p
      have := (ln_take e).1
      cases y <;> simp only [lnR, lnE, Nat.sub_self, Nat.zero_add, this]
  rw [e] at h
  exact h
end Go.Proofs.YtiibecpllokhiaaDoor.Q
namespace Go.Proofs.YtiibecpllokhiaaDoor.Q
open Go.RowKit Go.Proofs.YtiibecpllokhiaaDoorW.PrintWords Go.Proofs.YtiibecpllokhiaaDoorW.PrintLast Go.Proofs.YtiibecpllokhiaaDoorW.PrintMore
theorem in_spec (a b c : Int) : spec_l01In.f a b c = some (decide (b ≤ a ∧ a ≤ c)) := by
  unfold spec_l01In.f
  by_cases h : a ≥ b
  · rw [if_pos h]; simp [show b ≤ a from h]
  · rw [if_neg h]; simp [show ¬ b ≤ a from h]
theorem in_impl (a b c : Int) : impl_within.f a b c = some (decide (b ≤ a ∧ a ≤ c)) := by
  unfold impl_within.f
  by_cases h : a ≥ b
  · rw [if_pos h]; simp [show b ≤ a from h]
  · rw [if_neg h]; simp [show ¬ b ≤ a from h]
end Go.Proofs.YtiibecpllokhiaaDoor.Q
namespace Go.Proofs.YtiibecpllokhiaaDoor.Q
open Go.RowKit Go.Proofs.YtiibecpllokhiaaDoorW.PrintWords Go.Proofs.YtiibecpllokhiaaDoorW.PrintLast Go.Proofs.YtiibecpllokhiaaDoorW.PrintMore
theorem bytesIn_l (s : ByteArray) (lo hi : Int) (hs : s.size ≤ 9223372036854775807) (d : Nat) : ∀ i : Nat, i ≤ s.size → s.size - i = d → Ev (fun k => impl_bytesIn.l0 k s lo hi (s.size : Int) (i : Int)) (inB lo hi (s.data.toList.drop i)) := by
  induction d with
  | zero =>
    intro i hi_ hd
    refine Ev.succ ?_
    simp only [impl_bytesIn.l0]
    rw [List.drop_eq_nil_of_le (by rw [sizeL]; omega)]
    exact Ev.no (by omega) (Ev.now _)
  | succ d ih =>
    intro i hi_ hd
    have hlt : i < s.size := by omega
    have hb := bt_rng s i
    refine Ev.succ ?_
    simp only [impl_bytesIn.l0]
    rw [w64 (n := bt s i) (by omega) (by omega), wnat i _ hlt hs, drop_get _ i (by rw [sizeL]; exact hlt)]
    simp only [in_impl, Option.bind_some]
    refine Ev.yes (by omega) (Ev.yes (by omega) (Ev.yes (by omega) ?_))
    rw [bt_get s i hlt]
    by_cases c : lo ≤ ((s.data.toList[i]'(by rw [sizeL]; exact hlt)).toNat : Int) ∧ ((s.data.toList[i]'(by rw [sizeL]; exact hlt)).toNat : Int) ≤ hi
    · refine Ev.yes (decide_eq_true c) ?_
      rw [show inB lo hi (s.data.toList[i]'(by rw [sizeL]; exact hlt) :: s.data.toList.drop (i + 1)) = inB lo hi (s.data.toList.drop (i + 1)) from by simp only [inB, List.all_cons]; rw [decide_eq_true c, Bool.true_and]]
      exact ih (i + 1) (by omega) (by omega)
    · refine Ev.no (by simpa using c) ?_
      rw [show inB lo hi (s.data.toList[i]'(by rw [sizeL]; exact hlt) :: s.data.toList.drop (i + 1)) = false from by simp only [inB, List.all_cons]; rw [decide_eq_false c, Bool.false_and]]
      exact Ev.now _
theorem bytesIn_ev (s : ByteArray) (lo hi : Int) (hs : s.size ≤ 9223372036854775807) : Ev (fun k => impl_bytesIn.f k s lo hi) (inB lo hi s.data.toList) := bytesIn_l s lo hi hs s.size 0 (by omega) (by omega)
end Go.Proofs.YtiibecpllokhiaaDoor.Q
namespace Go.Proofs.YtiibecpllokhiaaDoor.Q
open Go.RowKit Go.Proofs.YtiibecpllokhiaaDoorW.PrintWords Go.Proofs.YtiibecpllokhiaaDoorW.PrintLast Go.Proofs.YtiibecpllokhiaaDoorW.PrintMore
def nmB (l : List UInt8) : Bool := l.all fun b => decide ((b.toNat : Int) = 45 ∨ 97 ≤ (b.toNat : Int) ∧ (b.toNat : Int) ≤ 122)
theorem nmB_yes {b : UInt8} {l : List UInt8} (h : (b.toNat : Int) = 45 ∨ 97 ≤ (b.toNat : Int) ∧ (b.toNat : Int) ≤ 122) : nmB (b :: l) = nmB l := by simp only [nmB, List.all_cons]; rw [decide_eq_true h, Bool.true_and]
theorem nmB_no {b : UInt8} {l : List UInt8} (h : ¬ ((b.toNat : Int) = 45 ∨ 97 ≤ (b.toNat : Int) ∧ (b.toNat : Int) ≤ 122)) : nmB (b :: l) = false := by simp only [nmB, List.all_cons]; rw [decide_eq_false h, Bool.false_and]
theorem inB_yes {lo hi : Int} {b : UInt8} {l : List UInt8} (h : lo ≤ (b.toNat : Int) ∧ (b.toNat : Int) ≤ hi) : inB lo hi (b :: l) = inB lo hi l := by simp only [inB, List.all_cons]; rw [decide_eq_true h, Bool.true_and]
theorem inB_no {lo hi : Int} {b : UInt8} {l : List UInt8} (h : ¬ (lo ≤ (b.toNat : Int) ∧ (b.toNat : Int) ≤ hi)) : inB lo hi (b :: l) = false := by simp only [inB, List.all_cons]; rw [decide_eq_false h, Bool.false_and]
def nameB (s : ByteArray) : Bool := nmB s.data.toList && decide (1 ≤ (s.size : Int) ∧ (s.size : Int) ≤ 20)
theorem name_impl_l (s : ByteArray) (hs : s.size ≤ 9223372036854775806) (d : Nat) : ∀ i : Nat, i ≤ s.size → s.size - i = d → Ev (fun k => impl_isFieldName.l0 k s (s.size : Int) (i : Int)) (nmB (s.data.toList.drop i) && decide (1 ≤ (s.size : Int) ∧ (s.size : Int) ≤ 20)) := by
  induction d with
  | zero =>
    intro i hi hd
    refine Ev.succ ?_
    simp only [impl_isFieldName.l0]
    rw [List.drop_eq_nil_of_le (by rw [sizeL]; omega), show nmB [] = true from rfl, Bool.true_and]
    exact Ev.no (by omega) (Ev.via (in_impl _ _ _) (Ev.now _))
  | succ d ih =>
    intro i hi hd
    have hlt : i < s.size := by omega
    have hb := bt_rng s i
    refine Ev.succ ?_
    simp only [impl_isFieldName.l0]
    rw [w64 (n := bt s i) (by omega) (by omega), wnat i _ hlt (by omega), drop_get _ i (by rw [sizeL]; exact hlt), bt_get s i hlt]
    refine Ev.yes (by omega) (Ev.yes (by omega) (Ev.yes (by omega) ?_))
    have h := ih (i + 1) (by omega) (by omega)
    generalize s.data.toList[i]'(by rw [sizeL]; exact hlt) = b at *
    by_cases c : (b.toNat : Int) = 45
    · rw [nmB_yes (.inl c)]; exact Ev.yes c h
    · refine Ev.no c (Ev.via (in_impl _ _ _) ?_)
      by_cases c2 : 97 ≤ (b.toNat : Int) ∧ (b.toNat : Int) ≤ 122
      · rw [nmB_yes (.inr c2)]; exact Ev.yes (decide_eq_true c2) h
      · rw [nmB_no (by omega), Bool.false_and]; exact Ev.no (by rw [decide_eq_false c2]; simp) (Ev.now _)
theorem name_impl (s : ByteArray) (hs : s.size ≤ 9223372036854775806) : Ev (fun k => impl_isFieldName.f k s) (nameB s) := name_impl_l s hs s.size 0 (by omega) (by omega)
theorem name_spec_l (s : ByteArray) (hs : s.size ≤ 9223372036854775806) (d : Nat) : ∀ i : Nat, i ≤ s.size → s.size - i = d → Ev (fun k => spec_l09Name.l0 k s (i : Int)) (nmB (s.data.toList.drop i) && decide (1 ≤ (s.size : Int) ∧ (s.size : Int) ≤ 20)) := by
  induction d with
  | zero =>
    intro i hi hd
    refine Ev.succ ?_
    simp only [spec_l09Name.l0]
    rw [List.drop_eq_nil_of_le (by rw [sizeL]; omega), show nmB [] = true from rfl, Bool.true_and]
    exact Ev.no (by omega) (Ev.via (in_spec _ _ _) (Ev.now _))
  | succ d ih =>
    intro i hi hd
    have hlt : i < s.size := by omega
    refine Ev.succ ?_
    simp only [spec_l09Name.l0]
    rw [wnat i _ hlt (by omega), drop_get _ i (by rw [sizeL]; exact hlt), bt_get s i hlt]
    refine Ev.yes (by omega) (Ev.yes (by omega) ?_)
    have h := ih (i + 1) (by omega) (by omega)
    generalize s.data.toList[i]'(by rw [sizeL]; exact hlt) = b at *
    by_cases c : (b.toNat : Int) < 97
    · refine Ev.yes c ?_
      by_cases c1 : (b.toNat : Int) = 45
      · rw [nmB_yes (.inl c1)]; exact Ev.yes c1 h
      · rw [nmB_no (by omega), Bool.false_and]; exact Ev.no c1 (Ev.now _)
    · refine Ev.no c ?_
      by_cases c2 : (b.toNat : Int) > 122
      · rw [nmB_no (by omega), Bool.false_and]; exact Ev.yes c2 (Ev.no (by omega) (Ev.now _))
      · rw [nmB_yes (by omega)]; exact Ev.no c2 h
theorem name_spec (s : ByteArray) (hs : s.size ≤ 9223372036854775806) : Ev (fun k => spec_l09Name.f k s) (nameB s) := name_spec_l s hs s.size 0 (by omega) (by omega)
theorem plain_spec_l (s : ByteArray) (m : Int) (hs : s.size ≤ 9223372036854775806) (d : Nat) : ∀ i : Nat, i ≤ s.size → s.size - i = d → Ev (fun k => spec_l09Plain.l0 k s m (i : Int)) (inB 32 126 (s.data.toList.drop i) && decide ((s.size : Int) ≤ m)) := by
  induction d with
  | zero =>
    intro i hi hd
    refine Ev.succ ?_
    simp only [spec_l09Plain.l0]
    rw [List.drop_eq_nil_of_le (by rw [sizeL]; omega), show inB 32 126 [] = true from rfl, Bool.true_and]
    exact Ev.no (by omega) (Ev.now _)
  | succ d ih =>
    intro i hi hd
    have hlt : i < s.size := by omega
    refine Ev.succ ?_
    simp only [spec_l09Plain.l0]
    rw [wnat i _ hlt (by omega), drop_get _ i (by rw [sizeL]; exact hlt), bt_get s i hlt]
    refine Ev.yes (by omega) (Ev.yes (by omega) ?_)
    have h := ih (i + 1) (by omega) (by omega)
    generalize s.data.toList[i]'(by rw [sizeL]; exact hlt) = b at *
    by_cases c : (b.toNat : Int) < 32
    · rw [inB_no (by omega), Bool.false_and]; exact Ev.yes c (Ev.now _)
    · refine Ev.no c ?_
      by_cases c2 : (b.toNat : Int) > 126
      · rw [inB_no (by omega), Bool.false_and]; exact Ev.yes c2 (Ev.now _)
      · rw [inB_yes (by omega)]; exact Ev.no c2 h
theorem plain_spec (s : ByteArray) (m : Int) (hs : s.size ≤ 9223372036854775806) : Ev (fun k => spec_l09Plain.f k s m) (inB 32 126 s.data.toList && decide ((s.size : Int) ≤ m)) := plain_spec_l s m hs s.size 0 (by omega) (by omega)
theorem dw_head (m : List UInt8) (hm : 0 < m.length) : m.dropWhile (· == (32 : UInt8)) = m ↔ m[0] ≠ 32 := by
  cases m with
  | nil => simp at hm
  | cons a t =>
    by_cases c : a = 32
    · subst c
      refine ⟨fun h => ?_, fun h => absurd rfl h⟩
      have h2 := (List.dropWhile_sublist (l := t) (· == (32 : UInt8))).length_le
      have h3 : ((32 : UInt8) :: t).dropWhile (· == (32 : UInt8)) = t.dropWhile (· == (32 : UInt8)) := by simp
      rw [h3] at h
      rw [h, List.length_cons] at h2
      omega
    · refine ⟨fun _ => c, fun _ => ?_⟩
      simp [c]
theorem trim_same (l : List UInt8) (hn : 0 < l.length) : Lib.trimB l 32 = l ↔ (l[0] ≠ 32 ∧ l[l.length - 1] ≠ 32) := by
  have hr : l.reverse.dropWhile (· == (32 : UInt8)) = l.reverse ↔ l[l.length - 1] ≠ 32 := by
    rw [dw_head l.reverse (by simpa using hn)]
    simp
  unfold Lib.trimB Lib.trimLeftB Lib.trimRightB
  constructor
  · intro h
    have e1 := (List.dropWhile_sublist (l := (l.reverse.dropWhile (· == (32 : UInt8))).reverse) (· == (32 : UInt8))).length_le
    rw [h, List.length_reverse] at e1
    have e2 : l.reverse.dropWhile (· == (32 : UInt8)) = l.reverse := (List.dropWhile_sublist (l := l.reverse) (· == (32 : UInt8))).eq_of_length (by
      have e3 := (List.dropWhile_sublist (l := l.reverse) (· == (32 : UInt8))).length_le
      rw [List.length_reverse] at e3 ⊢
      omega)
    rw [e2, List.reverse_reverse] at h
    exact ⟨(dw_head l hn).1 h, hr.1 e2⟩
  · rintro ⟨h1, h2⟩
    rw [hr.2 h2, List.reverse_reverse]
    exact (dw_head l hn).2 h1
def edgeB (v : ByteArray) : Bool := decide (Lib.trimB v.data.toList 32 = v.data.toList)
theorem edge_nil (v : ByteArray) (h : (v.size : Int) = 0) : edgeB v = true := by
  have : v.data.toList = [] := List.eq_nil_of_length_eq_zero (by rw [sizeL]; omega)
  unfold edgeB
  rw [this]
  rfl
theorem b32 (b : UInt8) : (b.toNat : Int) = 32 ↔ b = 32 := by
  constructor
  · intro h
    exact UInt8.toNat_inj.1 (by show b.toNat = 32; omega)
  · rintro rfl; rfl
theorem edge_first (v : ByteArray) (h : 0 < v.size) (c : bt v 0 = 32) : edgeB v = false := by
  have e := bt_get v 0 h
  rw [show ((0 : Nat) : Int) = 0 from rfl, c] at e
  refine decide_eq_false fun hh => ?_
  exact ((trim_same v.data.toList (by rw [sizeL]; exact h)).1 hh).1 ((b32 _).1 e.symm)
theorem edge_last (v : ByteArray) (hs : v.size ≤ 9223372036854775806) (h : 0 < v.size) (c : ¬ bt v 0 = 32) : edgeB v = (bt v (wrap64 ((v.size : Int) - 1)) != 32) := by
  · have e := bt_get v 0 h
    have e2 := bt_get v (v.size - 1) (by omega)
    have hw : wrap64 ((v.size : Int) - 1) = ((v.size - 1 : Nat) : Int) := by rw [w64 (by omega) (by omega)]; omega
    rw [hw, e2]
    rw [show ((0 : Nat) : Int) = 0 from rfl] at e
    rw [e, b32] at c
    have hl : v.data.toList.length - 1 = v.size - 1 := by rw [sizeL]
    unfold edgeB
    have ht := trim_same v.data.toList (by rw [sizeL]; exact h)
    simp only [hl] at ht
    by_cases q : v.data.toList[v.size - 1]'(by rw [sizeL]; omega) = 32
    · rw [decide_eq_false (fun hh => (ht.1 hh).2 q), q]; rfl
    · rw [decide_eq_true (ht.2 ⟨c, q⟩)]
      exact (bne_iff_ne.2 (fun hh => q ((b32 _).1 hh))).symm
def fieldB (n v : ByteArray) : Bool := nameB n && (decide ((v.size : Int) ≤ 60) && (inB 32 126 v.data.toList && edgeB v))
theorem fieldOk_impl (n v : ByteArray) (hn : n.size ≤ 9223372036854775806) (hv : v.size ≤ 9223372036854775806) : Ev (fun k => impl_FieldOk.f k n v) (fieldB n v) := by
  simp only [impl_FieldOk.f]
  unfold fieldB
  refine Ev.bind (name_impl n hn) ?_
  by_cases c : nameB n = true
  · rw [c, Bool.true_and]
    refine Ev.yes rfl ?_
    by_cases c2 : (v.size : Int) ≤ 60
    · rw [decide_eq_true c2, Bool.true_and]
      refine Ev.yes c2 (Ev.bind (bytesIn_ev v 32 126 (by omega)) ?_)
      by_cases c3 : inB 32 126 v.data.toList = true
      · rw [c3, Bool.true_and]
        refine Ev.yes rfl (Ev.via (a := ⟨(Lib.trimB v.data.toList 32).toArray⟩) (by unfold strings_Trim.f; exact if_pos ⟨rfl, by omega⟩) ?_)
        have : ((⟨(Lib.trimB v.data.toList 32).toArray⟩ : ByteArray).toList == v.toList) = edgeB v := by
          rw [toL, toL]
          unfold edgeB
          show ((Lib.trimB v.data.toList 32) == v.data.toList) = _
          by_cases q : Lib.trimB v.data.toList 32 = v.data.toList
          · rw [decide_eq_true q]; exact beq_iff_eq.2 q
          · rw [decide_eq_false q]; exact beq_eq_false_iff_ne.2 q
        rw [this]
        exact Ev.now _
      · rw [Bool.eq_false_iff.2 c3, Bool.false_and]; exact Ev.no (by simp) (Ev.now _)
    · rw [decide_eq_false c2, Bool.false_and]; exact Ev.no c2 (Ev.now _)
  · rw [Bool.eq_false_iff.2 c, Bool.false_and]; exact Ev.no (by simp) (Ev.now _)
theorem fieldOk_spec (n v : ByteArray) (hn : n.size ≤ 9223372036854775806) (hv : v.size ≤ 9223372036854775806) : Ev (fun k => spec_FieldOk.f k n v) (fieldB n v) := by
  simp only [spec_FieldOk.f]
  unfold fieldB
  refine Ev.bind (name_spec n hn) ?_
  by_cases c : nameB n = true
  · rw [c, Bool.true_and]
    refine Ev.yes rfl (Ev.bind (plain_spec v 60 hv) ?_)
    by_cases c2 : (v.size : Int) ≤ 60
    · rw [decide_eq_true c2, Bool.true_and, Bool.and_true]
      by_cases c3 : inB 32 126 v.data.toList = true
      · rw [c3, Bool.true_and]
        refine Ev.yes rfl ?_
        by_cases q : (v.size : Int) = 0
        · rw [edge_nil v q]; exact Ev.yes q (Ev.now _)
        · refine Ev.no q (Ev.yes (by omega) ?_)
          by_cases q2 : bt v 0 = 32
          · rw [edge_first v (by omega) q2]; exact Ev.yes q2 (Ev.now _)
          · rw [edge_last v hv (by omega) q2]
            have hw : wrap64 ((v.size : Int) - 1) = (v.size : Int) - 1 := w64 (by omega) (by omega)
            rw [hw]
            exact Ev.no q2 (Ev.yes (by omega) (Ev.yes (by omega) (Ev.now _)))
      · rw [Bool.eq_false_iff.2 c3, Bool.false_and]; exact Ev.no (by simp) (Ev.now _)
    · rw [decide_eq_false c2, Bool.false_and, Bool.and_false]; exact Ev.no (by simp) (Ev.now _)
  · rw [Bool.eq_false_iff.2 c, Bool.false_and]; exact Ev.no (by simp) (Ev.now _)
end Go.Proofs.YtiibecpllokhiaaDoor.Q
namespace Go.Proofs.YtiibecpllokhiaaDoor.Q
open Go.RowKit Go.Proofs.YtiibecpllokhiaaDoorW.PrintWords Go.Proofs.YtiibecpllokhiaaDoorW.PrintLast Go.Proofs.YtiibecpllokhiaaDoorW.PrintMore
theorem rdF_get (l : List S40) (i : Nat) (h : i < l.length) : rd_T40 l i = l[i] := by simp [rd_T40, h]
end Go.Proofs.YtiibecpllokhiaaDoor.Q
namespace Go.Proofs.YtiibecpllokhiaaDoor.Q
open Go.RowKit Go.Proofs.YtiibecpllokhiaaDoorW.PrintWords Go.Proofs.YtiibecpllokhiaaDoorW.PrintLast Go.Proofs.YtiibecpllokhiaaDoorW.PrintMore
def crlf : ByteArray := ⟨#[13, 10]⟩
def lineF (f : S40) : ByteArray := f.f0 ++ (⟨#[58, 32]⟩ : ByteArray) ++ f.f1 ++ crlf
def fieldsT : List S40 → ByteArray
  | [] => ⟨#[]⟩
  | f :: r => lineF f ++ fieldsT r
def hsz : List S40 → Nat
  | [] => 0
  | f :: r => f.f0.size + f.f1.size + 4 + hsz r
def headT (a : ByteArray) (l : List S40) : ByteArray := a ++ crlf ++ fieldsT l ++ crlf
theorem crlf_size : crlf.size = 2 := rfl
theorem sp_size : (⟨#[58, 32]⟩ : ByteArray).size = 2 := rfl
theorem app_nil (s : ByteArray) : s ++ (⟨#[]⟩ : ByteArray) = s := ByteArray.append_empty
theorem lineF_size (f : S40) : (lineF f).size = f.f0.size + f.f1.size + 4 := by
  simp only [lineF, ByteArray.size_append, crlf_size, sp_size]; omega
theorem fieldsT_size (l : List S40) : (fieldsT l).size = hsz l := by
  induction l with
  | nil => rfl
  | cons f r ih => simp only [fieldsT, hsz, ByteArray.size_append, lineF_size, ih]
theorem headT_size (a : ByteArray) (l : List S40) : (headT a l).size = a.size + hsz l + 4 := by
  simp only [headT, ByteArray.size_append, crlf_size, fieldsT_size]; omega
theorem hsz_mem {l : List S40} {f : S40} (h : f ∈ l) : f.f0.size + f.f1.size ≤ hsz l := by
  induction l with
  | nil => cases h
  | cons g r ih =>
    rw [hsz]
    rcases List.mem_cons.1 h with rfl | h
    · omega
    · have := ih h; omega
theorem text_impl_l (l : List S40) (hl : l.length ≤ 9223372036854775806) (d : Nat) : ∀ (i : Nat) (o : ByteArray), i ≤ l.length → l.length - i = d → o.size + hsz (l.drop i) + 2 ≤ 9223372036854775807 → Ev (fun k => impl_headText.l0 k o l (l.length : Int) (i : Int)) (o ++ fieldsT (l.drop i) ++ crlf) := by
  induction d with
  | zero =>
    intro i o hi hd hs
    refine Ev.succ ?_
    simp only [impl_headText.l0]
    rw [List.drop_eq_nil_of_le (by omega)] at hs ⊢
    rw [fieldsT, app_nil]
    rw [hsz] at hs
    exact Ev.no (by omega) (Ev.yes (by omega) (Ev.now _))
  | succ d ih =>
    intro i o hi hd hs
    have hlt : i < l.length := by omega
    refine Ev.succ ?_
    simp only [impl_headText.l0]
    rw [drop_get l i hlt, hsz] at hs
    rw [wnat i _ hlt (by omega), rdF_get l i hlt, drop_get l i hlt, fieldsT]
    have h := ih (i + 1) (o ++ lineF l[i]) (by omega) (by omega) (by rw [ByteArray.size_append, lineF_size]; omega)
    rw [ByteArray.append_assoc (a := o)] at h
    refine Ev.yes (by omega) (Ev.yes (by omega) (Ev.yes (by omega) (Ev.yes (by omega) (Ev.yes (by rw [ByteArray.size_append, sp_size]; omega) (Ev.yes (by rw [ByteArray.size_append, ByteArray.size_append, sp_size]; omega) (Ev.yes (by show o.size + (lineF l[i]).size ≤ _; rw [lineF_size]; omega) ?_))))))
    exact h
theorem text_impl (a : ByteArray) (l : List S40) (hl : l.length ≤ 9223372036854775806) (hs : a.size + hsz l + 4 ≤ 9223372036854775807) : Ev (fun k => impl_headText.f k a l) (headT a l) := by
  simp only [impl_headText.f]
  exact Ev.yes (by omega) (text_impl_l l hl l.length 0 (a ++ crlf) (by omega) (by omega) (by rw [List.drop_zero, ByteArray.size_append, crlf_size]; omega))
theorem text_spec_l (a : ByteArray) (l : List S40) (hl : l.length ≤ 9223372036854775806) (d : Nat) : ∀ (i : Nat) (o : ByteArray), i ≤ l.length → l.length - i = d → o.size + hsz (l.drop i) + 2 ≤ 9223372036854775807 → Ev (fun k => spec_l09Text.l0 k o (i : Int) a l) (o ++ fieldsT (l.drop i) ++ crlf) := by
  induction d with
  | zero =>
    intro i o hi hd hs
    refine Ev.succ ?_
    simp only [spec_l09Text.l0]
    rw [List.drop_eq_nil_of_le (by omega)] at hs ⊢
    rw [fieldsT, app_nil]
    rw [hsz] at hs
    exact Ev.no (by omega) (Ev.yes (by omega) (Ev.now _))
  | succ d ih =>
    intro i o hi hd hs
    have hlt : i < l.length := by omega
    refine Ev.succ ?_
    simp only [spec_l09Text.l0]
    rw [drop_get l i hlt, hsz] at hs
    rw [wnat i _ hlt (by omega), rdF_get l i hlt, drop_get l i hlt, fieldsT]
    have h := ih (i + 1) (o ++ lineF l[i]) (by omega) (by omega) (by rw [ByteArray.size_append, lineF_size]; omega)
    rw [ByteArray.append_assoc (a := o)] at h
    have e : o ++ lineF l[i] = (((o ++ l[i].f0) ++ (⟨#[58, 32]⟩ : ByteArray)) ++ l[i].f1) ++ (⟨#[13, 10]⟩ : ByteArray) := by
      simp only [lineF, crlf, ByteArray.append_assoc]
    rw [e] at h
    exact Ev.yes (by omega) (Ev.yes (by omega) (Ev.yes (by omega) (Ev.yes (by rw [ByteArray.size_append]; omega) (Ev.yes (by rw [ByteArray.size_append, ByteArray.size_append, sp_size]; omega) (Ev.yes (by rw [ByteArray.size_append, ByteArray.size_append, ByteArray.size_append, sp_size]; omega) h)))))
theorem text_spec (a : ByteArray) (l : List S40) (hl : l.length ≤ 9223372036854775806) (hs : a.size + hsz l + 4 ≤ 9223372036854775807) : Ev (fun k => spec_l09Text.f k a l) (headT a l) := by
  simp only [spec_l09Text.f]
  exact Ev.yes (by omega) (text_spec_l a l hl l.length 0 (a ++ crlf) (by omega) (by omega) (by rw [List.drop_zero, ByteArray.size_append, crlf_size]; omega))
def fieldsB (l : List S40) : Bool := l.all fun f => fieldB f.f0 f.f1
def lineB (a : ByteArray) : Bool := decide (1 ≤ (a.size : Int) ∧ (a.size : Int) ≤ 80) && inB 32 126 a.data.toList
def headB (a : ByteArray) (l : List S40) : Bool := fieldsB l && (lineB a && (decide ((l.length : Int) ≤ 8) && decide (((headT a l).size : Int) ≤ 300)))
theorem fieldsB_cons (f : S40) (l : List S40) : fieldsB (f :: l) = (fieldB f.f0 f.f1 && fieldsB l) := rfl
theorem isLine_ev (a : ByteArray) (ha : a.size ≤ 9223372036854775806) : Ev (fun k => impl_isLine.f k a) (lineB a) := by
  simp only [impl_isLine.f]
  unfold lineB
  refine Ev.via (in_impl _ _ _) ?_
  by_cases c : 1 ≤ (a.size : Int) ∧ (a.size : Int) ≤ 80
  · rw [decide_eq_true c, Bool.true_and]; exact Ev.yes rfl (Ev.bind (bytesIn_ev a 32 126 (by omega)) (Ev.now _))
  · rw [decide_eq_false c, Bool.false_and]; exact Ev.no (by simp) (Ev.now _)
theorem headOk_impl_l (a : ByteArray) (l : List S40) (hl : l.length ≤ 9223372036854775806) (hs : a.size + hsz l + 4 ≤ 9223372036854775806) (d : Nat) : ∀ i : Nat, i ≤ l.length → l.length - i = d → Ev (fun k => impl_HeadOk.l0 k l (l.length : Int) (i : Int) a l) (fieldsB (l.drop i) && (lineB a && (decide ((l.length : Int) ≤ 8) && decide (((headT a l).size : Int) ≤ 300)))) := by
  induction d with
  | zero =>
    intro i hi hd
    refine Ev.succ ?_
    simp only [impl_HeadOk.l0]
    rw [List.drop_eq_nil_of_le (by omega), show fieldsB [] = true from rfl, Bool.true_and]
    refine Ev.no (by omega) (Ev.bind (isLine_ev a (by omega)) ?_)
    by_cases c : lineB a = true
    · rw [c, Bool.true_and]
      refine Ev.yes rfl ?_
      by_cases c2 : (l.length : Int) ≤ 8
      · rw [decide_eq_true c2, Bool.true_and]; exact Ev.yes c2 (Ev.bind (text_impl a l hl (by omega)) (Ev.now _))
      · rw [decide_eq_false c2, Bool.false_and]; exact Ev.no c2 (Ev.now _)
    · rw [Bool.eq_false_iff.2 c, Bool.false_and]; exact Ev.no (by simp) (Ev.now _)
  | succ d ih =>
    intro i hi hd
    have hlt : i < l.length := by omega
    have hm := hsz_mem (List.getElem_mem hlt)
    refine Ev.succ ?_
    simp only [impl_HeadOk.l0]
    rw [wnat i _ hlt (by omega), rdF_get l i hlt, drop_get l i hlt, fieldsB_cons]
    refine Ev.yes (by omega) (Ev.yes (by omega) (Ev.yes (by omega) (Ev.bind (fieldOk_impl _ _ (by omega) (by omega)) ?_)))
    by_cases c : fieldB l[i].f0 l[i].f1 = true
    · rw [c, Bool.true_and]; exact Ev.yes rfl (ih (i + 1) (by omega) (by omega))
    · rw [Bool.eq_false_iff.2 c, Bool.false_and, Bool.false_and]; exact Ev.no (by simp) (Ev.now _)
theorem headOk_impl (a : ByteArray) (l : List S40) (hl : l.length ≤ 9223372036854775806) (hs : a.size + hsz l + 4 ≤ 9223372036854775806) : Ev (fun k => impl_HeadOk.f k a l) (headB a l) := by
  simp only [impl_HeadOk.f]
  exact headOk_impl_l a l hl hs l.length 0 (by omega) (by omega)
theorem headOk_spec_l (a : ByteArray) (l : List S40) (hl : l.length ≤ 9223372036854775806) (hs : a.size + hsz l + 4 ≤ 9223372036854775806) (d : Nat) : ∀ i : Nat, i ≤ l.length → l.length - i = d → Ev (fun k => spec_HeadOk.l0 k (i : Int) a l) (fieldsB (l.drop i) && decide (((headT a l).size : Int) ≤ 300)) := by
  induction d with
  | zero =>
    intro i hi hd
    refine Ev.succ ?_
    simp only [spec_HeadOk.l0]
    rw [List.drop_eq_nil_of_le (by omega), show fieldsB [] = true from rfl, Bool.true_and]
    exact Ev.no (by omega) (Ev.bind (text_spec a l hl (by omega)) (Ev.now _))
  | succ d ih =>
    intro i hi hd
    have hlt : i < l.length := by omega
    have hm := hsz_mem (List.getElem_mem hlt)
    refine Ev.succ ?_
    simp only [spec_HeadOk.l0]
    rw [wnat i _ hlt (by omega), rdF_get l i hlt, drop_get l i hlt, fieldsB_cons]
    refine Ev.yes (by omega) (Ev.yes (by omega) (Ev.bind (fieldOk_spec _ _ (by omega) (by omega)) ?_))
    by_cases c : fieldB l[i].f0 l[i].f1 = true
    · rw [c, Bool.true_and]; exact Ev.yes rfl (ih (i + 1) (by omega) (by omega))
    · rw [Bool.eq_false_iff.2 c, Bool.false_and, Bool.false_and]; exact Ev.no (by simp) (Ev.now _)
theorem headOk_spec (a : ByteArray) (l : List S40) (hl : l.length ≤ 9223372036854775806) (hs : a.size + hsz l + 4 ≤ 9223372036854775806) : Ev (fun k => spec_HeadOk.f k a l) (headB a l) := by
  simp only [spec_HeadOk.f]
  have no : Ev (fun k => spec_HeadOk.j0 k true a l) false := by refine Ev.succ ?_; simp only [spec_HeadOk.j0]; exact Ev.yes (by simp) (Ev.now _)
  by_cases c0 : (a.size : Int) = 0
  · rw [show headB a l = false from by unfold headB lineB; rw [decide_eq_false (by omega)]; simp]
    exact Ev.yes c0 no
  · refine Ev.no c0 (Ev.bind (plain_spec a 80 (by omega)) ?_)
    by_cases c : (inB 32 126 a.data.toList && decide ((a.size : Int) ≤ 80)) = true
    · refine Ev.yes c ?_
      rw [Bool.and_eq_true, decide_eq_true_iff] at c
      have hL : lineB a = true := by unfold lineB; rw [decide_eq_true ⟨by omega, c.2⟩, c.1]; rfl
      refine Ev.succ ?_
      simp only [spec_HeadOk.j0]
      unfold headB
      rw [hL, Bool.true_and]
      by_cases c8 : (l.length : Int) > 8
      · rw [decide_eq_true c8, decide_eq_false (show ¬ (l.length : Int) ≤ 8 by omega), Bool.false_and, Bool.and_false]; exact Ev.yes (by simp) (Ev.now _)
      · rw [decide_eq_false c8, decide_eq_true (show (l.length : Int) ≤ 8 by omega), Bool.true_and]
        exact Ev.no (by simp) (headOk_spec_l a l hl hs l.length 0 (by omega) (by omega))
    · refine Ev.no c ?_
      have hL : lineB a = false := by
        unfold lineB
        by_cases q : inB 32 126 a.data.toList = true
        · rw [q, Bool.true_and, decide_eq_true_iff] at c; rw [decide_eq_false (by omega), Bool.false_and]
        · rw [Bool.eq_false_iff.2 q, Bool.and_false]
      rw [show headB a l = false from by unfold headB; rw [hL]; simp]
      exact no
def headTB (a : ByteArray) (l : List S40) : ByteArray × Bool := if headB a l = true then (headT a l, true) else (⟨#[]⟩, false)
theorem headText_impl (a : ByteArray) (l : List S40) (hl : l.length ≤ 9223372036854775806) (hs : a.size + hsz l + 4 ≤ 9223372036854775806) : Ev (fun k => impl_HeadText.f k a l) (headTB a l) := by
  simp only [impl_HeadText.f]
  unfold headTB
  refine Ev.bind (headOk_impl a l hl hs) ?_
  by_cases c : headB a l = true
  · rw [if_pos c]; exact Ev.yes c (Ev.bind (text_impl a l hl (by omega)) (Ev.now _))
  · rw [if_neg c]; exact Ev.no c (Ev.now _)
theorem headText_spec (a : ByteArray) (l : List S40) (hl : l.length ≤ 9223372036854775806) (hs : a.size + hsz l + 4 ≤ 9223372036854775806) : Ev (fun k => spec_HeadText.f k a l) (headTB a l) := by
  simp only [spec_HeadText.f]
  unfold headTB
  refine Ev.bind (headOk_spec a l hl hs) ?_
  by_cases c : headB a l = true
  · rw [if_pos c]; exact Ev.yes c (Ev.bind (text_spec a l hl (by omega)) (Ev.now _))
  · rw [if_neg c]; exact Ev.no c (Ev.now _)
end Go.Proofs.YtiibecpllokhiaaDoor.Q
namespace Go.Proofs.YtiibecpllokhiaaDoor.Q
open Go.RowKit Go.Proofs.YtiibecpllokhiaaDoorW.PrintWords Go.Proofs.YtiibecpllokhiaaDoorW.PrintLast Go.Proofs.YtiibecpllokhiaaDoorW.PrintMore
set_option linter.unusedSimpArgs false
theorem suf13 (s : ByteArray) : suf s (⟨#[13]⟩ : ByteArray) = decide (s.data.toList.getLast? = some 13) := by
  unfold suf
  rw [toL, Lib.extract_data]
  have hz : (⟨#[13]⟩ : ByteArray).size = 1 := rfl
  have hL := sizeL s
  rw [hz, toL]
  rcases List.eq_nil_or_concat s.data.toList with e | ⟨l, b, e⟩
  · rw [e] at hL ⊢
    rw [decide_eq_false (by simp at hL; omega)]; simp
  · rw [List.concat_eq_append] at e
    rw [e] at hL ⊢
    rw [List.length_append, List.length_singleton] at hL
    rw [decide_eq_true (by omega), Bool.true_and, show s.size - 1 = l.length by omega, List.drop_left, show s.size - l.length = 1 by omega]
    simp only [List.take_succ_cons, List.take_zero, List.getLast?_append, List.getLast?_singleton, Option.some_or, Option.some.injEq]
    rw [Bool.eq_iff_iff, beq_iff_eq, decide_eq_true_iff]
    show ([b] = [13]) ↔ _
    simp
theorem chop_eq (l : List UInt8) : chop l = if l.getLast? = some 13 then l.take (l.length - 1) else l := by
  induction l with
  | nil => rfl
  | cons b r ih =>
    rw [chop]
    cases r with
    | nil =>
      by_cases c : b = 13
      · subst c; simp
      · simp [c, chop]
    | cons c r =>
      rw [if_neg (by simp), ih]
      have e : (b :: c :: r).getLast? = (c :: r).getLast? := by simp [List.getLast?_cons]
      rw [e]
      split
      · simp only [List.length_cons]; rw [show r.length + 1 + 1 - 1 = (r.length + 1 - 1) + 1 by omega, List.take_succ_cons]
      · rfl
theorem trimSuf_ev (s : ByteArray) (hs : s.size ≤ 9223372036854775807) : strings_TrimSuffix.f s (⟨#[13]⟩ : ByteArray) = some (ba (chop s.data.toList)) := by
  have hz : (⟨#[13]⟩ : ByteArray).size = 1 := rfl
  have e : stringslite_HasSuffix.f s (⟨#[13]⟩ : ByteArray) = some (suf s (⟨#[13]⟩ : ByteArray)) := by
    simp only [stringslite_HasSuffix.f]
    unfold suf
    by_cases c : (s.size : Int) ≥ ((⟨#[13]⟩ : ByteArray).size : Int)
    · have hw : wrap64 ((s.size : Int) - ((⟨#[13]⟩ : ByteArray).size : Int)) = ((s.size - (⟨#[13]⟩ : ByteArray).size : Nat) : Int) := by rw [w64 (by omega) (by omega)]; omega
      rw [if_pos c, hw, if_pos (by omega), if_pos (by omega), decide_eq_true (by omega), Bool.true_and, Int.toNat_natCast]
    · rw [if_neg c, decide_eq_false (by omega), Bool.false_and]
  simp only [strings_TrimSuffix.f, stringslite_TrimSuffix.f, e, Option.bind_some, suf13]
  rw [chop_eq]
  by_cases c : s.data.toList.getLast? = some 13
  · have hp : 1 ≤ s.size := by
      rcases Nat.eq_zero_or_pos s.size with h | h
      · have : s.data.toList = [] := List.eq_nil_of_length_eq_zero (by rw [sizeL]; exact h)
        rw [this] at c; cases c
      · exact h
    have hw : wrap64 ((s.size : Int) - ((⟨#[13]⟩ : ByteArray).size : Int)) = ((s.size - 1 : Nat) : Int) := by rw [hz, w64 (by omega) (by omega)]; omega
    rw [decide_eq_true c, if_pos c, if_pos rfl, hw, if_pos (by omega), if_pos (by omega), Int.toNat_natCast, ext_ba, List.drop_zero, Nat.sub_zero, sizeL]; rfl
  · rw [decide_eq_false c, if_neg c, if_neg (by simp), ba_of]; rfl
theorem contains_cl (l : List UInt8) : Lib.containsAny l [13, 10] = !(cl l) := by
  unfold Lib.containsAny
  induction l with
  | nil => rfl
  | cons b l ih =>
    rw [Lib.indexAny, cl_cons]
    have hg := Lib.indexAny_ge [13, 10] l
    by_cases c : ([13, 10] : List UInt8).contains b = true
    · rw [if_pos c]
      simp only [List.contains_cons, List.contains_nil, Bool.or_false, Bool.or_eq_true, beq_iff_eq] at c
      rcases c with rfl | rfl <;> simp
    · rw [if_neg c]
      have c' := Bool.eq_false_iff.2 c
      simp only [List.contains_cons, List.contains_nil, Bool.or_false, Bool.or_eq_false_iff, beq_eq_false_iff_ne] at c'
      rw [show (b == (10 : UInt8)) = false from beq_eq_false_iff_ne.2 c'.2, show (b == (13 : UInt8)) = false from beq_eq_false_iff_ne.2 c'.1]
      simp only [Bool.not_false, Bool.true_and]
      rw [← ih]
      by_cases d : Lib.indexAny l [13, 10] = -1
      · rw [d]; decide
      · rw [show (Lib.indexAny l [13, 10] == -1) = false from by simpa using d]
        simp only [Bool.false_eq_true, if_false]
        rw [decide_eq_true (by omega), decide_eq_true (by omega)]
def restB (t : List UInt8) (first : Bool) : Bool := cl (chop t) && (!first || (decide (((chop t).length : Int) ≤ 80) && inB 32 126 (chop t)))
theorem chop_len (t : List UInt8) : (chop t).length ≤ t.length := by
  rw [chop_eq]; split
  · rw [List.length_take]; omega
  · omega
theorem restOk_ev (s : ByteArray) (first : Bool) (hs : s.size ≤ 4000000000) : Ev (fun k => impl_restOk.f k s first) (restB s.data.toList first) := by
  simp only [impl_restOk.f]
  have hl := chop_len s.data.toList
  rw [sizeL] at hl
  refine Ev.via (trimSuf_ev s (by omega)) (Ev.via (a := !(cl (chop s.data.toList))) (by unfold strings_ContainsAny.f; rw [if_pos ⟨by rw [ba_size]; omega, rfl⟩, ba_toL, contains_cl]) ?_)
  unfold restB
  by_cases c : cl (chop s.data.toList) = true
  · rw [c]
    refine Ev.no (by simp) ?_
    cases first with
    | false => exact Ev.no (by simp) (Ev.now _)
    | true =>
      refine Ev.yes rfl ?_
      rw [ba_size]
      by_cases d : ((chop s.data.toList).length : Int) ≤ 80
      · rw [decide_eq_true d]
        have := bytesIn_ev (ba (chop s.data.toList)) 32 126 (by rw [ba_size]; omega)
        rw [ba_toL] at this
        exact Ev.yes d (Ev.bind this (Ev.now _))
      · rw [decide_eq_false d]; exact Ev.no d (Ev.now _)
  · rw [Bool.eq_false_iff.2 c]; exact Ev.yes (by simp) (Ev.now _)
theorem trimR_last (l : List UInt8) (b : UInt8) : Lib.trimRightB (l ++ [b]) 32 = if b = 32 then Lib.trimRightB l 32 else l ++ [b] := by
  unfold Lib.trimRightB
  rw [List.reverse_append]
  simp only [List.reverse_cons, List.reverse_nil, List.nil_append, List.singleton_append]
  by_cases c : b = 32
  · subst c; simp
  · simp [c]
theorem trimR_cons (b : UInt8) (t : List UInt8) : Lib.trimRightB (b :: t) 32 = if Lib.trimRightB t 32 = [] ∧ b = 32 then [] else b :: Lib.trimRightB t 32 := by
  unfold Lib.trimRightB
  rw [List.reverse_cons, List.dropWhile_append]
  by_cases c : (t.reverse.dropWhile (· == (32 : UInt8))) = []
  · rw [c]
    by_cases d : b = 32
    · subst d; simp
    · simp [d]
  · have : (t.reverse.dropWhile (· == (32 : UInt8))).isEmpty = false := by simpa using c
    rw [this, if_neg (by simp)]
    rw [if_neg (fun h => c (by simpa using h.1))]
    simp
theorem trim_swap (l : List UInt8) : Lib.trimRightB (Lib.trimLeftB l 32) 32 = Lib.trimB l 32 := by
  unfold Lib.trimB
  induction l with
  | nil => rfl
  | cons b t ih =>
    rw [trimR_cons]
    unfold Lib.trimLeftB at *
    by_cases c : b = 32
    · subst c
      rw [List.dropWhile_cons_of_pos (by simp), ih]
      by_cases d : Lib.trimRightB t 32 = []
      · rw [if_pos ⟨d, rfl⟩, d]
      · rw [if_neg (fun h => d h.1), List.dropWhile_cons_of_pos (by simp)]
    · rw [List.dropWhile_cons_of_neg (by simp [c]), if_neg (fun h => c h.2), List.dropWhile_cons_of_neg (by simp [c]), trimR_cons, if_neg (fun h => c h.2)]
theorem trimS_r (d : Nat) : ∀ s : ByteArray, s.size = d → s.size ≤ 9223372036854775807 → Ev (fun k => spec_l09Trim.l1 k s) (ba (Lib.trimRightB s.data.toList 32)) := by
  induction d with
  | zero =>
    intro s hd hs
    have : s.data.toList = [] := List.eq_nil_of_length_eq_zero (by rw [sizeL]; exact hd)
    refine Ev.succ ?_
    simp only [spec_l09Trim.l1]
    rw [this, show ba (Lib.trimRightB [] 32) = s from by rw [← ba_of s, this]; rfl]
    exact Ev.no (by omega) (Ev.now _)
  | succ d ih =>
    intro s hd hs
    refine Ev.succ ?_
    simp only [spec_l09Trim.l1]
    have hw : wrap64 ((s.size : Int) - 1) = ((s.size - 1 : Nat) : Int) := by rw [w64 (by omega) (by omega)]; omega
    rw [hw, bt_get s (s.size - 1) (by omega)]
    refine Ev.yes (by omega) (Ev.yes (by omega) (Ev.yes (by omega) ?_))
    have hl : s.data.toList = s.data.toList.take (s.size - 1) ++ [s.data.toList[s.size - 1]'(by rw [sizeL]; omega)] := by
      have h2 := List.take_succ_eq_append_getElem (l := s.data.toList) (i := s.size - 1) (by rw [sizeL]; omega)
      rw [← h2, List.take_of_length_le (by rw [sizeL]; omega)]
    have e := trimR_last (s.data.toList.take (s.size - 1)) (s.data.toList[s.size - 1]'(by rw [sizeL]; omega))
    rw [← hl] at e
    rw [e]
    by_cases c : s.data.toList[s.size - 1]'(by rw [sizeL]; omega) = 32
    · rw [if_pos c]
      refine Ev.yes ((b32 _).2 c) (Ev.yes (by omega) ?_)
      have e2 : (s.extract 0 (((s.size - 1 : Nat) : Int)).toNat) = ba (s.data.toList.take (s.size - 1)) := by rw [Int.toNat_natCast, ext_ba]; simp
      rw [e2]
      have := ih (ba (s.data.toList.take (s.size - 1))) (by rw [ba_size, List.length_take, sizeL]; omega) (by rw [ba_size, List.length_take, sizeL]; omega)
      rw [ba_toL] at this
      exact this
    · rw [if_neg c, ba_of]
      exact Ev.no (fun h => c ((b32 _).1 h)) (Ev.now _)
theorem trimS_l (d : Nat) : ∀ s : ByteArray, s.size = d → s.size ≤ 9223372036854775807 → Ev (fun k => spec_l09Trim.l0 k s) (ba (Lib.trimRightB (Lib.trimLeftB s.data.toList 32) 32)) := by
  have jt : ∀ s : ByteArray, s.size ≤ 9223372036854775807 → Ev (fun k => spec_l09Trim.j1 k s) (ba (Lib.trimRightB s.data.toList 32)) := fun s hs => by
    refine Ev.succ ?_
    simp only [spec_l09Trim.j1]; exact trimS_r s.size s rfl hs
  induction d with
  | zero =>
    intro s hd hs
    have : s.data.toList = [] := List.eq_nil_of_length_eq_zero (by rw [sizeL]; exact hd)
    have h := jt s hs
    refine Ev.succ ?_
    simp only [spec_l09Trim.l0]
    rw [this] at h ⊢
    exact Ev.no (by omega) h
  | succ d ih =>
    intro s hd hs
    refine Ev.succ ?_
    simp only [spec_l09Trim.l0]
    have eb := bt_get s 0 (by omega)
    rw [show ((0 : Nat) : Int) = 0 from rfl] at eb
    rw [eb]
    have hl := drop_get s.data.toList 0 (by rw [sizeL]; omega)
    rw [List.drop_zero] at hl
    refine Ev.yes (by omega) (Ev.yes (by omega) ?_)
    by_cases c : s.data.toList[0]'(by rw [sizeL]; omega) = 32
    · refine Ev.yes ((b32 _).2 c) (Ev.yes (by omega) ?_)
      have e2 : s.extract 1 s.size = ba (s.data.toList.drop 1) := by rw [ext_ba, List.take_of_length_le (by rw [List.length_drop, sizeL]; omega)]
      rw [e2]
      have h := ih (ba (s.data.toList.drop 1)) (by rw [ba_size, List.length_drop, sizeL]; omega) (by rw [ba_size, List.length_drop, sizeL]; omega)
      rw [ba_toL] at h
      have e3 : Lib.trimLeftB s.data.toList 32 = Lib.trimLeftB (s.data.toList.drop 1) 32 := by
        unfold Lib.trimLeftB
        conv => lhs; rw [hl]
        rw [List.dropWhile_cons_of_pos (by simp [c])]
      rw [e3]
      exact h
    · have e3 : Lib.trimLeftB s.data.toList 32 = s.data.toList := by
        unfold Lib.trimLeftB
        conv => lhs; rw [hl]
        rw [List.dropWhile_cons_of_neg (p := fun x => x == (32 : UInt8)) (fun h => c (beq_iff_eq.1 h))]
        exact hl.symm
      rw [e3]
      exact Ev.no (fun h => c ((b32 _).1 h)) (jt s hs)
theorem trimS_ev (s : ByteArray) (hs : s.size ≤ 9223372036854775807) : Ev (fun k => spec_l09Trim.f k s) (ba (Lib.trimB s.data.toList 32)) := by
  have := trimS_l s.size s rfl hs
  rw [trim_swap] at this
  exact this
theorem low_ba (l : List UInt8) : impl_lower.all (ba l) = ba (l.map impl_lower.one) := by
  apply ba_ext; rw [ba_toL]; unfold impl_lower.all ba; simp
/-- The field that a line tells, and whether it is one. -/
def fldF (t : List UInt8) : ByteArray × ByteArray × Bool :=
  (ba ((ct [58] t).1.map impl_lower.one), ba (Lib.trimB (ct [58] t).2.1 32), fieldB (ba ((ct [58] t).1.map impl_lower.one)) (ba (Lib.trimB (ct [58] t).2.1 32)))
def fldL (t : List UInt8) : Option S40 := if (ct [58] t).2.2 = true ∧ (fldF t).2.2 = true then some ⟨(fldF t).1, (fldF t).2.1⟩ else none
theorem trim_len (l : List UInt8) : (Lib.trimB l 32).length ≤ l.length := by
  unfold Lib.trimB Lib.trimLeftB Lib.trimRightB
  have h1 := (List.dropWhile_sublist (l := (l.reverse.dropWhile (· == (32 : UInt8))).reverse) (· == (32 : UInt8))).length_le
  have h2 := (List.dropWhile_sublist (l := l.reverse) (· == (32 : UInt8))).length_le
  rw [List.length_reverse] at h1 h2
  omega
theorem ct_len {p t : List UInt8} : (ct p t).1.length ≤ t.length ∧ (ct p t).2.1.length ≤ t.length := by
  cases h : (ct p t).2.2 with
  | true =>
    have := congrArg List.length (ct_true h)
    simp only [List.length_append] at this
    omega
  | false =>
    refine ⟨by rw [ct_false h]; omega, ?_⟩
    cases t with
    | nil => simp [ct]
    | cons b t =>
      rw [ct] at h ⊢
      split at h
      · cases h
      · rename_i c
        rw [if_neg c]
        split at h
        · cases h
        · rename_i c2; rw [if_neg c2]; simp
theorem readField_ev (s : ByteArray) (hs : s.size ≤ 1048576) : EvP (fun k => impl_readField.f k s) (fun r => (fldL s.data.toList = none ∧ r.2.2 = false) ∨ (∃ f, fldL s.data.toList = some f ∧ r.1 = f.f0 ∧ r.2.1 = f.f1 ∧ r.2.2 = true)) := by
  simp only [impl_readField.f]
  have hc := @ct_len [58] s.data.toList
  rw [sizeL] at hc
  have ht := trim_len (ct [58] s.data.toList).2.1
  have e1 : impl_lower.f (ba (ct [58] s.data.toList).1) = some (fldF s.data.toList).1 := by
    unfold impl_lower.f; rw [if_pos (by rw [ba_size]; omega), low_ba]; rfl
  have e2 : strings_Trim.f (ba (ct [58] s.data.toList).2.1) (⟨#[32]⟩ : ByteArray) = some (fldF s.data.toList).2.1 := by
    unfold strings_Trim.f; rw [if_pos ⟨rfl, by rw [ba_size]; omega⟩, ba_toL]; rfl
  have e0 := cut_ev s (⟨#[58]⟩ : ByteArray) (by simp) (by omega)
  have l1 : (fldF s.data.toList).1.size ≤ 1048576 := by unfold fldF; rw [ba_size, List.length_map]; omega
  have l2 : (fldF s.data.toList).2.1.size ≤ 1048576 := by unfold fldF; rw [ba_size]; omega
  unfold fldL
  by_cases c : (ct [58] s.data.toList).2.2 = true
  · refine ⟨((fldF s.data.toList).1, (fldF s.data.toList).2.1, (fldF s.data.toList).2.2), Ev.via e0 (Ev.via e1 (Ev.via e2 (Ev.yes c (Ev.bind (fieldOk_impl _ _ (by omega) (by omega)) (Ev.now _))))), ?_⟩
    by_cases d : (fldF s.data.toList).2.2 = true
    · rw [if_pos ⟨c, d⟩]; exact .inr ⟨_, rfl, rfl, rfl, d⟩
    · rw [if_neg (fun h => d h.2)]; exact .inl ⟨rfl, Bool.eq_false_iff.2 d⟩
  · refine ⟨((fldF s.data.toList).1, (fldF s.data.toList).2.1, false), Ev.via e0 (Ev.via e1 (Ev.via e2 (Ev.no c (Ev.now _)))), ?_⟩
    rw [if_neg (fun h => c h.1)]; exact .inl ⟨rfl, rfl⟩
theorem ct1 (c b : UInt8) (t : List UInt8) : ct [c] (b :: t) = if b = c then ([], t, true) else if (ct [c] t).2.2 = true then (b :: (ct [c] t).1, (ct [c] t).2.1, true) else (b :: t, [], false) := by
  rw [ct]
  by_cases h : b = c
  · subst h; simp [List.isPrefixOf]
  · rw [if_neg h, if_neg (by simp [List.isPrefixOf, Ne.symm h])]
theorem field_l (s : ByteArray) (hs : s.size ≤ 1048576) (d : Nat) : ∀ i : Nat, i ≤ s.size → s.size - i = d → EvP (fun k => spec_l09Field.l0 k s (i : Int)) (fun r => if (ct [58] (s.data.toList.drop i)).2.2 = true then r = (ba ((s.data.toList.take (i + (ct [58] (s.data.toList.drop i)).1.length)).map impl_lower.one), ba (Lib.trimB (ct [58] (s.data.toList.drop i)).2.1 32), fieldB (ba ((s.data.toList.take (i + (ct [58] (s.data.toList.drop i)).1.length)).map impl_lower.one)) (ba (Lib.trimB (ct [58] (s.data.toList.drop i)).2.1 32))) else r.2.2 = false) := by
  induction d with
  | zero =>
    intro i hi hd
    refine EvP.succ ?_
    simp only [spec_l09Field.l0]
    rw [List.drop_eq_nil_of_le (by rw [sizeL]; omega)]
    refine EvP.no (by omega) (EvP.ret ?_)
    rw [if_neg (by simp [ct])]
  | succ d ih =>
    intro i hi hd
    have hlt : i < s.size := by omega
    refine EvP.succ ?_
    simp only [spec_l09Field.l0]
    rw [wnat i s.size hlt (by omega), drop_get s.data.toList i (by rw [sizeL]; exact hlt), bt_get s i hlt, ct1]
    have h := ih (i + 1) (by omega) (by omega)
    have ht : s.data.toList.take (i + 1) = s.data.toList.take i ++ [s.data.toList[i]'(by rw [sizeL]; exact hlt)] := List.take_succ_eq_append_getElem (by rw [sizeL]; exact hlt)
    refine EvP.yes (by omega) (EvP.yes (by omega) ?_)
    have b58 : ∀ b : UInt8, ((b.toNat : Int) = 58) ↔ b = 58 := fun b => ⟨fun h => UInt8.toNat_inj.1 (by show b.toNat = 58; omega), fun h => by rw [h]; rfl⟩
    generalize s.data.toList[i]'(by rw [sizeL]; exact hlt) = b at *
    by_cases c : b = 58
    · rw [if_pos c]
      refine EvP.yes ((b58 b).2 c) (EvP.yes (by omega) ?_)
      have e1 : s.extract 0 ((i : Int)).toNat = ba (s.data.toList.take i) := by rw [Int.toNat_natCast, ext_ba]; simp
      have e2 : s.extract (((i + 1 : Nat) : Int)).toNat s.size = ba (s.data.toList.drop (i + 1)) := by
        rw [Int.toNat_natCast, ext_ba, List.take_of_length_le (by rw [List.length_drop, sizeL]; omega)]
      rw [e1, e2]
      have z1 : (ba (s.data.toList.take i)).size ≤ s.size := by rw [ba_size, List.length_take, sizeL]; omega
      have z2 : (ba (s.data.toList.drop (i + 1))).size ≤ s.size := by rw [ba_size, List.length_drop, sizeL]; omega
      have z3 := trim_len (s.data.toList.drop (i + 1))
      rw [List.length_drop, sizeL] at z3
      have et := trimS_ev (ba (s.data.toList.drop (i + 1))) (by omega)
      rw [ba_toL] at et
      refine ⟨_, Ev.via (a := ba ((s.data.toList.take i).map impl_lower.one)) (by unfold spec_l09Low.f; rw [if_pos (by omega), low_ba]) (Ev.yes (by omega) (Ev.yes (by omega) (Ev.bind et (Ev.bind (fieldOk_spec _ _ (by rw [ba_size, List.length_map, List.length_take, sizeL]; omega) (by rw [ba_size]; omega)) (Ev.now _))))), ?_⟩
      simp
    · rw [if_neg c]
      refine EvP.no (fun h => c ((b58 b).1 h)) (h.imp fun r hr => ?_)
      by_cases q : (ct [58] (s.data.toList.drop (i + 1))).2.2 = true
      · rw [if_pos q] at hr ⊢
        simp only [if_true, List.length_cons]
        rw [hr, show i + 1 + (ct [58] (s.data.toList.drop (i + 1))).1.length = i + ((ct [58] (s.data.toList.drop (i + 1))).1.length + 1) by omega]
      · rw [if_neg q] at hr ⊢
        simpa using hr
theorem field_ev (s : ByteArray) (hs : s.size ≤ 1048576) : EvP (fun k => spec_l09Field.f k s) (fun r => (fldL s.data.toList = none ∧ r.2.2 = false) ∨ (∃ f, fldL s.data.toList = some f ∧ r.1 = f.f0 ∧ r.2.1 = f.f1 ∧ r.2.2 = true)) := by
  refine (field_l s hs s.size 0 (by omega) (by omega)).imp fun r hr => ?_
  rw [List.drop_zero, Nat.zero_add] at hr
  unfold fldL
  by_cases q : (ct [58] s.data.toList).2.2 = true
  · rw [if_pos q] at hr
    have ht : s.data.toList.take (ct [58] s.data.toList).1.length = (ct [58] s.data.toList).1 := (congrArg (List.take (ct [58] s.data.toList).1.length) (ct_true q)).trans (by rw [List.append_assoc, List.take_left])
    rw [ht] at hr
    have hr : r = fldF s.data.toList := hr
    subst hr
    by_cases d : (fldF s.data.toList).2.2 = true
    · rw [if_pos ⟨q, d⟩]; exact .inr ⟨_, rfl, rfl, rfl, d⟩
    · rw [if_neg (fun h => d h.2)]; exact .inl ⟨rfl, Bool.eq_false_iff.2 d⟩
  · rw [if_neg q] at hr
    rw [if_neg (fun h => q h.1)]; exact .inl ⟨rfl, hr⟩
def badR : ByteArray × List S40 × Int × Int := (⟨#[]⟩, [], 0, 2)
def moreR : ByteArray × List S40 × Int × Int := (⟨#[]⟩, [], 0, 1)
def endR (n : Nat) : ByteArray × List S40 × Int × Int := if (n : Int) > 300 then badR else moreR
def doneR (n : Nat) (y : List UInt8) (a : ByteArray) (l : List S40) : ByteArray × List S40 × Int × Int := if headB a l = true ∧ ((n - y.length : Nat) : Int) ≤ 300 then (a, l, ((n - y.length : Nat) : Int), 0) else badR
def rdL (n : Nat) : Nat → List UInt8 → ByteArray → List S40 → ByteArray × List S40 × Int × Int
  | 0, _, _, _ => badR
  | d + 1, t, a, l => match ln t with
    | none => badR
    | some (_, none) => endR n
    | some (x, some y) => if x = [] then doneR n y a l else (match fldL x with
      | none => badR
      | some f => if l.length = 8 then badR else rdL n d y a (l ++ [f]))
def rdH (t : List UInt8) : ByteArray × List S40 × Int × Int := match ln t with
  | none => badR
  | some (x, none) => if (inB 32 126 x && decide ((x.length : Int) ≤ 80)) = true then endR t.length else badR
  | some (x, some y) => if lineB (ba x) = true then rdL t.length t.length y (ba x) [] else badR
theorem rdL_none {n d : Nat} {t : List UInt8} {a : ByteArray} {l : List S40} (h : ln t = none) : rdL n (d + 1) t a l = badR := by rw [rdL, h]
theorem rdL_more {n d : Nat} {t x : List UInt8} {a : ByteArray} {l : List S40} (h : ln t = some (x, none)) : rdL n (d + 1) t a l = endR n := by rw [rdL, h]
theorem rdL_done {n d : Nat} {t y : List UInt8} {a : ByteArray} {l : List S40} (h : ln t = some ([], some y)) : rdL n (d + 1) t a l = doneR n y a l := by rw [rdL, h]; rfl
theorem rdL_bad {n d : Nat} {t x y : List UInt8} {a : ByteArray} {l : List S40} (h : ln t = some (x, some y)) (hx : x ≠ []) (hf : fldL x = none) : rdL n (d + 1) t a l = badR := by rw [rdL, h]; simp only [if_neg hx, hf]
theorem rdL_full {n d : Nat} {t x y : List UInt8} {a : ByteArray} {l : List S40} {f : S40} (h : ln t = some (x, some y)) (hx : x ≠ []) (hf : fldL x = some f) (h8 : l.length = 8) : rdL n (d + 1) t a l = badR := by rw [rdL, h]; simp only [if_neg hx, hf, if_pos h8]
theorem rdL_go {n d : Nat} {t x y : List UInt8} {a : ByteArray} {l : List S40} {f : S40} (h : ln t = some (x, some y)) (hx : x ≠ []) (hf : fldL x = some f) (h8 : l.length ≠ 8) : rdL n (d + 1) t a l = rdL n d y a (l ++ [f]) := by rw [rdL, h]; simp only [if_neg hx, hf, if_neg h8]
theorem rdH_none {t : List UInt8} (h : ln t = none) : rdH t = badR := by unfold rdH; rw [h]
theorem rdH_more {t x : List UInt8} (h : ln t = some (x, none)) (c : (inB 32 126 x && decide ((x.length : Int) ≤ 80)) = true) : rdH t = endR t.length := by unfold rdH; rw [h]; simp only [if_pos c]
theorem rdH_part {t x : List UInt8} (h : ln t = some (x, none)) (c : ¬ (inB 32 126 x && decide ((x.length : Int) ≤ 80)) = true) : rdH t = badR := by unfold rdH; rw [h]; simp only [if_neg c]
theorem rdH_bad {t x y : List UInt8} (h : ln t = some (x, some y)) (c : ¬ lineB (ba x) = true) : rdH t = badR := by unfold rdH; rw [h]; simp only [if_neg c]
theorem rdH_go {t x y : List UInt8} (h : ln t = some (x, some y)) (c : lineB (ba x) = true) : rdH t = rdL t.length t.length y (ba x) [] := by unfold rdH; rw [h]; simp only [if_pos c]
theorem endR_big {n : Nat} (h : (n : Int) > 300) : endR n = badR := if_pos h
theorem endR_small {n : Nat} (h : ¬ (n : Int) > 300) : endR n = moreR := if_neg h
theorem doneR_no {n : Nat} {y : List UInt8} {a : ByteArray} {l : List S40} (h : ¬ headB a l = true) : doneR n y a l = badR := if_neg fun h2 => h h2.1
theorem doneR_big {n : Nat} {y : List UInt8} {a : ByteArray} {l : List S40} (h : ((n - y.length : Nat) : Int) > 300) : doneR n y a l = badR := if_neg fun h2 => by have := h2.2; omega
theorem doneR_ok {n : Nat} {y : List UInt8} {a : ByteArray} {l : List S40} (hb : headB a l = true) (h : ¬ ((n - y.length : Nat) : Int) > 300) : doneR n y a l = (a, l, ((n - y.length : Nat) : Int), 0) := if_pos ⟨hb, by omega⟩
theorem cut_crlf (s : ByteArray) (hs : s.size ≤ 4000000000) : strings_Cut.f s (⟨#[13, 10]⟩ : ByteArray) = some (ba (ct [13, 10] s.data.toList).1, ba (ct [13, 10] s.data.toList).2.1, (ct [13, 10] s.data.toList).2.2) := cut_ev s ⟨#[13, 10]⟩ (by simp) hs
/-- The fields read so far. -/
def okF (l : List S40) : Prop := l.length ≤ 8 ∧ ∀ f ∈ l, f.f0.size ≤ 20 ∧ f.f1.size ≤ 60
theorem okF_hsz {l : List S40} (h : ∀ f ∈ l, f.f0.size ≤ 20 ∧ f.f1.size ≤ 60) : hsz l ≤ 84 * l.length := by
  induction l with
  | nil => simp [hsz]
  | cons f r ih =>
    have h1 := h f (by simp)
    have h2 := ih (fun g hg => h g (by simp [hg]))
    rw [hsz, List.length_cons]; omega
theorem fld_size {n v : ByteArray} (h : fieldB n v = true) : n.size ≤ 20 ∧ v.size ≤ 60 := by
  unfold fieldB nameB at h
  simp only [Bool.and_eq_true, decide_eq_true_iff] at h
  omega
theorem fldL_size {t : List UInt8} {f : S40} (h : fldL t = some f) : f.f0.size ≤ 20 ∧ f.f1.size ≤ 60 := by
  unfold fldL at h
  split at h
  · rename_i c
    obtain rfl := Option.some.inj h
    exact fld_size c.2
  · cases h
theorem okF_add {l : List S40} {t : List UInt8} {f : S40} (h : okF l) (h8 : l.length ≠ 8) (hf : fldL t = some f) : okF (l ++ [f]) := by
  refine ⟨by rw [List.length_append, List.length_singleton]; have := h.1; omega, fun g hg => ?_⟩
  rcases List.mem_append.1 hg with hg | hg
  · exact h.2 g hg
  · rw [List.mem_singleton] at hg; subst hg; exact fldL_size hf
theorem inB_cl {l : List UInt8} (h : cl l = false) : inB 32 126 l = false := by
  obtain ⟨b, hb, h⟩ := cl_ex h
  unfold inB
  rw [List.all_eq_false]
  refine ⟨b, hb, ?_⟩
  rcases h with rfl | rfl <;> decide
theorem nmB_map {l : List UInt8} (h : cl l = false) : nmB (l.map impl_lower.one) = false := by
  obtain ⟨b, hb, h⟩ := cl_ex h
  unfold nmB
  rw [List.all_eq_false]
  refine ⟨impl_lower.one b, List.mem_map_of_mem hb, ?_⟩
  rcases h with rfl | rfl <;> decide
theorem trim_mem {l : List UInt8} {b : UInt8} (hb : b ∈ l) (h : b ≠ 32) : b ∈ Lib.trimB l 32 := by
  have hm : ∀ m : List UInt8, b ∈ m → b ∈ m.dropWhile (· == (32 : UInt8)) := fun m hm => by
    have := List.takeWhile_append_dropWhile (p := (· == (32 : UInt8))) (l := m)
    rw [← this] at hm
    rcases List.mem_append.1 hm with hm | hm
    · have := List.all_eq_true.1 (List.all_takeWhile (p := (· == (32 : UInt8))) (l := m)) b hm
      exact absurd (beq_iff_eq.1 this) h
    · exact hm
  unfold Lib.trimB Lib.trimLeftB Lib.trimRightB
  refine hm _ ?_
  rw [List.mem_reverse]
  refine hm _ ?_
  rw [List.mem_reverse]
  exact hb
theorem fldL_cl {t : List UInt8} (h : cl t = false) : fldL t = none := by
  unfold fldL
  by_cases c : (ct [58] t).2.2 = true
  · rw [if_neg]
    rintro ⟨_, hf⟩
    have e := ct_true c
    unfold fldF fieldB nameB at hf
    simp only [Bool.and_eq_true, ba_toL] at hf
    rw [e, cl_app, cl_app] at h
    by_cases c1 : cl (ct [58] t).1 = true
    · rw [c1] at h
      have h2 : cl (ct [58] t).2.1 = false := by
        simpa [cl] using h
      obtain ⟨b, hb, hh⟩ := cl_ex h2
      have hm := trim_mem hb (by rcases hh with rfl | rfl <;> decide)
      have h3 : cl (Lib.trimB (ct [58] t).2.1 32) = false := by
        unfold cl
        rw [List.all_eq_false]
        refine ⟨b, hm, ?_⟩
        rcases hh with rfl | rfl <;> decide
      rw [inB_cl h3] at hf
      simp at hf
    · rw [nmB_map (Bool.eq_false_iff.2 c1)] at hf
      simp at hf
  · rw [if_neg (fun h => c h.1)]
theorem ct_shrink {t : List UInt8} (h : (ct [13, 10] t).2.2 = true) : (ct [13, 10] t).1.length + 2 + (ct [13, 10] t).2.1.length = t.length := by
  have := congrArg List.length (ct_true h)
  simp only [List.length_append, List.length_cons, List.length_nil] at this
  omega
theorem rd_impl_l (s : ByteArray) (a : ByteArray) (hs : s.size ≤ 1048576) (ha : a.size ≤ 1048576) (ha0 : 0 < a.size) (d : Nat) : ∀ (t : List UInt8) (i : Int) (l : List S40), t.length < d → t.length ≤ s.size → 0 < i → i + t.length ≤ 4194304 → okF l → Ev (fun k => impl_ReadHead.l0 k s (ba t) i a l) (rdL s.size d t a l) := by
  have ea : (a.toList == ([] : List UInt8)) = false := by
    rw [toL, beq_eq_false_iff_ne]
    intro h
    have := congrArg List.length h
    rw [sizeL, List.length_nil] at this
    omega
  induction d with
  | zero => intro t i l h; omega
  | succ d ih =>
    intro t i l hd ht hi0 hi1 hok
    have hz := okF_hsz hok.2
    have h8 := hok.1
    refine Ev.succ ?_
    simp only [impl_ReadHead.l0]
    have e0 := cut_crlf (ba t) (by rw [ba_size]; omega)
    rw [ba_toL] at e0
    refine Ev.via e0 ?_
    by_cases c : (ct [13, 10] t).2.2 = true
    · have hln := ln_true t c
      have hsh := ct_shrink c
      refine Ev.yes c (Ev.no (by omega) ?_)
      simp only [ba_list, ba_size]
      by_cases q : cl (ct [13, 10] t).1 = true
      · rw [if_pos q] at hln
        by_cases x0 : (ct [13, 10] t).1 = []
        · rw [x0] at hln
          rw [rdL_done hln]
          refine Ev.yes x0 (Ev.bind (headOk_impl a l (by omega) (by omega)) ?_)
          have hw : wrap64 ((s.size : Int) - ((ct [13, 10] t).2.1.length : Int)) = ((s.size - (ct [13, 10] t).2.1.length : Nat) : Int) := by rw [w64 (by omega) (by omega)]; omega
          rw [hw]
          by_cases hb : headB a l = true
          · refine Ev.yes hb (Ev.succ ?_)
            simp only [impl_ReadHead.j1]
            by_cases g : ((s.size - (ct [13, 10] t).2.1.length : Nat) : Int) > 300
            · rw [doneR_big g]
              exact Ev.yes (decide_eq_true g) (Ev.now _)
            · rw [doneR_ok hb g]
              exact Ev.no (by rw [decide_eq_false g]; simp) (Ev.now _)
          · rw [doneR_no hb]
            refine Ev.no hb (Ev.succ ?_)
            simp only [impl_ReadHead.j1]
            exact Ev.yes trivial (Ev.now _)
        · refine Ev.no x0 ?_
          obtain ⟨r, er, hr⟩ := readField_ev (ba (ct [13, 10] t).1) (by rw [ba_size]; omega)
          rw [ba_toL] at hr
          refine Ev.bind er ?_
          rcases hr with ⟨hn, hf⟩ | ⟨f, hn, h1, h2, h3⟩
          · rw [rdL_bad hln x0 hn]; exact Ev.no (by rw [hf]; simp) (Ev.now _)
          · refine Ev.yes h3 ?_
            by_cases g : l.length = 8
            · rw [rdL_full hln x0 hn g]; exact Ev.yes (by omega) (Ev.now _)
            · rw [rdL_go hln x0 hn g, h1, h2, w64 (n := i + 1) (by omega) (by omega)]
              exact Ev.no (by omega) (Ev.yes (by omega) (ih _ (i + 1) (l ++ [f]) (by omega) (by omega) (by omega) (by omega) (okF_add hok g hn)))
      · rw [if_neg q] at hln
        rw [rdL_none hln]
        have x0 : (ct [13, 10] t).1 ≠ [] := by intro h; rw [h] at q; exact q rfl
        refine Ev.no x0 ?_
        obtain ⟨r, er, hr⟩ := readField_ev (ba (ct [13, 10] t).1) (by rw [ba_size]; omega)
        rw [ba_toL, fldL_cl (Bool.eq_false_iff.2 q)] at hr
        refine Ev.bind er ?_
        rcases hr with ⟨_, hf⟩ | ⟨f, hn, _⟩
        · exact Ev.no (by rw [hf]; simp) (Ev.now _)
        · cases hn
    · have hln := ln_false t (Bool.eq_false_iff.2 c)
      refine Ev.no c ?_
      by_cases q : cl (chop t) = true
      · rw [if_pos q] at hln
        rw [rdL_more hln]
        by_cases g : (s.size : Int) > 300
        · rw [endR_big g]; exact Ev.yes g (Ev.now _)
        · rw [endR_small g, ea]
          have er := restOk_ev (ba t) false (by rw [ba_size]; omega)
          rw [ba_toL] at er
          exact Ev.no g (Ev.bind er (Ev.yes (by unfold restB; rw [q]; rfl) (Ev.now _)))
      · rw [if_neg q] at hln
        rw [rdL_none hln]
        by_cases g : (s.size : Int) > 300
        · exact Ev.yes g (Ev.now _)
        · rw [ea]
          have er := restOk_ev (ba t) false (by rw [ba_size]; omega)
          rw [ba_toL] at er
          exact Ev.no g (Ev.bind er (Ev.no (by unfold restB; rw [Bool.eq_false_iff.2 q]; simp) (Ev.now _)))
theorem rd_impl (s : ByteArray) (hs : s.size ≤ 1048576) : Ev (fun k => impl_ReadHead.f k s) (rdH s.data.toList) := by
  simp only [impl_ReadHead.f]
  have hL := sizeL s
  refine Ev.succ ?_
  simp only [impl_ReadHead.l0]
  refine Ev.via (cut_crlf s (by omega)) ?_
  by_cases c : (ct [13, 10] s.data.toList).2.2 = true
  · have hln := ln_true _ c
    have hsh := ct_shrink c
    refine Ev.yes c (Ev.yes trivial (Ev.bind (isLine_ev _ (by rw [ba_size]; omega)) ?_))
    by_cases q : cl (ct [13, 10] s.data.toList).1 = true
    · rw [if_pos q] at hln
      by_cases g : lineB (ba (ct [13, 10] s.data.toList).1) = true
      · rw [rdH_go hln g, hL]
        have h1 : 0 < (ba (ct [13, 10] s.data.toList).1).size := by
          unfold lineB at g
          simp only [Bool.and_eq_true, decide_eq_true_iff] at g
          omega
        rw [show wrap64 (0 + 1) = 1 from by rw [w64 (by omega) (by omega)]; rfl]
        exact Ev.yes g (rd_impl_l s _ hs (by rw [ba_size]; omega) h1 s.size (ct [13, 10] s.data.toList).2.1 1 [] (by omega) (by omega) (by omega) (by omega) ⟨by simp, by simp⟩)
      · rw [rdH_bad hln g]; exact Ev.no g (Ev.now _)
    · rw [if_neg q] at hln
      rw [rdH_none hln]
      have : lineB (ba (ct [13, 10] s.data.toList).1) = false := by
        unfold lineB; rw [ba_toL, inB_cl (Bool.eq_false_iff.2 q), Bool.and_false]
      rw [this]
      exact Ev.no (by simp) (Ev.now _)
  · have hln := ln_false _ (Bool.eq_false_iff.2 c)
    refine Ev.no c ?_
    have er : Ev (fun k => impl_restOk.f k s ((⟨#[]⟩ : ByteArray).toList == ([] : List UInt8))) (restB s.data.toList true) := by
      rw [show ((⟨#[]⟩ : ByteArray).toList == ([] : List UInt8)) = true from by rw [toL]; rfl]
      exact restOk_ev s true (by omega)
    by_cases q : cl (chop s.data.toList) = true
    · rw [if_pos q] at hln
      by_cases g2 : (inB 32 126 (chop s.data.toList) && decide (((chop s.data.toList).length : Int) ≤ 80)) = true
      · rw [rdH_more hln g2, hL]
        by_cases g : (s.size : Int) > 300
        · rw [endR_big g]; exact Ev.yes g (Ev.now _)
        · rw [endR_small g]
          refine Ev.no g (Ev.bind er (Ev.yes ?_ (Ev.now _)))
          unfold restB
          rw [q, Bool.and_comm (decide _), g2]; rfl
      · rw [rdH_part hln g2]
        by_cases g : (s.size : Int) > 300
        · exact Ev.yes g (Ev.now _)
        · refine Ev.no g (Ev.bind er (Ev.no ?_ (Ev.now _)))
          unfold restB
          rw [q, Bool.and_comm (decide _), Bool.eq_false_iff.2 g2]; simp
    · rw [if_neg q] at hln
      rw [rdH_none hln]
      by_cases g : (s.size : Int) > 300
      · exact Ev.yes g (Ev.now _)
      · exact Ev.no g (Ev.bind er (Ev.no (by unfold restB; rw [Bool.eq_false_iff.2 q]; simp) (Ev.now _)))
theorem rd_spec_l (s : ByteArray) (a : ByteArray) (hs : s.size ≤ 1048576) (ha : a.size ≤ 1048576) (d : Nat) : ∀ (at_ : Nat) (l : List S40), s.size - at_ < d → 0 < at_ → at_ ≤ s.size → okF l → Ev (fun k => spec_ReadHead.l0 k s (at_ : Int) a l) (rdL s.size d (s.data.toList.drop at_) a l) := by
  induction d with
  | zero => intro at_ l h; omega
  | succ d ih =>
    intro at_ l hd h0 h1 hok
    have hz := okF_hsz hok.2
    have h8 := hok.1
    refine Ev.succ ?_
    simp only [spec_ReadHead.l0]
    refine Ev.yes (by omega) (Ev.bind (line_ev s at_ (by omega) h1) ?_)
    cases e : ln (s.data.toList.drop at_) with
    | none => rw [rdL_none e]; exact Ev.yes (show (-1 : Int) < 0 by decide) (Ev.now _)
    | some p =>
      obtain ⟨x, y⟩ := p
      obtain ⟨_, hx, hy⟩ := ln_take e
      rw [List.length_drop, sizeL] at hx
      cases y with
      | none =>
        rw [rdL_more e]
        refine Ev.no (by show ¬ (0 : Int) < 0; omega) (Ev.yes rfl ?_)
        by_cases g : (s.size : Int) > 300
        · rw [endR_big g]; exact Ev.yes g (Ev.now _)
        · rw [endR_small g]; exact Ev.no g (Ev.now _)
      | some y =>
        obtain ⟨hy1, hy2⟩ := hy y rfl
        rw [List.length_drop, sizeL] at hy2
        simp only [lnE, ba_list]
        refine Ev.no (by omega) (Ev.no (by omega) ?_)
        by_cases x0 : x = []
        · refine Ev.yes x0 (Ev.bind (headOk_spec a l (by omega) (by omega)) ?_)
          rw [x0] at e
          rw [rdL_done e]
          by_cases hb : headB a l = true
          · refine Ev.yes hb ?_
            by_cases g : ((s.size - y.length : Nat) : Int) > 300
            · rw [doneR_big g]; exact Ev.yes g (Ev.now _)
            · rw [doneR_ok hb g]; exact Ev.no g (Ev.now _)
          · rw [doneR_no hb]; exact Ev.no hb (Ev.now _)
        · refine Ev.no x0 ?_
          obtain ⟨r, er, hr⟩ := field_ev (ba x) (by rw [ba_size]; omega)
          rw [ba_toL] at hr
          refine Ev.bind er ?_
          rcases hr with ⟨hn, hf⟩ | ⟨f, hn, q1, q2, q3⟩
          · rw [rdL_bad e x0 hn]; exact Ev.no (by rw [hf]; simp) (Ev.now _)
          · refine Ev.yes q3 (Ev.yes (by omega) ?_)
            rw [q1, q2]
            refine Ev.via rfl ?_
            rw [List.length_append, List.length_singleton]
            by_cases g : l.length = 8
            · rw [rdL_full e x0 hn g]; exact Ev.yes (by omega) (Ev.now _)
            · rw [rdL_go e x0 hn g]
              have e2 : s.data.toList.drop (s.size - y.length) = y := by
                rw [List.drop_drop] at hy1
                rw [show s.size - y.length = at_ + (x.length + 2) by omega]; exact hy1
              have := ih (s.size - y.length) (l ++ [f]) (by omega) (by omega) (by omega) (okF_add hok g hn)
              rw [e2] at this
              exact Ev.no (by omega) this
theorem rd_spec (s : ByteArray) (hs : s.size ≤ 1048576) : Ev (fun k => spec_ReadHead.f k s) (rdH s.data.toList) := by
  simp only [spec_ReadHead.f]
  have hL := sizeL s
  have bad : ∀ x i, Ev (fun k => spec_ReadHead.j0 k s x i true) badR := fun x i => by
    refine Ev.succ ?_
    simp only [spec_ReadHead.j0]; exact Ev.yes trivial (Ev.now _)
  have hl := line_ev s 0 (by omega) (by omega)
  rw [List.drop_zero] at hl
  refine Ev.bind hl ?_
  cases e : ln s.data.toList with
  | none => rw [rdH_none e]; exact Ev.yes (show (-1 : Int) < 0 by decide) (bad _ _)
  | some p =>
    obtain ⟨x, y⟩ := p
    obtain ⟨_, hx, hy⟩ := ln_take e
    rw [sizeL] at hx
    cases y with
    | none =>
      refine Ev.no (by show ¬ (0 : Int) < 0; omega) ?_
      simp only [lnE]
      have hp := plain_spec (ba x) 80 (by rw [ba_size]; omega)
      rw [ba_toL, ba_size] at hp
      refine Ev.bind hp ?_
      by_cases c : (inB 32 126 x && decide ((x.length : Int) ≤ 80)) = true
      · rw [rdH_more e c, hL]
        refine Ev.yes c (Ev.no (by omega) (Ev.succ ?_))
        simp only [spec_ReadHead.j0]
        refine Ev.no (by simp) (Ev.succ ?_)
        simp only [spec_ReadHead.l0]
        refine Ev.no (by omega) ?_
        by_cases g : (s.size : Int) > 300
        · rw [endR_big g]; exact Ev.yes g (Ev.now _)
        · rw [endR_small g]; exact Ev.no g (Ev.now _)
      · rw [rdH_part e c]; exact Ev.no c (bad _ _)
    | some y =>
      obtain ⟨hy1, hy2⟩ := hy y rfl
      rw [sizeL] at hy2
      simp only [lnE]
      refine Ev.no (by omega) ?_
      have hp := plain_spec (ba x) 80 (by rw [ba_size]; omega)
      rw [ba_toL, ba_size] at hp
      refine Ev.bind hp ?_
      by_cases c : (inB 32 126 x && decide ((x.length : Int) ≤ 80)) = true
      · refine Ev.yes c (Ev.yes (by omega) ?_)
        rw [ba_list]
        simp only [Bool.and_eq_true, decide_eq_true_iff] at c
        by_cases x0 : x = []
        · subst x0
          rw [rdH_bad e (by decide)]
          exact bad _ _
        · have hx0 : 0 < x.length := List.length_pos_iff.2 x0
          rw [rdH_go e (by unfold lineB; rw [ba_size, ba_toL, c.1, decide_eq_true ⟨by omega, c.2⟩]; rfl), hL, show (x == ([] : List UInt8)) = false from beq_eq_false_iff_ne.2 x0]
          refine Ev.succ ?_
          simp only [spec_ReadHead.j0]
          have e2 : s.data.toList.drop (s.size - y.length) = y := by rw [show s.size - y.length = x.length + 2 by omega]; exact hy1
          have := rd_spec_l s (ba x) hs (by rw [ba_size]; omega) s.size (s.size - y.length) [] (by omega) (by omega) (by omega) ⟨by simp, by simp⟩
          rw [e2] at this
          exact Ev.no (by simp) this
      · rw [rdH_bad e (by
          unfold lineB; rw [ba_size, ba_toL]
          intro h
          simp only [Bool.and_eq_true, decide_eq_true_iff] at h
          exact c (by rw [h.2, decide_eq_true h.1.2]; rfl))]
        exact Ev.no c (bad _ _)
end Go.Proofs.YtiibecpllokhiaaDoor.Q
namespace Go.Proofs.YtiibecpllokhiaaDoor.Q
open Go.RowKit Go.Proofs.YtiibecpllokhiaaDoorW.PrintWords Go.Proofs.YtiibecpllokhiaaDoorW.PrintLast Go.Proofs.YtiibecpllokhiaaDoorW.PrintMore
theorem head_parts {a : ByteArray} {l : List S40} (h : headB a l = true) : fieldsB l = true ∧ lineB a = true ∧ l.length ≤ 8 ∧ (headT a l).size ≤ 300 := by
  unfold headB at h
  simp only [Bool.and_eq_true, decide_eq_true_iff] at h
  exact ⟨h.1, h.2.1, by omega, by omega⟩
theorem same_head_l (a b : ByteArray) (l : List S40) (hl : l.length ≤ 9223372036854775807) (d : Nat) : ∀ i : Nat, i ≤ l.length → l.length - i = d → Ev (fun k => laws_sameHead.l0 k (i : Int) a l b l) true := by
  induction d with
  | zero => intro i hi hd; refine Ev.succ ?_; simp only [laws_sameHead.l0]; exact Ev.no (by omega) (Ev.now _)
  | succ d ih =>
    intro i hi hd
    refine Ev.succ ?_
    simp only [laws_sameHead.l0]
    rw [wnat i l.length (by omega) hl]
    exact Ev.yes (by omega) (Ev.yes (by omega) (Ev.yes (by omega) (Ev.no (by simp) (ih (i + 1) (by omega) (by omega)))))
theorem same_head (a : ByteArray) (l : List S40) (hl : l.length ≤ 9223372036854775807) : Ev (fun k => laws_sameHead.f k a l a l) true := by
  simp only [laws_sameHead.f]
  refine Ev.yes trivial (Ev.succ ?_)
  simp only [laws_sameHead.j0]
  exact Ev.no (by simp) (same_head_l a a l hl l.length 0 (by omega) (by omega))
end Go.Proofs.YtiibecpllokhiaaDoor.Q
namespace Go.Proofs.YtiibecpllokhiaaDoor.Q
open Go.RowKit Go.Proofs.YtiibecpllokhiaaDoorW.PrintWords Go.Proofs.YtiibecpllokhiaaDoorW.PrintLast Go.Proofs.YtiibecpllokhiaaDoorW.PrintMore
theorem rdL_len (n : Nat) (d : Nat) : ∀ (t : List UInt8) (a : ByteArray) (l : List S40), l.length ≤ 8 → (rdL n d t a l).2.1.length ≤ 8 := by
  have e : ∀ m, (endR m).2.1.length ≤ 8 := fun m => by unfold endR; split <;> exact Nat.zero_le _
  induction d with
  | zero => intro t a l h; exact Nat.zero_le _
  | succ d ih =>
    intro t a l h
    rw [rdL]
    split
    · exact Nat.zero_le _
    · exact e _
    · split
      · unfold doneR; split
        · exact h
        · exact Nat.zero_le _
      · split
        · exact Nat.zero_le _
        · split
          · exact Nat.zero_le _
          · exact ih _ _ _ (by rw [List.length_append, List.length_singleton]; omega)
theorem rdH_len (t : List UInt8) : (rdH t).2.1.length ≤ 8 := by
  have e : ∀ m, (endR m).2.1.length ≤ 8 := fun m => by unfold endR; split <;> exact Nat.zero_le _
  unfold rdH
  split
  · exact Nat.zero_le _
  · split
    · exact e _
    · exact Nat.zero_le _
  · split
    · exact rdL_len _ _ _ _ _ (by simp)
    · exact Nat.zero_le _
end Go.Proofs.YtiibecpllokhiaaDoor.Q
namespace Go.Proofs.YtiibecpllokhiaaDoor.Q
open Go.RowKit Go.Proofs.YtiibecpllokhiaaDoorW.PrintWords Go.Proofs.YtiibecpllokhiaaDoorW.PrintLast Go.Proofs.YtiibecpllokhiaaDoorW.PrintMore
theorem and255v (a : Int) : Go.bits .and .i64 a 255 = a % 256 := by
  unfold Go.bits
  simp only [IntKind.wrap_i64]
  have e1 : (BitVec.ofInt IntKind.i64.bits a).toNat = (a % 18446744073709551616).toNat := by rw [BitVec.toNat_ofInt]; rfl
  have e2 : (BitVec.ofInt IntKind.i64.bits 255).toNat = 2 ^ 8 - 1 := by decide
  rw [BitVec.toNat_and, e1, e2, Nat.and_two_pow_sub_one_eq_mod]
  omega
/-- A place in the code that is drawn from. -/
def cu (l : List Int) (i : Int) : Prop := (0 ≤ i ∧ i ≤ l.length) ∧ l.length ≤ 4611686018427387904
theorem byte_ok (l : List Int) (i h : Int) (hc : cu l i) : ∃ x i' h', spec_l01Byte.f l i h = some (x, i', h') ∧ 0 ≤ x ∧ x ≤ 255 ∧ cu l i' := by
  obtain ⟨⟨h0, h1⟩, hl⟩ := hc
  unfold spec_l01Byte.f
  by_cases c : i < (l.length : Int)
  · rw [if_pos c, if_pos h0, w64 (n := i + 1) (by omega) (by omega), and255v]
    exact ⟨_, _, _, rfl, by omega, by omega, ⟨by omega, by omega⟩, hl⟩
  · rw [if_neg c, and255v]
    exact ⟨_, _, _, rfl, by omega, by omega, ⟨by omega, by omega⟩, hl⟩
theorem below_ok (l : List Int) (i h n : Int) (hn : 1 ≤ n) (hc : cu l i) : ∃ x i' h', spec_l01Below.f l i h n = some (x, i', h') ∧ 0 ≤ x ∧ x < n ∧ cu l i' := by
  unfold spec_l01Below.f
  obtain ⟨x1, i1, g1, e1, a1, b1, c1⟩ := byte_ok l i h hc
  rw [if_neg (by omega), e1]
  simp only [Option.bind_some]
  by_cases c : n ≤ 256
  · rw [if_pos c, if_neg (by omega), Int.tmod_eq_emod_of_nonneg a1]
    exact ⟨_, _, _, rfl, Int.emod_nonneg _ (by omega), Int.emod_lt_of_pos _ (by omega), c1⟩
  · obtain ⟨x2, i2, g2, e2, a2, b2, c2⟩ := byte_ok l i1 g1 c1
    obtain ⟨x3, i3, g3, e3, a3, b3, c3⟩ := byte_ok l i2 g2 c2
    obtain ⟨x4, i4, g4, e4, a4, b4, c4⟩ := byte_ok l i3 g3 c3
    rw [if_neg c, e2]
    simp only [Option.bind_some]
    rw [e3]
    simp only [Option.bind_some]
    rw [e4]
    simp only [Option.bind_some]
    rw [w64 (n := x1 * 16777216) (by omega) (by omega), w64 (n := x2 * 65536) (by omega) (by omega), w64 (n := x3 * 256) (by omega) (by omega), w64 (n := x1 * 16777216 + x2 * 65536) (by omega) (by omega), w64 (n := x1 * 16777216 + x2 * 65536 + x3 * 256) (by omega) (by omega),
      w64 (n := x1 * 16777216 + x2 * 65536 + x3 * 256 + x4) (by omega) (by omega), if_neg (by omega), Int.tmod_eq_emod_of_nonneg (by omega)]
    exact ⟨_, _, _, rfl, Int.emod_nonneg _ (by omega), Int.emod_lt_of_pos _ (by omega), c4⟩
theorem byteP (l : List Int) (i h : Int) (hc : cu l i) : EvP (fun _ => spec_l01Byte.f l i h) (fun r => (0 ≤ r.1 ∧ r.1 ≤ 255) ∧ cu l r.2.1) := by
  obtain ⟨x, i', h', e, a, b, c⟩ := byte_ok l i h hc
  exact EvP.const e ⟨⟨a, b⟩, c⟩
theorem belowP (l : List Int) (i h n : Int) (hn : 1 ≤ n) (hc : cu l i) : EvP (fun _ => spec_l01Below.f l i h n) (fun r => (0 ≤ r.1 ∧ r.1 < n) ∧ cu l r.2.1) := by
  obtain ⟨x, i', h', e, a, b, c⟩ := below_ok l i h n hn hc
  exact EvP.const e ⟨⟨a, b⟩, c⟩
theorem cu_zero {l : List Int} (hl : l.length ≤ 4611686018427387904) : cu l 0 := ⟨⟨by omega, by omega⟩, hl⟩
theorem newP_l (l : List Int) (hl : l.length ≤ 4611686018427387904) (d : Nat) : ∀ (h : Int) (i : Nat), i ≤ l.length → l.length - i = d → EvP (fun k => spec_l01New.l0 k l h (i : Int)) (fun r => r.1 = l ∧ cu l r.2.1) := by
  induction d with
  | zero => intro h i hi hd; refine EvP.succ ?_; simp only [spec_l01New.l0]; exact EvP.no (by omega) (EvP.ret ⟨rfl, cu_zero hl⟩)
  | succ d ih =>
    intro h i hi hd
    have hlt : i < l.length := by omega
    refine EvP.succ ?_
    simp only [spec_l01New.l0]
    refine EvP.yes (by omega) (EvP.ite (fun c => EvP.yes (by omega) ?_) (fun c => EvP.ret ⟨rfl, cu_zero hl⟩))
    rw [wnat i _ hlt (by omega)]
    exact ih _ (i + 1) (by omega) (by omega)
theorem newP (l : List Int) (hl : l.length ≤ 4611686018427387904) : EvP (fun k => spec_l01New.f k l) (fun r => r.1 = l ∧ cu l r.2.1) := newP_l l hl l.length _ 0 (by omega) (by omega)
end Go.Proofs.YtiibecpllokhiaaDoor.Q
namespace Go.Proofs.YtiibecpllokhiaaDoor.Q
open Go.RowKit Go.Proofs.YtiibecpllokhiaaDoorW.PrintWords Go.Proofs.YtiibecpllokhiaaDoorW.PrintLast Go.Proofs.YtiibecpllokhiaaDoorW.PrintMore
def Pl (r : List Int) : Prop := r.length = 12 ∧ ∀ p ∈ r, 0 ≤ p ∧ p < 10000
end Go.Proofs.YtiibecpllokhiaaDoor.Q
namespace Go.Proofs.YtiibecpllokhiaaDoor.Q
open Go.RowKit Go.Proofs.YtiibecpllokhiaaDoorW.PrintWords Go.Proofs.YtiibecpllokhiaaDoorW.PrintLast Go.Proofs.YtiibecpllokhiaaDoorW.PrintMore
theorem pickM (l : List Int) (i h : Int) (x : List ByteArray) (hx : 1 ≤ x.length) (hm : x.length ≤ 1000) (hc : cu l i) : EvP (fun _ => spec_l01Pick.f l i h x) (fun r => r.1 ∈ x ∧ cu l r.2.1) := by
  simp only [spec_l01Pick.f]
  refine EvP.bind (belowP l i h _ (by omega) hc) fun r hr => EvP.yes hr.1.1 (EvP.yes hr.1.2 (EvP.ret ⟨?_, hr.2⟩))
  unfold rdOf
  have hlt : r.1.toNat < x.length := by omega
  simp only [List.getD_eq_getElem?_getD, List.getElem?_eq_getElem hlt, Option.getD_some]
  exact List.getElem_mem hlt
def names6 : List ByteArray := [(⟨#[99, 97, 99, 104, 101, 45, 99, 111, 110, 116, 114, 111, 108]⟩ : ByteArray), (⟨#[104, 111, 115, 116]⟩ : ByteArray), (⟨#[99, 111, 110, 116, 101, 110, 116, 45, 108, 101, 110, 103, 116, 104]⟩ : ByteArray), (⟨#[120]⟩ : ByteArray), (⟨#[97, 117, 116, 104, 111, 114, 105, 122, 97, 116, 105, 111, 110]⟩ : ByteArray), (⟨#[116, 114, 97, 110, 115, 102, 101, 114, 45, 101, 110, 99, 111, 100, 105, 110, 103]⟩ : ByteArray)]
def values10 : List ByteArray := [(⟨#[]⟩ : ByteArray), (⟨#[97]⟩ : ByteArray), (⟨#[110, 111, 45, 115, 116, 111, 114, 101]⟩ : ByteArray), (⟨#[109, 97, 120, 45, 97, 103, 101, 61, 54, 48]⟩ : ByteArray), (⟨#[109, 97, 120, 45, 97, 103, 101, 61, 53, 44, 32, 112, 114, 105, 118, 97, 116, 101]⟩ : ByteArray), (⟨#[115, 45, 109, 97, 120, 97, 103, 101, 61, 57]⟩ : ByteArray), (⟨#[49, 50]⟩ : ByteArray), (⟨#[99, 104, 117, 110, 107, 101, 100]⟩ : ByteArray), (⟨#[98, 32, 32, 99]⟩ : ByteArray), (⟨#[51]⟩ : ByteArray)]
def lines6 : List ByteArray := [(⟨#[71, 69, 84, 32, 47, 97, 32, 72, 84, 84, 80, 47, 49, 46, 49]⟩ : ByteArray), (⟨#[71, 69, 84, 32, 47, 98, 32, 72, 84, 84, 80, 47, 49, 46, 49]⟩ : ByteArray), (⟨#[72, 84, 84, 80, 47, 49, 46, 49, 32, 50, 48, 48, 32, 111, 107]⟩ : ByteArray), (⟨#[72, 84, 84, 80, 47, 49, 46, 49, 32, 52, 48, 52, 32, 110, 111]⟩ : ByteArray), (⟨#[80, 79, 83, 84, 32, 47, 97, 32, 72, 84, 84, 80, 47, 49, 46, 49]⟩ : ByteArray), (⟨#[120]⟩ : ByteArray)]
def dF (f : S40) : Prop := f.f0 ∈ names6 ∧ f.f1 ∈ values10
theorem fieldM (l : List Int) (i h : Int) (hc : cu l i) : EvP (fun _ => spec_l09FieldOf.f l i h) (fun r => dF ⟨r.1, r.2.1⟩ ∧ cu l r.2.2.1) := by
  simp only [spec_l09FieldOf.f]
  refine EvP.bind (pickM l _ _ _ (by decide) (by decide) hc) fun a ha => EvP.bind (pickM l _ _ _ (by decide) (by decide) ha.2) fun b hb => EvP.ret ⟨⟨ha.1, hb.1⟩, hb.2⟩
def dFs (l : List S40) : Prop := l.length ≤ 3 ∧ ∀ f ∈ l, dF f
theorem headM_l (l : List Int) (a : ByteArray) (d : Nat) : ∀ (x : List S40) (j : Nat) (i h : Int), x.length = j → j ≤ 3 → 4 - j = d → dFs x → cu l i → EvP (fun k => spec_l09Head.l0 k (j : Int) l i h a x) (fun r => r.1 = a ∧ dFs r.2.1 ∧ cu l r.2.2.1) := by
  induction d with
  | zero => intro x j i h h0 h1 h2; omega
  | succ d ih =>
    intro x j i h h0 h1 h2 hf hc
    refine EvP.succ ?_
    simp only [spec_l09Head.l0]
    refine EvP.bind (belowP l _ _ 4 (by omega) hc) fun y hy => EvP.ite (fun c => ?_) (fun _ => EvP.ret ⟨rfl, hf, hy.2⟩)
    rw [wnat j 4 (by omega) (by omega)]
    refine EvP.bind (fieldM l _ _ hy.2) fun q hq => EvP.yes (by omega) (ih _ (j + 1) _ _ (by simp; omega) (by omega) (by omega) ⟨by simp; omega, fun f hm => ?_⟩ hq.2)
    rcases List.mem_append.mp hm with hm | hm
    · exact hf.2 f hm
    · rw [List.mem_singleton.mp hm]; exact hq.1
theorem headM (l : List Int) (i h : Int) (hc : cu l i) : EvP (fun k => spec_l09Head.f k l i h) (fun r => r.1 ∈ lines6 ∧ dFs r.2.1 ∧ cu l r.2.2.1) := by
  simp only [spec_l09Head.f]
  refine EvP.bind (pickM l _ _ _ (by decide) (by decide) hc) fun a ha => ?_
  refine (headM_l l a.1 4 [] 0 _ _ rfl (by omega) (by omega) ⟨by simp, fun f hf => absurd hf (by simp)⟩ ha.2).imp fun r hr => ?_
  exact ⟨by rw [hr.1]; exact ha.1, hr.2⟩
theorem all_fields : ∀ n ∈ names6, ∀ v ∈ values10, fieldB n v = true ∧ n.size ≤ 20 ∧ v.size ≤ 20 := by decide +kernel
theorem all_lines : ∀ a ∈ lines6, lineB a = true ∧ a.size ≤ 20 := by decide +kernel
end Go.Proofs.YtiibecpllokhiaaDoor.Q
namespace Go.Proofs.YtiibecpllokhiaaDoor.Q
open Go.RowKit Go.Proofs.YtiibecpllokhiaaDoorW.PrintWords Go.Proofs.YtiibecpllokhiaaDoorW.PrintLast Go.Proofs.YtiibecpllokhiaaDoorW.PrintMore
theorem son_size (x : List Int) : (strOfNums x).size = x.length := by
  show ((List.map (fun n : Int => UInt8.ofNat n.toNat) x).toArray).size = x.length
  simp
theorem textP_l (l : List Int) (n : Int) (hn : n ≤ 5000) (d : Nat) : ∀ (x : List Int) (ci ch : Int), n - (x.length : Int) ≤ (d : Int) → x.length ≤ 5000 → cu l ci → EvP (fun k => spec_l01Text.l0 k n x (x.length : Int) l ci ch) (fun r => ((r.1.size : Int) = n ∨ (n ≤ (x.length : Int) ∧ r.1.size = x.length)) ∧ cu l r.2.1) := by
  induction d with
  | zero =>
    intro x ci ch hd hx hc
    refine EvP.succ ?_
    simp only [spec_l01Text.l0]
    refine EvP.no (by omega) (EvP.ret ⟨.inr ⟨by omega, son_size x⟩, hc⟩)
  | succ d ih =>
    intro x ci ch hd hx hc
    refine EvP.succ ?_
    simp only [spec_l01Text.l0]
    refine EvP.ite (fun c => ?_) (fun c => EvP.ret ⟨.inr ⟨by omega, son_size x⟩, hc⟩)
    refine EvP.bind (byteP l _ _ hc) fun y hy => EvP.yes (by omega) ?_
    rw [wnat x.length 5001 (by omega) (by omega), show ((x.length + 1 : Nat) : Int) = ((x ++ [y.1 % 256]).length : Int) by simp]
    refine (ih (x ++ [y.1 % 256]) _ _ (by simp; omega) (by simp; omega) hy.2).imp fun r hr => ⟨?_, hr.2⟩
    rcases hr.1 with h | ⟨h1, h2⟩
    · exact .inl h
    · simp at h1 h2
      exact .inl (by omega)
theorem textP (l : List Int) (i h n : Int) (hc : cu l i) : EvP (fun k => spec_l01Text.f k l i h n) (fun r => (r.1.size : Int) ≤ 5000 ∧ (0 ≤ n → n ≤ 5000 → (r.1.size : Int) = n) ∧ cu l r.2.1) := by
  simp only [spec_l01Text.f]
  have go : ∀ m : Int, m ≤ 5000 → EvP (fun k => spec_l01Text.j0 k m l i h) (fun r => (r.1.size : Int) ≤ 5000 ∧ (0 ≤ m → (r.1.size : Int) = m) ∧ cu l r.2.1) := by
    intro m hm
    refine EvP.succ ?_
    simp only [spec_l01Text.j0]
    have h := textP_l l m hm 5000 [] i h (by simp; omega) (by simp) hc
    simp only [List.length_nil] at h
    refine h.imp fun r hr => ⟨?_, fun h0 => ?_, hr.2⟩
    · rcases hr.1 with q | ⟨q1, q2⟩ <;> omega
    · rcases hr.1 with q | ⟨q1, q2⟩ <;> omega
  refine EvP.ite (fun c => (go 5000 (by omega)).imp fun r hr => ⟨hr.1, fun _ q => absurd q (by omega), hr.2.2⟩) (fun c => (go n (by omega)).imp fun r hr => ⟨hr.1, fun h0 _ => hr.2.1 h0, hr.2.2⟩)
end Go.Proofs.YtiibecpllokhiaaDoor.Q
namespace Go.Proofs.YtiibecpllokhiaaDoor.Q
open Go.RowKit Go.Proofs.YtiibecpllokhiaaDoorW.PrintWords Go.Proofs.YtiibecpllokhiaaDoorW.PrintLast Go.Proofs.YtiibecpllokhiaaDoorW.PrintMore
theorem longP_l (n : Nat) (b : Int) (d : Nat) : ∀ (x : List Int) (i : Nat), x.length = n → n ≤ 1000 → i ≤ n → n - i = d → EvP (fun k => spec_l01Long.l0 k (n : Int) b x (i : Int)) (fun r => r.size = n) := by
  induction d with
  | zero =>
    intro x i hx hn hi hd
    refine EvP.succ ?_
    simp only [spec_l01Long.l0]
    refine EvP.no (by omega) (EvP.ret ?_)
    show (strOfNums x).size = n
    rw [← hx]; exact son_size x
  | succ d ih =>
    intro x i hx hn hi hd
    refine EvP.succ ?_
    simp only [spec_l01Long.l0]
    rw [wnat i n (by omega) (by omega)]
    exact EvP.yes (by omega) (EvP.yes (by omega) (EvP.yes (by omega) (ih _ (i + 1) (by simpa using hx) hn (by omega) (by omega))))
theorem longP (n : Int) (b : Int) (h0 : 0 ≤ n) (h1 : n ≤ 1000) : EvP (fun k => spec_l01Long.f k n b) (fun r => (r.size : Int) = n) := by
  obtain ⟨m, rfl⟩ : ∃ m : Nat, n = (m : Int) := ⟨n.toNat, by omega⟩
  simp only [spec_l01Long.f, Int.toNat_natCast]
  exact EvP.yes (by omega) (EvP.yes (by omega) ((longP_l m b m _ 0 (by simp) (by omega) (by omega) (by omega)).imp fun r hr => by omega))
end Go.Proofs.YtiibecpllokhiaaDoor.Q
namespace Go.Proofs.YtiibecpllokhiaaDoor.Q
open Go.RowKit Go.Proofs.YtiibecpllokhiaaDoorW.PrintWords Go.Proofs.YtiibecpllokhiaaDoorW.PrintLast Go.Proofs.YtiibecpllokhiaaDoorW.PrintMore
def aOk (a : ByteArray) (l : List S40) : Prop := a.size ≤ 100 ∧ l.length ≤ 9 ∧ ∀ f ∈ l, f.f0.size ≤ 100 ∧ f.f1.size ≤ 100
theorem aOk_hsz {l : List S40} (h : ∀ f ∈ l, f.f0.size ≤ 100 ∧ f.f1.size ≤ 100) : hsz l ≤ 204 * l.length := by
  induction l with
  | nil => simp [hsz]
  | cons f r ih =>
    have h1 := h f (by simp)
    have h2 := ih (fun g hg => h g (by simp [hg]))
    rw [hsz, List.length_cons]; omega
theorem rdOf_size {y : List ByteArray} (h : ∀ b ∈ y, b.size ≤ 100) (n : Int) : (rdOf ByteArray.empty y n).size ≤ 100 := by
  unfold rdOf
  rw [List.getD_eq_getElem?_getD]
  cases e : y[n.toNat]? with
  | none => exact Nat.zero_le _
  | some b => exact h b (List.mem_of_getElem? e)
theorem aOk_set {a : ByteArray} {l : List S40} {f : S40} (h : aOk a l) (hf : f.f0.size ≤ 100 ∧ f.f1.size ≤ 100) : aOk a (l.set 0 f) := by
  refine ⟨h.1, by rw [List.length_set]; exact h.2.1, fun g hg => ?_⟩
  rcases List.mem_or_eq_of_mem_set hg with hg | rfl
  · exact h.2.2 g hg
  · exact hf
theorem any_l (l : List Int) (i h : Int) (hc : cu l i) (x : Int) (hx : 0 ≤ x ∧ x < 60) (a : ByteArray) (_ : a.size ≤ 100) (d : Nat) : ∀ y : List S40, 9 - y.length = d → aOk a y → EvP (fun k => spec_l09Any.l0 k x l i h a y) (fun r => aOk r.1 r.2.1 ∧ cu l r.2.2.1) := by
  have hx0 := hx.1
  have hm : Int.tmod x 2 = x % 2 := Int.tmod_eq_emod_of_nonneg hx.1
  have hm2 : Int.tmod x 40 = x % 40 := Int.tmod_eq_emod_of_nonneg hx.1
  have hw : wrap64 (8 + (Int.tmod x 2)) ≤ 9 := by rw [hm, w64 (by omega) (by omega)]; omega
  induction d with
  | zero =>
    intro y hd hy
    refine EvP.succ ?_
    simp only [spec_l09Any.l0]
    have := hy.2.1
    exact EvP.no (by omega) (EvP.ret ⟨hy, hc⟩)
  | succ d ih =>
    intro y hd hy
    refine EvP.succ ?_
    simp only [spec_l09Any.l0]
    refine EvP.ite (fun c => ?_) (fun _ => EvP.ret ⟨hy, hc⟩)
    rw [hm2]
    refine EvP.bind (longP (x % 40) 97 (by omega) (by omega)) fun t ht => EvP.yes (by omega) (ih _ (by simp; omega) ⟨hy.1, by simp; omega, fun f hf => ?_⟩)
    rcases List.mem_append.1 hf with hf | hf
    · exact hy.2.2 f hf
    · rw [List.mem_singleton.1 hf]; exact ⟨by show (1 : Nat) ≤ 100; omega, by show t.size ≤ 100; omega⟩
theorem anyP (l : List Int) (i h : Int) (hc : cu l i) : EvP (fun k => spec_l09Any.f k l i h) (fun r => aOk r.1 r.2.1 ∧ cu l r.2.2.1) := by
  simp only [spec_l09Any.f, Option.bind_some]
  refine EvP.bind (belowP l _ _ 12 (by omega) hc) fun k hk => EvP.bind (belowP l _ _ 60 (by omega) hk.2) fun x hx => EvP.bind (headM l _ _ hx.2) fun q hq => ?_
  have ha : aOk q.1 q.2.1 := by
    refine ⟨by have := (all_lines _ hq.1).2; omega, by have := hq.2.1.1; omega, fun f hf => ?_⟩
    have h1 := hq.2.1.2 f hf
    have := all_fields _ h1.1 _ h1.2
    omega
  have hc' := hq.2.2
  have x0 := hx.1.1
  rw [Int.tmod_eq_emod_of_nonneg (b := 7) x0, Int.tmod_eq_emod_of_nonneg (b := 5) x0]
  refine EvP.ite (fun _ => ?_) (fun _ => EvP.ite (fun _ => EvP.ite (fun c => ?_) (fun _ => EvP.ret ⟨ha, hc'⟩)) (fun _ => EvP.ite (fun _ => EvP.ite (fun c => ?_) (fun _ => EvP.ret ⟨ha, hc'⟩)) (fun _ => EvP.ite (fun _ => ?_) (fun _ => EvP.ret ⟨ha, hc'⟩))))
  · refine EvP.bind (longP 80 65 (by omega) (by omega)) fun t ht => EvP.bind (longP 81 65 (by omega) (by omega)) fun u hu => EvP.yes (by omega) (EvP.yes (by show x.1 % 7 < 7; omega) (EvP.ret ⟨⟨rdOf_size ?_ _, ha.2⟩, hc'⟩))
    intro b hb
    simp only [List.mem_cons, List.not_mem_nil, or_false] at hb
    rcases hb with rfl | rfl | rfl | rfl | rfl | rfl | rfl
    · exact Nat.zero_le _
    · omega
    · omega
    · show (3 : Nat) ≤ 100; omega
    · show (17 : Nat) ≤ 100; omega
    · show (14 : Nat) ≤ 100; omega
    · show (14 : Nat) ≤ 100; omega
  · have hl : 0 < q.2.1.length := by omega
    have e0 := rdF_get q.2.1 0 hl
    rw [show ((0 : Nat) : Int) = 0 from rfl] at e0
    refine EvP.bind (longP 21 97 (by omega) (by omega)) fun t ht => EvP.yes (by omega) (EvP.yes (by show x.1 % 5 < 5; omega) (EvP.yes (by omega) (EvP.ret ⟨aOk_set ha ⟨rdOf_size ?_ _, by rw [e0]; exact (ha.2.2 _ (List.getElem_mem hl)).2⟩, hc'⟩)))
    intro b hb
    simp only [List.mem_cons, List.not_mem_nil, or_false] at hb
    rcases hb with rfl | rfl | rfl | rfl | rfl
    · exact Nat.zero_le _
    · show (1 : Nat) ≤ 100; omega
    · show (3 : Nat) ≤ 100; omega
    · omega
    · show (1 : Nat) ≤ 100; omega
  · have hl : 0 < q.2.1.length := by omega
    have e0 := rdF_get q.2.1 0 hl
    rw [show ((0 : Nat) : Int) = 0 from rfl] at e0
    refine EvP.bind (longP 60 97 (by omega) (by omega)) fun t ht => EvP.bind (longP 61 97 (by omega) (by omega)) fun u hu => EvP.yes (by omega) (EvP.yes (by show x.1 % 5 < 5; omega) (EvP.yes (by omega) (EvP.ret ⟨aOk_set ha ⟨by rw [e0]; exact (ha.2.2 _ (List.getElem_mem hl)).1, rdOf_size ?_ _⟩, hc'⟩)))
    intro b hb
    simp only [List.mem_cons, List.not_mem_nil, or_false] at hb
    rcases hb with rfl | rfl | rfl | rfl | rfl
    · show (2 : Nat) ≤ 100; omega
    · show (2 : Nat) ≤ 100; omega
    · omega
    · omega
    · show (1 : Nat) ≤ 100; omega
  · exact any_l l _ _ hc' x.1 hx.1 _ ha.1 _ _ rfl ha
end Go.Proofs.YtiibecpllokhiaaDoor.Q
namespace Go.Proofs.YtiibecpllokhiaaDoor.Q
open Go.RowKit Go.Proofs.YtiibecpllokhiaaDoorW.PrintWords Go.Proofs.YtiibecpllokhiaaDoorW.PrintLast Go.Proofs.YtiibecpllokhiaaDoorW.PrintMore
def tx (l : List Int) (r : ByteArray × Int × Int) : Prop := r.1.size ≤ 20000 ∧ cu l r.2.1
theorem ext_le (s : ByteArray) (a b : Nat) (h : b ≤ s.size) : (s.extract a b).size ≤ s.size := by rw [ext_size s a b h]; omega
theorem spoilt_j (l : List Int) (s : ByteArray) (hs : s.size ≤ 1000) (b : Bool) (i h : Int) (hc : cu l i) : EvP (fun k => spec_l02Spoilt.j0 k s b l i h) (tx l) := by
  refine EvP.succ ?_
  simp only [spec_l02Spoilt.j0]
  have stay : tx l (s, i, h) := ⟨by show s.size ≤ 20000; omega, hc⟩
  refine EvP.ite (fun _ => EvP.ite (fun c => ?_) (fun _ => EvP.ret stay)) (fun _ => EvP.ret stay)
  refine EvP.bind (belowP l _ _ (s.size : Int) (by omega) hc) fun y hy => EvP.yes (by omega) (EvP.yes (by omega) ?_)
  refine EvP.bind (textP l _ _ 1 hy.2) fun q hq => ?_
  have h1 := hq.2.1 (by omega) (by omega)
  rw [w64 (n := y.1 + 1) (by omega) (by omega)]
  have z1 : (s.extract 0 y.1.toNat).size ≤ s.size := ext_le s _ _ (by omega)
  have z2 : (s.extract (y.1 + 1).toNat s.size).size ≤ s.size := ext_le s _ _ (by omega)
  refine EvP.yes (by omega) (EvP.yes (by omega) (EvP.yes (by omega) (EvP.yes (by rw [ByteArray.size_append]; omega) (EvP.ret ⟨?_, hq.2.2⟩))))
  show ((s.extract 0 y.1.toNat ++ q.1) ++ s.extract (y.1 + 1).toNat s.size).size ≤ 20000
  rw [ByteArray.size_append, ByteArray.size_append]; omega
theorem spoiltP (l : List Int) (s : ByteArray) (hs : s.size ≤ 1000) (i h : Int) (hc : cu l i) : EvP (fun k => spec_l02Spoilt.f k l i h s) (tx l) := by
  simp only [spec_l02Spoilt.f]
  refine EvP.bind (belowP l _ _ 12 (by omega) hc) fun y hy => EvP.ite (fun _ => ?_) (fun _ => EvP.ite (fun _ => ?_) (fun _ => EvP.ite (fun _ => spoilt_j l s hs _ _ _ hy.2) (fun _ => spoilt_j l s hs _ _ _ hy.2)))
  · refine EvP.bind (textP l _ _ 1 hy.2) fun q hq => ?_
    have h1 := hq.2.1 (by omega) (by omega)
    exact EvP.yes (by omega) (EvP.ret ⟨by show (s ++ q.1).size ≤ 20000; rw [ByteArray.size_append]; omega, hq.2.2⟩)
  · rw [w64 (n := (s.size : Int) + 1) (by omega) (by omega)]
    refine EvP.bind (belowP l _ _ ((s.size : Int) + 1) (by omega) hy.2) fun z hz => EvP.yes (by omega) (EvP.yes (by omega) (EvP.ret ⟨?_, hz.2⟩))
    have := ext_le s 0 z.1.toNat (by omega)
    show (s.extract 0 z.1.toNat).size ≤ 20000
    omega
end Go.Proofs.YtiibecpllokhiaaDoor.Q
namespace Go.Proofs.YtiibecpllokhiaaDoor.Q
open Go.RowKit Go.Proofs.YtiibecpllokhiaaDoorW.PrintWords Go.Proofs.YtiibecpllokhiaaDoorW.PrintLast Go.Proofs.YtiibecpllokhiaaDoorW.PrintMore
def fieldF (name : ByteArray) : List S40 → ByteArray × Bool
  | [] => ((⟨#[]⟩ : ByteArray), false)
  | f :: r => if f.f0.toList = name.toList then (f.f1, true) else fieldF name r
theorem fieldOf_spec_l (name a : ByteArray) (l : List S40) (hl : l.length ≤ 9223372036854775807) (d : Nat) : ∀ i : Nat, i ≤ l.length → l.length - i = d → Ev (fun k => spec_FieldOf.l0 k name (i : Int) a l) (fieldF name (l.drop i)) := by
  induction d with
  | zero => intro i hi hd; refine Ev.succ ?_; simp only [spec_FieldOf.l0]; rw [List.drop_eq_nil_of_le (by omega)]; exact Ev.no (by omega) (Ev.now _)
  | succ d ih =>
    intro i hi hd
    have hlt : i < l.length := by omega
    refine Ev.succ ?_
    simp only [spec_FieldOf.l0]
    rw [rdF_get l i hlt, wnat i _ hlt hl, drop_get l i hlt]
    refine Ev.yes (by omega) (Ev.yes (by omega) ?_)
    by_cases c : l[i].f0.toList = name.toList
    · rw [fieldF, if_pos c]; exact Ev.yes c (Ev.now _)
    · rw [fieldF, if_neg c]; exact Ev.no c (ih (i + 1) (by omega) (by omega))
theorem fieldOf_spec (a : ByteArray) (l : List S40) (name : ByteArray) (hl : l.length ≤ 9223372036854775807) : Ev (fun k => spec_FieldOf.f k a l name) (fieldF name l) := fieldOf_spec_l name a l hl l.length 0 (by omega) (by omega)
theorem fieldOf_impl_l (name : ByteArray) (l : List S40) (hl : l.length ≤ 9223372036854775807) (d : Nat) : ∀ i : Nat, i ≤ l.length → l.length - i = d → Ev (fun k => impl_FieldOf.l0 k name l (l.length : Int) (i : Int)) (fieldF name (l.drop i)) := by
  induction d with
  | zero => intro i hi hd; refine Ev.succ ?_; simp only [impl_FieldOf.l0]; rw [List.drop_eq_nil_of_le (by omega)]; exact Ev.no (by omega) (Ev.now _)
  | succ d ih =>
    intro i hi hd
    have hlt : i < l.length := by omega
    refine Ev.succ ?_
    simp only [impl_FieldOf.l0]
    rw [rdF_get l i hlt, wnat i _ hlt hl, drop_get l i hlt]
    refine Ev.yes (by omega) (Ev.yes (by omega) (Ev.yes (by omega) ?_))
    by_cases c : l[i].f0.toList = name.toList
    · rw [fieldF, if_pos c]; exact Ev.yes c (Ev.now _)
    · rw [fieldF, if_neg c]; exact Ev.no c (ih (i + 1) (by omega) (by omega))
theorem fieldOf_impl (a : ByteArray) (l : List S40) (name : ByteArray) (hl : l.length ≤ 9223372036854775807) : Ev (fun k => impl_FieldOf.f k a l name) (fieldF name l) := fieldOf_impl_l name l hl l.length 0 (by omega) (by omega)
end Go.Proofs.YtiibecpllokhiaaDoor.Q
namespace Go.Proofs.YtiibecpllokhiaaDoor.Q
open Go.RowKit Go.Proofs.YtiibecpllokhiaaDoorW.PrintWords Go.Proofs.YtiibecpllokhiaaDoorW.PrintLast Go.Proofs.YtiibecpllokhiaaDoorW.PrintMore
theorem rdL_ok (n : Nat) (d : Nat) : ∀ (t : List UInt8) (a : ByteArray) (l : List S40), okF l → (rdL n d t a l).2.2.2 = 0 → headB (rdL n d t a l).1 (rdL n d t a l).2.1 = true ∧ okF (rdL n d t a l).2.1 := by
  have e : ∀ m, (endR m).2.2.2 ≠ 0 := fun m => by unfold endR; split <;> decide
  induction d with
  | zero => intro t a l h h0; exact absurd h0 (show ¬ (2 : Int) = 0 by decide)
  | succ d ih =>
    intro t a l h
    cases hln : ln t with
    | none => rw [rdL_none hln]; intro h0; exact absurd h0 (by decide)
    | some p =>
      obtain ⟨x, y⟩ := p
      cases y with
      | none => rw [rdL_more hln]; intro h0; exact absurd h0 (e _)
      | some y =>
        by_cases x0 : x = []
        · subst x0
          rw [rdL_done hln]
          by_cases hb : headB a l = true
          · by_cases g : ((n - y.length : Nat) : Int) > 300
            · rw [doneR_big g]; intro h0; exact absurd h0 (by decide)
            · rw [doneR_ok hb g]; intro _; exact ⟨hb, h⟩
          · rw [doneR_no hb]; intro h0; exact absurd h0 (by decide)
        · cases hf : fldL x with
          | none => rw [rdL_bad hln x0 hf]; intro h0; exact absurd h0 (by decide)
          | some f =>
            by_cases g : l.length = 8
            · rw [rdL_full hln x0 hf g]; intro h0; exact absurd h0 (by decide)
            · rw [rdL_go hln x0 hf g]; exact ih _ _ _ (okF_add h g hf)
theorem rdH_ok (t : List UInt8) (h0 : (rdH t).2.2.2 = 0) : headB (rdH t).1 (rdH t).2.1 = true := by
  have e : ∀ m, (endR m).2.2.2 ≠ 0 := fun m => by unfold endR; split <;> decide
  cases hln : ln t with
  | none => rw [rdH_none hln] at h0; exact absurd h0 (by decide)
  | some p =>
    obtain ⟨x, y⟩ := p
    cases y with
    | none =>
      by_cases c : (inB 32 126 x && decide ((x.length : Int) ≤ 80)) = true
      · rw [rdH_more hln c] at h0; exact absurd h0 (e _)
      · rw [rdH_part hln c] at h0; exact absurd h0 (by decide)
    | some y =>
      by_cases c : lineB (ba x) = true
      · rw [rdH_go hln c] at h0 ⊢
        exact (rdL_ok _ _ _ _ _ ⟨by simp, by simp⟩ h0).1
      · rw [rdH_bad hln c] at h0; exact absurd h0 (by decide)
theorem drawRead (l0 : List Int) (hl : l0.length ≤ 4611686018427387904) : EvP (fun k => spec_DrawReadHead.f k l0) (fun t => t.size ≤ 20000) := by
  simp only [spec_DrawReadHead.f]
  refine EvP.bind (newP l0 hl) fun c hc => ?_
  rw [hc.1]
  refine EvP.bind (belowP l0 _ _ 10 (by omega) hc.2) fun k hk => EvP.bind (belowP l0 _ _ 200 (by omega) hk.2) fun x hx => EvP.bind (anyP l0 _ _ hx.2) fun q hq => ?_
  have hz := aOk_hsz hq.1.2.2
  have h9 := hq.1.2.1
  have h1 := hq.1.1
  have ht := headText_spec q.1 q.2.1 (by omega) (by omega)
  have htz : (headTB q.1 q.2.1).1.size ≤ 1000 := by
    unfold headTB
    by_cases c : headB q.1 q.2.1 = true
    · rw [if_pos c]; have := (head_parts c).2.2.2; show (headT _ _).size ≤ _; omega
    · rw [if_neg c]; exact Nat.zero_le _
  refine EvP.bind (EvP.ev (P := fun r => r.1.size ≤ 1000) ht htz) fun s hs => ?_
  have x0 := hx.1.1
  have cut : EvP (fun k => if (wrap64 ((s.1.size : Int) + 1)) = 0 then (none : Option ByteArray) else (if 0 ≤ (Int.tmod x.1 (wrap64 ((s.1.size : Int) + 1))) then (if (Int.tmod x.1 (wrap64 ((s.1.size : Int) + 1))) ≤ (s.1.size : Int) then (some (s.1.extract 0 ((Int.tmod x.1 (wrap64 ((s.1.size : Int) + 1))) : Int).toNat)) else (none)) else (none))) (fun t => t.size ≤ 20000) := by
    rw [w64 (n := (s.1.size : Int) + 1) (by omega) (by omega), Int.tmod_eq_emod_of_nonneg x0]
    have m0 := Int.emod_nonneg x.1 (show ((s.1.size : Int) + 1) ≠ 0 by omega)
    have m1 := Int.emod_lt_of_pos x.1 (show (0 : Int) < ((s.1.size : Int) + 1) by omega)
    exact EvP.no (by omega) (EvP.yes m0 (EvP.yes (by omega) (EvP.ret (by rw [ext_size _ _ _ (by omega)]; omega))))
  refine EvP.ite (fun _ => cut) (fun _ => EvP.ite (fun _ => cut) (fun _ => EvP.ite (fun _ => ?_) (fun _ => EvP.ite (fun _ => ?_) (fun _ => EvP.ite (fun _ => EvP.ret (by decide)) (fun _ => EvP.ite (fun _ => ?_) (fun _ => EvP.ret (by omega)))))))
  · exact EvP.bind (spoiltP l0 s.1 hs _ _ hq.2) fun r hr => EvP.ret hr.1
  · exact EvP.yes (by omega) (EvP.ret (by rw [ByteArray.size_append]; show _ + 4 ≤ _; omega))
  · rw [w64 (n := x.1 + 140) (by omega) (by omega)]
    exact EvP.bind (longP (x.1 + 140) 97 (by omega) (by omega)) fun t ht => EvP.yes (by omega) (EvP.ret (by rw [ByteArray.size_append]; show 3 + _ ≤ _; omega))
theorem pureFnHeadsTold (l0 : List Int) (_ : l0.length ≤ maxLen) (_ : ∀ x ∈ l0, (Lit.int .u8 x).wf = true) : ∃ k, laws_FnHeadsTold.f k l0 = some true := by
  refine Ev.rounds (g := fun k => laws_FnHeadsTold.f k l0) ?_
  simp only [laws_FnHeadsTold.f, laws_big.f, Option.bind_some]
  by_cases c : (l0.length : Int) > 1048576
  · exact Ev.yes (decide_eq_true c) (Ev.now _)
  refine Ev.no (by simpa using c) ?_
  have hd : EvP (fun k => spec_DrawHeadText.f k l0) (fun r => aOk r.1 r.2) := by
    simp only [spec_DrawHeadText.f]
    refine EvP.bind (newP l0 (by omega)) fun c hc => ?_
    rw [hc.1]
    exact EvP.bind (anyP l0 _ _ hc.2) fun q hq => EvP.ret hq.1
  have hfo : EvP (fun k => spec_DrawFieldOk.f k l0) (fun r => r.1.size ≤ 100 ∧ r.2.size ≤ 100) := by
    simp only [spec_DrawFieldOk.f]
    refine EvP.bind (newP l0 (by omega)) fun c hc => ?_
    rw [hc.1]
    refine EvP.bind (anyP l0 _ _ hc.2) fun q hq => EvP.ite (fun _ => ?_) (fun c => EvP.yes (by omega) (EvP.ret ?_))
    · refine EvP.bind (fieldM l0 _ _ hq.2) fun f hf => EvP.ret ?_
      have := all_fields _ hf.1.1 _ hf.1.2
      exact ⟨by have := this.2.1; show f.1.size ≤ 100; dsimp only at this; omega, by have := this.2.2; show f.2.1.size ≤ 100; dsimp only at this; omega⟩
    · have hlt : 0 < q.2.1.length := by omega
      have e0 := rdF_get q.2.1 0 hlt
      rw [show ((0 : Nat) : Int) = 0 from rfl] at e0
      rw [e0]
      exact hq.1.2.2 _ (List.getElem_mem hlt)
  have hff : EvP (fun k => spec_DrawFieldOf.f k l0) (fun r => aOk r.1 r.2.1) := by
    simp only [spec_DrawFieldOf.f]
    refine EvP.bind (newP l0 (by omega)) fun c hc => ?_
    rw [hc.1]
    exact EvP.bind (pickM l0 _ _ _ (by decide) (by decide) hc.2) fun n hn => EvP.bind (anyP l0 _ _ hn.2) fun q hq => EvP.ret hq.1
  obtain ⟨t, et, ht⟩ := drawRead l0 (by omega)
  obtain ⟨⟨a, l⟩, eh, ha⟩ := hd
  obtain ⟨⟨n, v⟩, ef, hf⟩ := hfo
  obtain ⟨⟨b, m, nm⟩, eg, hg⟩ := hff
  dsimp only at ha hf hg
  have z1 := aOk_hsz ha.2.2
  have z2 := ha.2.1
  have z3 := ha.1
  have y2 := hg.2.1
  have r1 := rd_impl t (by omega)
  have r2 := rd_spec t (by omega)
  have hlen := rdH_len t.data.toList
  have es := same_head (rdH t.data.toList).1 (rdH t.data.toList).2.1 (by omega)
  have o1 := headOk_impl a l (by omega) (by omega)
  have o2 := headOk_spec a l (by omega) (by omega)
  have t1 := headText_impl a l (by omega) (by omega)
  have t2 := headText_spec a l (by omega) (by omega)
  have f1 := fieldOk_impl n v (by omega) (by omega)
  have f2 := fieldOk_spec n v (by omega) (by omega)
  have g1 := fieldOf_impl b m nm (by omega)
  have g2 := fieldOf_spec b m nm (by omega)
  refine Ev.bind et (Ev.bind r1 (Ev.bind r2 (Ev.bind eh (Ev.bind t1 (Ev.bind t2 (Ev.bind ef (Ev.bind eg (Ev.bind g1 (Ev.bind g2 (Ev.yes rfl (Ev.yes rfl (Ev.bind es (Ev.yes rfl ?_)))))))))))))
  by_cases z : (rdH t.data.toList).2.2.2 = 0
  · have hb := rdH_ok _ z
    have hb2 := head_parts hb
    have hs := headT_size (rdH t.data.toList).1 (rdH t.data.toList).2.1
    have o3 := headOk_impl (rdH t.data.toList).1 (rdH t.data.toList).2.1 (by omega) (by omega)
    exact Ev.yes z (Ev.bind o3 (Ev.yes hb (Ev.yes (by simp) (Ev.yes rfl (Ev.bind f1 (Ev.bind f2 (Ev.yes (by simp) (Ev.yes rfl (Ev.yes (by simp) (Ev.bind o1 (Ev.bind o2 (by rw [beq_self_eq_true]; exact Ev.now _))))))))))))
  · exact Ev.no z (Ev.yes (by simp) (Ev.yes rfl (Ev.bind f1 (Ev.bind f2 (Ev.yes (by simp) (Ev.yes rfl (Ev.yes (by simp) (Ev.bind o1 (Ev.bind o2 (by rw [beq_self_eq_true]; exact Ev.now _))))))))))
end Go.Proofs.YtiibecpllokhiaaDoor.Q
