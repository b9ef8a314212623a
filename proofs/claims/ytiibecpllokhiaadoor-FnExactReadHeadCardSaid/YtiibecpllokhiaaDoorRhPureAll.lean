import Derived.Test.YtiibecpllokhiaaDoorRhWords
import Derived.Lib.Strings
import Derived.Test.YtiibecpllokhiaaDoorRhG31
import Derived.Test.YtiibecpllokhiaaDoorRhG33
import Derived.Test.YtiibecpllokhiaaDoorRhG111
import Derived.Lib.IndexAny
import Derived.Test.YtiibecpllokhiaaDoorRhG50
import Derived.Test.YtiibecpllokhiaaDoorRhG72
import Derived.Test.YtiibecpllokhiaaDoorRhG65
import Derived.Test.YtiibecpllokhiaaDoorRhG68
import Derived.Test.YtiibecpllokhiaaDoorRhG58
import Derived.Test.YtiibecpllokhiaaDoorRhG56
import Derived.Test.YtiibecpllokhiaaDoorRhG20
import Derived.Test.YtiibecpllokhiaaDoorRhG61
import Derived.Test.YtiibecpllokhiaaDoorRhG92
import Derived.Test.YtiibecpllokhiaaDoorRhG62
import Derived.Test.YtiibecpllokhiaaDoorRhG28
import Derived.Test.YtiibecpllokhiaaDoorRhG49
import Derived.Test.YtiibecpllokhiaaDoorRhG15
import Derived.Test.YtiibecpllokhiaaDoorRhG98
namespace Go.Proofs.YtiibecpllokhiaaDoor.Q
open Go.RowKit Go.Proofs.YtiibecpllokhiaaDoorW.PrintWords Go.Proofs.YtiibecpllokhiaaDoorW.PrintLast Go.Proofs.YtiibecpllokhiaaDoorW.PrintMore
/-- With enough rounds g tells something of which P holds. -/
def EvP {α : Type} (g : Nat → Option α) (P : α → Prop) : Prop := ∃ r, Ev g r ∧ P r
theorem Ev.succ {α : Type} {g : Nat → Option α} {r : α} (h : Ev (fun k => g (k + 1)) r) : Ev g r := Ev.step (fun _ => rfl) h
theorem Ev.yes {α : Type} {f g : Nat → Option α} {r : α} {c : Prop} [Decidable c] (hc : c) (h : Ev f r) : Ev (fun k => if c then f k else g k) r := Ev.congr (fun _ => if_pos hc) h
theorem Ev.no {α : Type} {f g : Nat → Option α} {r : α} {c : Prop} [Decidable c] (hc : ¬ c) (h : Ev g r) : Ev (fun k => if c then f k else g k) r := Ev.congr (fun _ => if_neg hc) h
theorem Ev.via {α β : Type} {g : Option α} {f : Nat → α → Option β} {a : α} {r : β} (h : g = some a) (k : Ev (fun n => f n a) r) : Ev (fun n => g.bind (f n)) r := Ev.congr (fun _ => by rw [h]; rfl) k
theorem EvP.bind {α β : Type} {g : Nat → Option α} {f : Nat → α → Option β} {P : α → Prop} {Q : β → Prop} (h : EvP g P) (k : ∀ a, P a → EvP (fun n => f n a) Q) : EvP (fun n => (g n).bind (f n)) Q := by
  obtain ⟨a, ha, hp⟩ := h
  obtain ⟨r, hr, hq⟩ := k a hp
  exact ⟨r, Ev.bind ha hr, hq⟩
theorem EvP.ite {α : Type} {f g : Nat → Option α} {P : α → Prop} {c : Prop} [Decidable c] (h1 : c → EvP f P) (h2 : ¬ c → EvP g P) : EvP (fun k => if c then f k else g k) P := by
  by_cases hc : c
  · obtain ⟨r, hr, hp⟩ := h1 hc; exact ⟨r, Ev.yes hc hr, hp⟩
  · obtain ⟨r, hr, hp⟩ := h2 hc; exact ⟨r, Ev.no hc hr, hp⟩
theorem EvP.yes {α : Type} {f g : Nat → Option α} {P : α → Prop} {c : Prop} [Decidable c] (hc : c) (h : EvP f P) : EvP (fun k => if c then f k else g k) P := EvP.ite (fun _ => h) (fun hn => absurd hc hn)
theorem EvP.no {α : Type} {f g : Nat → Option α} {P : α → Prop} {c : Prop} [Decidable c] (hc : ¬ c) (h : EvP g P) : EvP (fun k => if c then f k else g k) P := EvP.ite (fun hn => absurd hn hc) (fun _ => h)
theorem EvP.ret {α : Type} {a : α} {P : α → Prop} (h : P a) : EvP (fun _ => some a) P := ⟨a, Ev.now a, h⟩
theorem EvP.succ {α : Type} {g : Nat → Option α} {P : α → Prop} (h : EvP (fun k => g (k + 1)) P) : EvP g P := by
  obtain ⟨r, hr, hp⟩ := h
  exact ⟨r, Ev.succ hr, hp⟩
theorem EvP.imp {α : Type} {g : Nat → Option α} {P Q : α → Prop} (h : EvP g P) (k : ∀ r, P r → Q r) : EvP g Q := by
  obtain ⟨r, hr, hp⟩ := h
  exact ⟨r, hr, k r hp⟩
theorem EvP.is {α : Type} {g : Nat → Option α} {r : α} (h : EvP g (fun x => x = r)) : Ev g r := by
  obtain ⟨_, hr, rfl⟩ := h
  exact hr
end Go.Proofs.YtiibecpllokhiaaDoor.Q
namespace Go.Proofs.YtiibecpllokhiaaDoor.Q
open Go.RowKit Go.Proofs.YtiibecpllokhiaaDoorW.PrintWords Go.Proofs.YtiibecpllokhiaaDoorW.PrintLast Go.Proofs.YtiibecpllokhiaaDoorW.PrintMore
theorem w64 {n : Int} (h0 : -9223372036854775808 ≤ n) (h1 : n < 9223372036854775808) : wrap64 n = n := by unfold wrap64; omega
theorem wnat (i n : Nat) (h : i < n) (hn : n ≤ 9223372036854775807) : wrap64 ((i : Int) + 1) = ((i + 1 : Nat) : Int) := by rw [w64 (by omega) (by omega)]; rfl
theorem drop_get {α : Type} (l : List α) (i : Nat) (h : i < l.length) : l.drop i = l[i] :: l.drop (i + 1) := List.drop_eq_getElem_cons h
theorem take_set {α : Type} (x : List α) (i : Nat) (v : α) (h : i < x.length) : (x.set i v).take (i + 1) = x.take i ++ [v] := by
  have h2 : i < (x.set i v).length := by rw [List.length_set]; exact h
  rw [List.take_succ_eq_append_getElem h2, List.take_set, List.set_eq_of_length_le (by simp; omega)]
  simp
theorem toL (s : ByteArray) : s.toList = s.data.toList := Lib.toList_data s
theorem sizeL (s : ByteArray) : s.data.toList.length = s.size := (Lib.size_eq s).symm
theorem ba_ext {s t : ByteArray} (h : s.data.toList = t.data.toList) : s = t := ByteArray.ext (Array.toList_inj.1 h)
theorem bt_get (s : ByteArray) (i : Nat) (h : i < s.size) : bt s (i : Int) = ((s.data.toList[i]'(by rw [sizeL]; exact h)).toNat : Int) := by simp [bt, h]; rfl
theorem bt_rng (s : ByteArray) (i : Int) : 0 ≤ bt s i ∧ bt s i ≤ 255 := bt_range s i
/-- Are all bytes in lo .. hi. -/
def inB (lo hi : Int) (l : List UInt8) : Bool := l.all fun b => decide (lo ≤ (b.toNat : Int) ∧ (b.toNat : Int) ≤ hi)
end Go.Proofs.YtiibecpllokhiaaDoor.Q
namespace Go.Proofs.YtiibecpllokhiaaDoor.Q
open Go.RowKit Go.Proofs.YtiibecpllokhiaaDoorW.PrintWords Go.Proofs.YtiibecpllokhiaaDoorW.PrintLast Go.Proofs.YtiibecpllokhiaaDoorW.PrintMore
def pre (s p : ByteArray) : Bool := decide (p.size ≤ s.size) && ((s.extract 0 p.size).toList == p.toList)
def suf (s p : ByteArray) : Bool := decide (p.size ≤ s.size) && ((s.extract (s.size - p.size) s.size).toList == p.toList)
end Go.Proofs.YtiibecpllokhiaaDoor.Q
namespace Go.Proofs.YtiibecpllokhiaaDoor.Q
open Go.RowKit Go.Proofs.YtiibecpllokhiaaDoorW.PrintWords Go.Proofs.YtiibecpllokhiaaDoorW.PrintLast Go.Proofs.YtiibecpllokhiaaDoorW.PrintMore
set_option linter.unusedSimpArgs false
def ba (l : List UInt8) : ByteArray := ⟨l.toArray⟩
theorem ba_toL (l : List UInt8) : (ba l).data.toList = l := by simp [ba]
theorem ba_list (l : List UInt8) : (ba l).toList = l := by rw [toL, ba_toL]
theorem ba_size (l : List UInt8) : (ba l).size = l.length := by rw [← sizeL, ba_toL]
theorem ba_of (s : ByteArray) : ba s.data.toList = s := by apply ba_ext; rw [ba_toL]
def ct (p : List UInt8) : List UInt8 → List UInt8 × List UInt8 × Bool
  | [] => ([], [], false)
  | b :: t => if p.isPrefixOf (b :: t) then ([], (b :: t).drop p.length, true) else if (ct p t).2.2 = true then (b :: (ct p t).1, (ct p t).2.1, true) else (b :: t, [], false)
theorem cut_ct (p : List UInt8) (hp : p ≠ []) (t : List UInt8) : Lib.cut t p = ct p t := by
  induction t with
  | nil =>
    cases p with
    | nil => exact absurd rfl hp
    | cons a p => rfl
  | cons b t ih =>
    rw [ct]
    unfold Lib.cut at ih ⊢
    rw [Lib.index]
    by_cases c : p.isPrefixOf (b :: t) = true
    · rw [if_pos c, if_pos c]; simp
    · rw [if_neg c, if_neg c, ← ih]
      have g : -1 ≤ Lib.index t p := by
        clear ih c
        induction t with
        | nil => rw [Lib.index]; split <;> decide
        | cons a t ih => rw [Lib.index]; split; decide; split; decide; omega
      by_cases c2 : Lib.index t p = -1
      · rw [c2]; simp
      · have h0 : 0 ≤ Lib.index t p := by omega
        have e1 : (Lib.index t p == -1) = false := by simpa using c2
        rw [e1]
        simp only [if_pos h0, Bool.false_eq_true, if_false, if_true]
        rw [if_pos (by omega)]
        have e2 : (Lib.index t p + 1).toNat = (Lib.index t p).toNat + 1 := by omega
        rw [e2, List.take_succ_cons, show (Lib.index t p).toNat + 1 + p.length = (Lib.index t p).toNat + p.length + 1 by omega, List.drop_succ_cons]
theorem ct_true {p t : List UInt8} (h : (ct p t).2.2 = true) : t = (ct p t).1 ++ p ++ (ct p t).2.1 := by
  induction t with
  | nil => simp [ct] at h
  | cons b t ih =>
    rw [ct] at h ⊢
    by_cases c : p.isPrefixOf (b :: t) = true
    · rw [if_pos c]
      obtain ⟨r, hr⟩ := List.isPrefixOf_iff_prefix.1 c
      simp only [List.nil_append]
      rw [← hr, List.drop_left]
    · rw [if_neg c] at h ⊢
      by_cases c2 : (ct p t).2.2 = true
      · rw [if_pos c2]
        have := ih c2
        simp only [List.cons_append]
        rw [← this]
      · rw [if_neg c2] at h; simp at h
theorem ct_false {p t : List UInt8} (h : (ct p t).2.2 = false) : (ct p t).1 = t := by
  cases t with
  | nil => rfl
  | cons b t =>
    rw [ct] at h ⊢
    by_cases c : p.isPrefixOf (b :: t) = true
    · rw [if_pos c] at h; simp at h
    · rw [if_neg c] at h ⊢
      by_cases c2 : (ct p t).2.2 = true
      · rw [if_pos c2] at h; simp at h
      · rw [if_neg c2]
theorem cut_ev (s : ByteArray) (p : ByteArray) (hp : p.data.toList ≠ []) (hs : s.size ≤ 4000000000) : strings_Cut.f s p = some (ba (ct p.data.toList s.data.toList).1, ba (ct p.data.toList s.data.toList).2.1, (ct p.data.toList s.data.toList).2.2) := by
  unfold strings_Cut.f
  rw [if_pos (by omega), cut_ct _ hp]; rfl
/-- No end of a line in it. -/
def cl (l : List UInt8) : Bool := l.all fun b => !(b == 10) && !(b == 13)
theorem cl_cons (b : UInt8) (l : List UInt8) : cl (b :: l) = ((!(b == 10) && !(b == 13)) && cl l) := rfl
theorem cl_app (x y : List UInt8) : cl (x ++ y) = (cl x && cl y) := by simp [cl, List.all_append]
theorem cl_ex {l : List UInt8} (h : cl l = false) : ∃ b ∈ l, b = 10 ∨ b = 13 := by
  unfold cl at h
  rw [List.all_eq_false] at h
  obtain ⟨b, hb, h⟩ := h
  refine ⟨b, hb, ?_⟩
  by_cases c : b = 10
  · exact .inl c
  · by_cases d : b = 13
    · exact .inr d
    · simp [c, d] at h
/-- A line: none: there is none; its end may not be there. -/
def ln13 : List UInt8 → Option (List UInt8 × Option (List UInt8))
  | [] => some ([], none)
  | c :: r => if c = 10 then some ([], some r) else none
def lnC (b : UInt8) : Option (List UInt8 × Option (List UInt8)) → Option (List UInt8 × Option (List UInt8))
  | none => none
  | some p => some (b :: p.1, p.2)
def ln : List UInt8 → Option (List UInt8 × Option (List UInt8))
  | [] => some ([], none)
  | b :: r => if b = 10 then none else if b = 13 then ln13 r else lnC b (ln r)
def chop : List UInt8 → List UInt8
  | [] => []
  | b :: r => if r = [] ∧ b = 13 then [] else b :: chop r
theorem chop_c {b : UInt8} {r : List UInt8} (h : ¬ (r = [] ∧ b = 13)) : chop (b :: r) = b :: chop r := by rw [chop, if_neg h]
theorem pre2 (b : UInt8) (t : List UInt8) : ([13, 10] : List UInt8).isPrefixOf (b :: t) = (13 == b && (match t with | [] => false | c :: _ => 10 == c)) := by
  cases t with
  | nil => simp [List.isPrefixOf]
  | cons c t => simp [List.isPrefixOf]
theorem ln_true (t : List UInt8) (h : (ct [13, 10] t).2.2 = true) : ln t = if cl (ct [13, 10] t).1 = true then some ((ct [13, 10] t).1, some (ct [13, 10] t).2.1) else none := by
  induction t with
  | nil => simp [ct] at h
  | cons b t ih =>
    rw [ct] at h ⊢
    by_cases c : ([13, 10] : List UInt8).isPrefixOf (b :: t) = true
    · rw [if_pos c]
      rw [pre2] at c
      cases t with
      | nil => simp at c
      | cons d t =>
        simp only [Bool.and_eq_true, beq_iff_eq] at c
        obtain ⟨rfl, rfl⟩ := c
        simp [ln, ln13, cl]
    · rw [if_neg c] at h ⊢
      rw [pre2] at c
      by_cases c2 : (ct [13, 10] t).2.2 = true
      · rw [if_pos c2]
        have ih := ih c2
        simp only [cl_cons]
        rw [ln]
        by_cases d1 : b = 10
        · subst d1; simp
        · by_cases d2 : b = 13
          · subst d2
            cases t with
            | nil => simp [ct] at c2
            | cons d t =>
              have : d ≠ 10 := by intro e; subst e; simp at c
              simp [this, ln13]
          · rw [if_neg d1, if_neg d2, ih]
            by_cases q : cl (ct [13, 10] t).1 = true
            · simp [q, d1, d2, lnC]
            · simp [q, d1, d2, lnC]
      · rw [if_neg c2] at h; simp at h
theorem ln_false (t : List UInt8) (h : (ct [13, 10] t).2.2 = false) : ln t = if cl (chop t) = true then some (chop t, none) else none := by
  induction t with
  | nil => simp [ln, chop, cl]
  | cons b t ih =>
    rw [ct] at h
    by_cases c : ([13, 10] : List UInt8).isPrefixOf (b :: t) = true
    · rw [if_pos c] at h; simp at h
    · rw [if_neg c] at h
      rw [pre2] at c
      by_cases c2 : (ct [13, 10] t).2.2 = true
      · rw [if_pos c2] at h; simp at h
      · have ih := ih (Bool.eq_false_iff.2 c2)
        rw [ln]
        by_cases d1 : b = 10
        · subst d1
          rw [if_pos rfl, chop_c (by rintro ⟨_, h⟩; exact absurd h (by decide)), cl_cons]; simp
        · rw [if_neg d1]
          by_cases d2 : b = 13
          · subst d2
            rw [if_pos rfl]
            cases t with
            | nil => simp [cl, ln13, chop]
            | cons d t =>
              have : d ≠ 10 := by intro e; subst e; simp at c
              rw [chop_c (by rintro ⟨h, _⟩; cases h), cl_cons]; simp [this, ln13]
          · rw [if_neg d2, ih, chop_c (fun h => d2 h.2), cl_cons]
            by_cases q : cl (chop t) = true
            · simp [q, d1, d2, lnC]
            · simp [q, d1, d2, lnC]
theorem ln_take {t x : List UInt8} {y : Option (List UInt8)} (h : ln t = some (x, y)) : t.take x.length = x ∧ x.length ≤ t.length ∧ ∀ r, y = some r → t.drop (x.length + 2) = r ∧ x.length + 2 + r.length = t.length := by
  induction t generalizing x with
  | nil => simp only [ln, Option.some.injEq, Prod.mk.injEq] at h; obtain ⟨rfl, rfl⟩ := h; simp
  | cons b t ih =>
    rw [ln] at h
    by_cases d1 : b = 10
    · rw [if_pos d1] at h; cases h
    · rw [if_neg d1] at h
      by_cases d2 : b = 13
      · rw [if_pos d2] at h
        cases t with
        | nil => simp only [ln13, Option.some.injEq, Prod.mk.injEq] at h; obtain ⟨rfl, rfl⟩ := h; simp
        | cons c t =>
          rw [ln13] at h
          by_cases d3 : c = 10
          · rw [if_pos d3] at h
            simp only [Option.some.injEq, Prod.mk.injEq] at h; obtain ⟨rfl, rfl⟩ := h
            refine ⟨rfl, by simp, fun r hr => ?_⟩
            obtain rfl := Option.some.inj hr
            simp; omega
          · rw [if_neg d3] at h; cases h
      · rw [if_neg d2] at h
        cases e : ln t with
        | none => rw [e] at h; simp [lnC] at h
        | some p =>
          rw [e] at h
          simp only [lnC, Option.some.injEq, Prod.mk.injEq] at h
          obtain ⟨rfl, rfl⟩ := h
          obtain ⟨h1, h2, h3⟩ := ih e
          refine ⟨by rw [List.length_cons, List.take_succ_cons, h1], by simp only [List.length_cons]; omega, fun r hr => ?_⟩
          obtain ⟨h4, h5⟩ := h3 r hr
          refine ⟨?_, by simp only [List.length_cons]; omega⟩
          rw [List.length_cons, show p.1.length + 1 + 2 = p.1.length + 2 + 1 by omega, List.drop_succ_cons, h4]
theorem ext_ba (s : ByteArray) (a b : Nat) : s.extract a b = ba ((s.data.toList.drop a).take (b - a)) := by
  apply ba_ext; rw [ba_toL, Lib.extract_data]
/-- A line of the reference, and the place behind it. -/
def lnR (s : ByteArray) (at_ : Nat) (n : Nat) : Option (List UInt8 × Option (List UInt8)) → ByteArray × Int
  | none => (⟨#[]⟩, -1)
  | some (x, none) => (ba ((s.data.toList.drop at_).take (n + x.length)), 0)
  | some (x, some r) => (ba ((s.data.toList.drop at_).take (n + x.length)), ((s.size - r.length : Nat) : Int))
theorem line_l (s : ByteArray) (at_ : Nat) (hs : s.size ≤ 9223372036854775800) (d : Nat) : ∀ i : Nat, at_ ≤ i → i ≤ s.size → s.size - i = d → Ev (fun k => spec_l09Line.l0 k s (at_ : Int) (i : Int)) (lnR s at_ (i - at_) (ln (s.data.toList.drop i))) := by
  induction d with
  | zero =>
    intro i h0 hi hd
    obtain rfl : i = s.size := by omega
    refine Ev.succ ?_
    simp only [spec_l09Line.l0]
    rw [show s.data.toList.drop s.size = [] from List.drop_eq_nil_of_le (by rw [sizeL]; omega)]
    simp only [ln, lnR, Int.toNat_natCast, ext_ba, List.length_nil, Nat.add_zero]
    exact Ev.no (by omega) (Ev.yes (by omega) (Ev.yes (by omega) (Ev.now _)))
  | succ d ih =>
    intro i h0 hi hd
    have hlt : i < s.size := by omega
    have hL := sizeL s
    refine Ev.succ ?_
    simp only [spec_l09Line.l0]
    rw [wnat i s.size hlt (by omega), drop_get s.data.toList i (by rw [sizeL]; exact hlt), bt_get s i hlt]
    have hz := ih (i + 1) (by omega) (by omega) (by omega)
    have hd2 : s.data.toList.drop (i + 1) = [] ∨ ∃ h : i + 1 < s.size, s.data.toList.drop (i + 1) = s.data.toList[i + 1]'(by rw [sizeL]; exact h) :: s.data.toList.drop (i + 2) := by
      by_cases q : i + 1 < s.size
      · exact .inr ⟨q, drop_get s.data.toList (i + 1) (by rw [sizeL]; exact q)⟩
      · exact .inl (List.drop_eq_nil_of_le (by rw [sizeL]; omega))
    generalize s.data.toList[i]'(by rw [sizeL]; exact hlt) = b at *
    refine Ev.yes (by omega) (Ev.yes (by omega) ?_)
    have bn : ∀ (v : UInt8) (n : Nat), v.toNat = n → (((b.toNat : Int) = (n : Int)) ↔ b = v) := fun v n hv => ⟨fun h => UInt8.toNat_inj.1 (by omega), fun h => by rw [h, hv]⟩
    rw [ln]
    by_cases c : b = 10
    · rw [if_pos c]
      exact Ev.yes ((bn 10 10 rfl).2 c) (Ev.now _)
    · rw [if_neg c]
      refine Ev.no (fun h => c ((bn 10 10 rfl).1 h)) ?_
      by_cases c2 : b = 13
      · rw [if_pos c2]
        refine Ev.yes ((bn 13 13 rfl).2 c2) ?_
        rcases hd2 with e | ⟨hq, e⟩
        · have : i + 1 = s.size := by
            have := congrArg List.length e
            rw [List.length_drop, List.length_nil, sizeL] at this
            omega
          rw [e]
          simp only [ln13, lnR, Int.toNat_natCast, ext_ba, List.length_nil, Nat.add_zero]
          exact Ev.yes (by omega) (Ev.yes (by omega) (Ev.yes (by omega) (Ev.yes (by omega) (Ev.now _))))
        · rw [e, bt_get s (i + 1) hq, ln13]
          generalize s.data.toList[i + 1]'(by rw [sizeL]; exact hq) = b2 at *
          have bn2 : ((b2.toNat : Int) = 10) ↔ b2 = 10 := ⟨fun h => UInt8.toNat_inj.1 (by show b2.toNat = 10; omega), fun h => by rw [h]; rfl⟩
          refine Ev.no (by omega) (Ev.yes (by omega) (Ev.yes (by omega) ?_))
          by_cases c3 : b2 = 10
          · rw [if_pos c3]
            refine Ev.yes (bn2.2 c3) ?_
            simp only [lnR, Int.toNat_natCast, ext_ba, List.length_nil, Nat.add_zero]
            have e3 : wrap64 ((i : Int) + 2) = ((s.size - (s.data.toList.drop (i + 2)).length : Nat) : Int) := by
              rw [w64 (by omega) (by omega), List.length_drop, sizeL]; omega
            rw [e3]
            exact Ev.yes (by omega) (Ev.yes (by omega) (Ev.yes (by omega) (Ev.now _)))
          · rw [if_neg c3]
            exact Ev.no (fun h => c3 (bn2.1 h)) (Ev.now _)
      · rw [if_neg c2]
        refine Ev.no (fun h => c2 ((bn 13 13 rfl).1 h)) ?_
        refine Ev.congr (fun _ => rfl) ?_
        have : lnR s at_ (i - at_) (lnC b (ln (s.data.toList.drop (i + 1)))) = lnR s at_ (i + 1 - at_) (ln (s.data.toList.drop (i + 1))) := by
          cases ln (s.data.toList.drop (i + 1)) with
          | none => rfl
          | some p =>
            obtain ⟨x, y⟩ := p
            cases y with
            | none => simp only [lnC, lnR, List.length_cons]; rw [show i - at_ + (x.length + 1) = i + 1 - at_ + x.length by omega]
            | some y => simp only [lnC, lnR, List.length_cons]; rw [show i - at_ + (x.length + 1) = i + 1 - at_ + x.length by omega]
        rw [this]
        exact hz
def lnE (n : Nat) : Option (List UInt8 × Option (List UInt8)) → ByteArray × Int
  | none => (⟨#[]⟩, -1)
  | some (x, none) => (ba x, 0)
  | some (x, some r) => (ba x, ((n - r.length : Nat) : Int))
theorem line_ev (s : ByteArray) (at_ : Nat) (hs : s.size ≤ 9223372036854775800) (ha : at_ ≤ s.size) : Ev (fun k => spec_l09Line.f k s (at_ : Int)) (lnE s.size (ln (s.data.toList.drop at_))) := by
  have h := line_l s at_ hs (s.size - at_) at_ (Nat.le_refl _) ha rfl
  simp only [spec_l09Line.f]
  have e : lnR s at_ (at_ - at_) (ln (s.data.toList.drop at_)) = lnE s.size (ln (s.data.toList.drop at_)) := by
    cases e : ln (s.data.toList.drop at_) with
    | none => rfl
    | some p =>
      obtain ⟨x, y⟩ := p
      have := (ln_take e).1
      cases y <;> simp only [lnR, lnE, Nat.sub_self, Nat.zero_add, this]
  rw [e] at h
  exact h
end Go.Proofs.YtiibecpllokhiaaDoor.Q
namespace Go.Proofs.YtiibecpllokhiaaDoor.Q
open Go.RowKit Go.Proofs.YtiibecpllokhiaaDoorW.PrintWords Go.Proofs.YtiibecpllokhiaaDoorW.PrintLast Go.Proofs.YtiibecpllokhiaaDoorW.PrintMore
theorem in_spec (a b c : Int) : spec_l01In.f a b c = some (decide (b ≤ a ∧ a ≤ c)) := by
  unfold spec_l01In.f
  by_cases h : a ≥ b
  · rw [if_pos h]; simp [show b ≤ a from h]
  · rw [if_neg h]; simp [show ¬ b ≤ a from h]
theorem in_impl (a b c : Int) : impl_within.f a b c = some (decide (b ≤ a ∧ a ≤ c)) := by
  unfold impl_within.f
  by_cases h : a ≥ b
  · rw [if_pos h]; simp [show b ≤ a from h]
  · rw [if_neg h]; simp [show ¬ b ≤ a from h]
end Go.Proofs.YtiibecpllokhiaaDoor.Q
namespace Go.Proofs.YtiibecpllokhiaaDoor.Q
open Go.RowKit Go.Proofs.YtiibecpllokhiaaDoorW.PrintWords Go.Proofs.YtiibecpllokhiaaDoorW.PrintLast Go.Proofs.YtiibecpllokhiaaDoorW.PrintMore
theorem bytesIn_l (s : ByteArray) (lo hi : Int) (hs : s.size ≤ 9223372036854775807) (d : Nat) : ∀ i : Nat, i ≤ s.size → s.size - i = d → Ev (fun k => impl_bytesIn.l0 k s lo hi (s.size : Int) (i : Int)) (inB lo hi (s.data.toList.drop i)) := by
  induction d with
  | zero =>
    intro i hi_ hd
    refine Ev.succ ?_
    simp only [impl_bytesIn.l0]
    rw [List.drop_eq_nil_of_le (by rw [sizeL]; omega)]
    exact Ev.no (by omega) (Ev.now _)
  | succ d ih =>
    intro i hi_ hd
    have hlt : i < s.size := by omega
    have hb := bt_rng s i
    refine Ev.succ ?_
    simp only [impl_bytesIn.l0]
    rw [w64 (n := bt s i) (by omega) (by omega), wnat i _ hlt hs, drop_get _ i (by rw [sizeL]; exact hlt)]
    simp only [in_impl, Option.bind_some]
    refine Ev.yes (by omega) (Ev.yes (by omega) (Ev.yes (by omega) ?_))
    rw [bt_get s i hlt]
    by_cases c : lo ≤ ((s.data.toList[i]'(by rw [sizeL]; exact hlt)).toNat : Int) ∧ ((s.data.toList[i]'(by rw [sizeL]; exact hlt)).toNat : Int) ≤ hi
    · refine Ev.yes (decide_eq_true c) ?_
      rw [show inB lo hi (s.data.toList[i]'(by rw [sizeL]; exact hlt) :: s.data.toList.drop (i + 1)) = inB lo hi (s.data.toList.drop (i + 1)) from by simp only [inB, List.all_cons]; rw [decide_eq_true c, Bool.true_and]]
      exact ih (i + 1) (by omega) (by omega)
    · refine Ev.no (by simpa using c) ?_
      rw [show inB lo hi (s.data.toList[i]'(by rw [sizeL]; exact hlt) :: s.data.toList.drop (i + 1)) = false from by simp only [inB, List.all_cons]; rw [decide_eq_false c, Bool.false_and]]
      exact Ev.now _
theorem bytesIn_ev (s : ByteArray) (lo hi : Int) (hs : s.size ≤ 9223372036854775807) : Ev (fun k => impl_bytesIn.f k s lo hi) (inB lo hi s.data.toList) := bytesIn_l s lo hi hs s.size 0 (by omega) (by omega)
end Go.Proofs.YtiibecpllokhiaaDoor.Q
namespace Go.Proofs.YtiibecpllokhiaaDoor.Q
open Go.RowKit Go.Proofs.YtiibecpllokhiaaDoorW.PrintWords Go.Proofs.YtiibecpllokhiaaDoorW.PrintLast Go.Proofs.YtiibecpllokhiaaDoorW.PrintMore
def nmB (l : List UInt8) : Bool := l.all fun b => decide ((b.toNat : Int) = 45 ∨ 97 ≤ (b.toNat : Int) ∧ (b.toNat : Int) ≤ 122)
theorem nmB_yes {b : UInt8} {l : List UInt8} (h : (b.toNat : Int) = 45 ∨ 97 ≤ (b.toNat : Int) ∧ (b.toNat : Int) ≤ 122) : nmB (b :: l) = nmB l := by simp only [nmB, List.all_cons]; rw [decide_eq_true h, Bool.true_and]
theorem nmB_no {b : UInt8} {l : List UInt8} (h : ¬ ((b.toNat : Int) = 45 ∨ 97 ≤ (b.toNat : Int) ∧ (b.toNat : Int) ≤ 122)) : nmB (b :: l) = false := by simp only [nmB, List.all_cons]; rw [decide_eq_false h, Bool.false_and]
theorem inB_yes {lo hi : Int} {b : UInt8} {l : List UInt8} (h : lo ≤ (b.toNat : Int) ∧ (b.toNat : Int) ≤ hi) : inB lo hi (b :: l) = inB lo hi l := by simp only [inB, List.all_cons]; rw [decide_eq_true h, Bool.true_and]
theorem inB_no {lo hi : Int} {b : UInt8} {l : List UInt8} (h : ¬ (lo ≤ (b.toNat : Int) ∧ (b.toNat : Int) ≤ hi)) : inB lo hi (b :: l) = false := by simp only [inB, List.all_cons]; rw [decide_eq_false h, Bool.false_and]
def nameB (s : ByteArray) : Bool := nmB s.data.toList && decide (1 ≤ (s.size : Int) ∧ (s.size : Int) ≤ 20)
theorem name_impl_l (s : ByteArray) (hs : s.size ≤ 9223372036854775806) (d : Nat) : ∀ i : Nat, i ≤ s.size → s.size - i = d → Ev (fun k => impl_isFieldName.l0 k s (s.size : Int) (i : Int)) (nmB (s.data.toList.drop i) && decide (1 ≤ (s.size : Int) ∧ (s.size : Int) ≤ 20)) := by
  induction d with
  | zero =>
    intro i hi hd
    refine Ev.succ ?_
    simp only [impl_isFieldName.l0]
    rw [List.drop_eq_nil_of_le (by rw [sizeL]; omega), show nmB [] = true from rfl, Bool.true_and]
    exact Ev.no (by omega) (Ev.via (in_impl _ _ _) (Ev.now _))
  | succ d ih =>
    intro i hi hd
    have hlt : i < s.size := by omega
    have hb := bt_rng s i
    refine Ev.succ ?_
    simp only [impl_isFieldName.l0]
    rw [w64 (n := bt s i) (by omega) (by omega), wnat i _ hlt (by omega), drop_get _ i (by rw [sizeL]; exact hlt), bt_get s i hlt]
    refine Ev.yes (by omega) (Ev.yes (by omega) (Ev.yes (by omega) ?_))
    have h := ih (i + 1) (by omega) (by omega)
    generalize s.data.toList[i]'(by rw [sizeL]; exact hlt) = b at *
    by_cases c : (b.toNat : Int) = 45
    · rw [nmB_yes (.inl c)]; exact Ev.yes c h
    · refine Ev.no c (Ev.via (in_impl _ _ _) ?_)
      by_cases c2 : 97 ≤ (b.toNat : Int) ∧ (b.toNat : Int) ≤ 122
      · rw [nmB_yes (.inr c2)]; exact Ev.yes (decide_eq_true c2) h
      · rw [nmB_no (by omega), Bool.false_and]; exact Ev.no (by rw [decide_eq_false c2]; simp) (Ev.now _)
theorem name_impl (s : ByteArray) (hs : s.size ≤ 9223372036854775806) : Ev (fun k => impl_isFieldName.f k s) (nameB s) := name_impl_l s hs s.size 0 (by omega) (by omega)
theorem name_spec_l (s : ByteArray) (hs : s.size ≤ 9223372036854775806) (d : Nat) : ∀ i : Nat, i ≤ s.size → s.size - i = d → Ev (fun k => spec_l09Name.l0 k s (i : Int)) (nmB (s.data.toList.drop i) && decide (1 ≤ (s.size : Int) ∧ (s.size : Int) ≤ 20)) := by
  induction d with
  | zero =>
    intro i hi hd
    refine Ev.succ ?_
    simp only [spec_l09Name.l0]
    rw [List.drop_eq_nil_of_le (by rw [sizeL]; omega), show nmB [] = true from rfl, Bool.true_and]
    exact Ev.no (by omega) (Ev.via (in_spec _ _ _) (Ev.now _))
  | succ d ih =>
    intro i hi hd
    have hlt : i < s.size := by omega
    refine Ev.succ ?_
    simp only [spec_l09Name.l0]
    rw [wnat i _ hlt (by omega), drop_get _ i (by rw [sizeL]; exact hlt), bt_get s i hlt]
    refine Ev.yes (by omega) (Ev.yes (by omega) ?_)
    have h := ih (i + 1) (by omega) (by omega)
    generalize s.data.toList[i]'(by rw [sizeL]; exact hlt) = b at *
    by_cases c : (b.toNat : Int) < 97
    · refine Ev.yes c ?_
      by_cases c1 : (b.toNat : Int) = 45
      · rw [nmB_yes (.inl c1)]; exact Ev.yes c1 h
      · rw [nmB_no (by omega), Bool.false_and]; exact Ev.no c1 (Ev.now _)
    · refine Ev.no c ?_
      by_cases c2 : (b.toNat : Int) > 122
      · rw [nmB_no (by omega), Bool.false_and]; exact Ev.yes c2 (Ev.no (by omega) (Ev.now _))
      · rw [nmB_yes (by omega)]; exact Ev.no c2 h
theorem name_spec (s : ByteArray) (hs : s.size ≤ 9223372036854775806) : Ev (fun k => spec_l09Name.f k s) (nameB s) := name_spec_l s hs s.size 0 (by omega) (by omega)
theorem plain_spec_l (s : ByteArray) (m : Int) (hs : s.size ≤ 9223372036854775806) (d : Nat) : ∀ i : Nat, i ≤ s.size → s.size - i = d → Ev (fun k => spec_l09Plain.l0 k s m (i : Int)) (inB 32 126 (s.data.toList.drop i) && decide ((s.size : Int) ≤ m)) := by
  induction d with
  | zero =>
    intro i hi hd
    refine Ev.succ ?_
    simp only [spec_l09Plain.l0]
    rw [List.drop_eq_nil_of_le (by rw [sizeL]; omega), show inB 32 126 [] = true from rfl, Bool.true_and]
    exact Ev.no (by omega) (Ev.now _)
  | succ d ih =>
    intro i hi hd
    have hlt : i < s.size := by omega
    refine Ev.succ ?_
    simp only [spec_l09Plain.l0]
    rw [wnat i _ hlt (by omega), drop_get _ i (by rw [sizeL]; exact hlt), bt_get s i hlt]
    refine Ev.yes (by omega) (Ev.yes (by omega) ?_)
    have h := ih (i + 1) (by omega) (by omega)
    generalize s.data.toList[i]'(by rw [sizeL]; exact hlt) = b at *
    by_cases c : (b.toNat : Int) < 32
    · rw [inB_no (by omega), Bool.false_and]; exact Ev.yes c (Ev.now _)
    · refine Ev.no c ?_
      by_cases c2 : (b.toNat : Int) > 126
      · rw [inB_no (by omega), Bool.false_and]; exact Ev.yes c2 (Ev.now _)
      · rw [inB_yes (by omega)]; exact Ev.no c2 h
theorem plain_spec (s : ByteArray) (m : Int) (hs : s.size ≤ 9223372036854775806) : Ev (fun k => spec_l09Plain.f k s m) (inB 32 126 s.data.toList && decide ((s.size : Int) ≤ m)) := plain_spec_l s m hs s.size 0 (by omega) (by omega)
theorem dw_head (m : List UInt8) (hm : 0 < m.length) : m.dropWhile (· == (32 : UInt8)) = m ↔ m[0] ≠ 32 := by
  cases m with
  | nil => simp at hm
  | cons a t =>
    by_cases c : a = 32
    · subst c
      refine ⟨fun h => ?_, fun h => absurd rfl h⟩
      have h2 := (List.dropWhile_sublist (l := t) (· == (32 : UInt8))).length_le
      have h3 : ((32 : UInt8) :: t).dropWhile (· == (32 : UInt8)) = t.dropWhile (· == (32 : UInt8)) := by simp
      rw [h3] at h
      rw [h, List.length_cons] at h2
      omega
    · refine ⟨fun _ => c, fun _ => ?_⟩
      simp [c]
theorem trim_same (l : List UInt8) (hn : 0 < l.length) : Lib.trimB l 32 = l ↔ (l[0] ≠ 32 ∧ l[l.length - 1] ≠ 32) := by
  have hr : l.reverse.dropWhile (· == (32 : UInt8)) = l.reverse ↔ l[l.length - 1] ≠ 32 := by
    rw [dw_head l.reverse (by simpa using hn)]
    simp
  unfold Lib.trimB Lib.trimLeftB Lib.trimRightB
  constructor
  · intro h
    have e1 := (List.dropWhile_sublist (l := (l.reverse.dropWhile (· == (32 : UInt8))).reverse) (· == (32 : UInt8))).length_le
    rw [h, List.length_reverse] at e1
    have e2 : l.reverse.dropWhile (· == (32 : UInt8)) = l.reverse := (List.dropWhile_sublist (l := l.reverse) (· == (32 : UInt8))).eq_of_length (by
      have e3 := (List.dropWhile_sublist (l := l.reverse) (· == (32 : UInt8))).length_le
      rw [List.length_reverse] at e3 ⊢
      omega)
    rw [e2, List.reverse_reverse] at h
    exact ⟨(dw_head l hn).1 h, hr.1 e2⟩
  · rintro ⟨h1, h2⟩
    rw [hr.2 h2, List.reverse_reverse]
    exact (dw_head l hn).2 h1
def edgeB (v : ByteArray) : Bool := decide (Lib.trimB v.data.toList 32 = v.data.toList)
theorem edge_nil (v : ByteArray) (h : (v.size : Int) = 0) : edgeB v = true := by
  have : v.data.toList = [] := List.eq_nil_of_length_eq_zero (by rw [sizeL]; omega)
  unfold edgeB
  rw [this]
  rfl
theorem b32 (b : UInt8) : (b.toNat : Int) = 32 ↔ b = 32 := by
  constructor
  · intro h
    exact UInt8.toNat_inj.1 (by show b.toNat = 32; omega)
  · rintro rfl; rfl
theorem edge_first (v : ByteArray) (h : 0 < v.size) (c : bt v 0 = 32) : edgeB v = false := by
  have e := bt_get v 0 h
  rw [show ((0 : Nat) : Int) = 0 from rfl, c] at e
  refine decide_eq_false fun hh => ?_
  exact ((trim_same v.data.toList (by rw [sizeL]; exact h)).1 hh).1 ((b32 _).1 e.symm)
theorem edge_last (v : ByteArray) (hs : v.size ≤ 9223372036854775806) (h : 0 < v.size) (c : ¬ bt v 0 = 32) : edgeB v = (bt v (wrap64 ((v.size : Int) - 1)) != 32) := by
  · have e := bt_get v 0 h
    have e2 := bt_get v (v.size - 1) (by omega)
    have hw : wrap64 ((v.size : Int) - 1) = ((v.size - 1 : Nat) : Int) := by rw [w64 (by omega) (by omega)]; omega
    rw [hw, e2]
    rw [show ((0 : Nat) : Int) = 0 from rfl] at e
    rw [e, b32] at c
    have hl : v.data.toList.length - 1 = v.size - 1 := by rw [sizeL]
    unfold edgeB
    have ht := trim_same v.data.toList (by rw [sizeL]; exact h)
    simp only [hl] at ht
    by_cases q : v.data.toList[v.size - 1]'(by rw [sizeL]; omega) = 32
    · rw [decide_eq_false (fun hh => (ht.1 hh).2 q), q]; rfl
    · rw [decide_eq_true (ht.2 ⟨c, q⟩)]
      exact (bne_iff_ne.2 (fun hh => q ((b32 _).1 hh))).symm
def fieldB (n v : ByteArray) : Bool := nameB n && (decide ((v.size : Int) ≤ 60) && (inB 32 126 v.data.toList && edgeB v))
theorem fieldOk_impl (n v : ByteArray) (hn : n.size ≤ 9223372036854775806) (hv : v.size ≤ 9223372036854775806) : Ev (fun k => impl_FieldOk.f k n v) (fieldB n v) := by
  simp only [impl_FieldOk.f]
  unfold fieldB
  refine Ev.bind (name_impl n hn) ?_
  by_cases c : nameB n = true
  · rw [c, Bool.true_and]
    refine Ev.yes rfl ?_
    by_cases c2 : (v.size : Int) ≤ 60
    · rw [decide_eq_true c2, Bool.true_and]
      refine Ev.yes c2 (Ev.bind (bytesIn_ev v 32 126 (by omega)) ?_)
      by_cases c3 : inB 32 126 v.data.toList = true
      · rw [c3, Bool.true_and]
        refine Ev.yes rfl (Ev.via (a := ⟨(Lib.trimB v.data.toList 32).toArray⟩) (by unfold strings_Trim.f; exact if_pos ⟨rfl, by omega⟩) ?_)
        have : ((⟨(Lib.trimB v.data.toList 32).toArray⟩ : ByteArray).toList == v.toList) = edgeB v := by
          rw [toL, toL]
          unfold edgeB
          show ((Lib.trimB v.data.toList 32) == v.data.toList) = _
          by_cases q : Lib.trimB v.data.toList 32 = v.data.toList
          · rw [decide_eq_true q]; exact beq_iff_eq.2 q
          · rw [decide_eq_false q]; exact beq_eq_false_iff_ne.2 q
        rw [this]
        exact Ev.now _
      · rw [Bool.eq_false_iff.2 c3, Bool.false_and]; exact Ev.no (by simp) (Ev.now _)
    · rw [decide_eq_false c2, Bool.false_and]; exact Ev.no c2 (Ev.now _)
  · rw [Bool.eq_false_iff.2 c, Bool.false_and]; exact Ev.no (by simp) (Ev.now _)
theorem fieldOk_spec (n v : ByteArray) (hn : n.size ≤ 9223372036854775806) (hv : v.size ≤ 9223372036854775806) : Ev (fun k => spec_FieldOk.f k n v) (fieldB n v) := by
  simp only [spec_FieldOk.f]
  unfold fieldB
  refine Ev.bind (name_spec n hn) ?_
  by_cases c : nameB n = true
  · rw [c, Bool.true_and]
    refine Ev.yes rfl (Ev.bind (plain_spec v 60 hv) ?_)
    by_cases c2 : (v.size : Int) ≤ 60
    · rw [decide_eq_true c2, Bool.true_and, Bool.and_true]
      by_cases c3 : inB 32 126 v.data.toList = true
      · rw [c3, Bool.true_and]
        refine Ev.yes rfl ?_
        by_cases q : (v.size : Int) = 0
        · rw [edge_nil v q]; exact Ev.yes q (Ev.now _)
        · refine Ev.no q (Ev.yes (by omega) ?_)
          by_cases q2 : bt v 0 = 32
          · rw [edge_first v (by omega) q2]; exact Ev.yes q2 (Ev.now _)
          · rw [edge_last v hv (by omega) q2]
            have hw : wrap64 ((v.size : Int) - 1) = (v.size : Int) - 1 := w64 (by omega) (by omega)
            rw [hw]
            exact Ev.no q2 (Ev.yes (by omega) (Ev.yes (by omega) (Ev.now _)))
      · rw [Bool.eq_false_iff.2 c3, Bool.false_and]; exact Ev.no (by simp) (Ev.now _)
    · rw [decide_eq_false c2, Bool.false_and, Bool.and_false]; exact Ev.no (by simp) (Ev.now _)
  · rw [Bool.eq_false_iff.2 c, Bool.false_and]; exact Ev.no (by simp) (Ev.now _)
end Go.Proofs.YtiibecpllokhiaaDoor.Q
namespace Go.Proofs.YtiibecpllokhiaaDoor.Q
open Go.RowKit Go.Proofs.YtiibecpllokhiaaDoorW.PrintWords Go.Proofs.YtiibecpllokhiaaDoorW.PrintLast Go.Proofs.YtiibecpllokhiaaDoorW.PrintMore
theorem rdF_get (l : List S40) (i : Nat) (h : i < l.length) : rd_T40 l i = l[i] := by simp [rd_T40, h]
theorem eq_fields_l (l : List S40) (hl : l.length ≤ 9223372036854775807) (d : Nat) : ∀ i : Nat, i ≤ l.length → l.length - i = d → Ev (fun k => laws_eqFieldS.l0 k l l (i : Int)) true := by
  induction d with
  | zero => intro i hi hd; refine Ev.succ ?_; simp only [laws_eqFieldS.l0]; exact Ev.no (by omega) (Ev.now _)
  | succ d ih =>
    intro i hi hd
    have hlt : i < l.length := by omega
    refine Ev.succ ?_
    simp only [laws_eqFieldS.l0, laws_eqField.f, if_true, Option.bind_some]
    rw [wnat i _ hlt hl]
    exact Ev.yes (by omega) (Ev.yes (by omega) (Ev.yes (by omega) (ih (i + 1) (by omega) (by omega))))
theorem eq_head (a : ByteArray) (l : List S40) (hl : l.length ≤ 9223372036854775807) : Ev (fun k => laws_eqHead.f k a l a l) true := by
  simp only [laws_eqHead.f, laws_eqFieldS.f, if_true]
  exact Ev.bind (eq_fields_l l hl l.length 0 (by omega) (by omega)) (Ev.yes rfl (Ev.now _))
end Go.Proofs.YtiibecpllokhiaaDoor.Q
namespace Go.Proofs.YtiibecpllokhiaaDoor.Q
open Go.RowKit Go.Proofs.YtiibecpllokhiaaDoorW.PrintWords Go.Proofs.YtiibecpllokhiaaDoorW.PrintLast Go.Proofs.YtiibecpllokhiaaDoorW.PrintMore
def crlf : ByteArray := ⟨#[13, 10]⟩
def lineF (f : S40) : ByteArray := f.f0 ++ (⟨#[58, 32]⟩ : ByteArray) ++ f.f1 ++ crlf
def fieldsT : List S40 → ByteArray
  | [] => ⟨#[]⟩
  | f :: r => lineF f ++ fieldsT r
def hsz : List S40 → Nat
  | [] => 0
  | f :: r => f.f0.size + f.f1.size + 4 + hsz r
def headT (a : ByteArray) (l : List S40) : ByteArray := a ++ crlf ++ fieldsT l ++ crlf
theorem crlf_size : crlf.size = 2 := rfl
theorem sp_size : (⟨#[58, 32]⟩ : ByteArray).size = 2 := rfl
theorem app_nil (s : ByteArray) : s ++ (⟨#[]⟩ : ByteArray) = s := ByteArray.append_empty
theorem lineF_size (f : S40) : (lineF f).size = f.f0.size + f.f1.size + 4 := by
  simp only [lineF, ByteArray.size_append, crlf_size, sp_size]; omega
theorem hsz_mem {l : List S40} {f : S40} (h : f ∈ l) : f.f0.size + f.f1.size ≤ hsz l := by
  induction l with
  | nil => cases h
  | cons g r ih =>
    rw [hsz]
    rcases List.mem_cons.1 h with rfl | h
    · omega
    · have := ih h; omega
theorem text_impl_l (l : List S40) (hl : l.length ≤ 9223372036854775806) (d : Nat) : ∀ (i : Nat) (o : ByteArray), i ≤ l.length → l.length - i = d → o.size + hsz (l.drop i) + 2 ≤ 9223372036854775807 → Ev (fun k => impl_headText.l0 k o l (l.length : Int) (i : Int)) (o ++ fieldsT (l.drop i) ++ crlf) := by
  induction d with
  | zero =>
    intro i o hi hd hs
    refine Ev.succ ?_
    simp only [impl_headText.l0]
    rw [List.drop_eq_nil_of_le (by omega)] at hs ⊢
    rw [fieldsT, app_nil]
    rw [hsz] at hs
    exact Ev.no (by omega) (Ev.yes (by omega) (Ev.now _))
  | succ d ih =>
    intro i o hi hd hs
    have hlt : i < l.length := by omega
    refine Ev.succ ?_
    simp only [impl_headText.l0]
    rw [drop_get l i hlt, hsz] at hs
    rw [wnat i _ hlt (by omega), rdF_get l i hlt, drop_get l i hlt, fieldsT]
    have h := ih (i + 1) (o ++ lineF l[i]) (by omega) (by omega) (by rw [ByteArray.size_append, lineF_size]; omega)
    rw [ByteArray.append_assoc (a := o)] at h
    refine Ev.yes (by omega) (Ev.yes (by omega) (Ev.yes (by omega) (Ev.yes (by omega) (Ev.yes (by rw [ByteArray.size_append, sp_size]; omega) (Ev.yes (by rw [ByteArray.size_append, ByteArray.size_append, sp_size]; omega) (Ev.yes (by show o.size + (lineF l[i]).size ≤ _; rw [lineF_size]; omega) ?_))))))
    exact h
theorem text_impl (a : ByteArray) (l : List S40) (hl : l.length ≤ 9223372036854775806) (hs : a.size + hsz l + 4 ≤ 9223372036854775807) : Ev (fun k => impl_headText.f k a l) (headT a l) := by
  simp only [impl_headText.f]
  exact Ev.yes (by omega) (text_impl_l l hl l.length 0 (a ++ crlf) (by omega) (by omega) (by rw [List.drop_zero, ByteArray.size_append, crlf_size]; omega))
theorem text_spec_l (a : ByteArray) (l : List S40) (hl : l.length ≤ 9223372036854775806) (d : Nat) : ∀ (i : Nat) (o : ByteArray), i ≤ l.length → l.length - i = d → o.size + hsz (l.drop i) + 2 ≤ 9223372036854775807 → Ev (fun k => spec_l09Text.l0 k o (i : Int) a l) (o ++ fieldsT (l.drop i) ++ crlf) := by
  induction d with
  | zero =>
    intro i o hi hd hs
    refine Ev.succ ?_
    simp only [spec_l09Text.l0]
    rw [List.drop_eq_nil_of_le (by omega)] at hs ⊢
    rw [fieldsT, app_nil]
    rw [hsz] at hs
    exact Ev.no (by omega) (Ev.yes (by omega) (Ev.now _))
  | succ d ih =>
    intro i o hi hd hs
    have hlt : i < l.length := by omega
    refine Ev.succ ?_
    simp only [spec_l09Text.l0]
    rw [drop_get l i hlt, hsz] at hs
    rw [wnat i _ hlt (by omega), rdF_get l i hlt, drop_get l i hlt, fieldsT]
    have h := ih (i + 1) (o ++ lineF l[i]) (by omega) (by omega) (by rw [ByteArray.size_append, lineF_size]; omega)
    rw [ByteArray.append_assoc (a := o)] at h
    have e : o ++ lineF l[i] = (((o ++ l[i].f0) ++ (⟨#[58, 32]⟩ : ByteArray)) ++ l[i].f1) ++ (⟨#[13, 10]⟩ : ByteArray) := by
      simp only [lineF, crlf, ByteArray.append_assoc]
    rw [e] at h
    exact Ev.yes (by omega) (Ev.yes (by omega) (Ev.yes (by omega) (Ev.yes (by rw [ByteArray.size_append]; omega) (Ev.yes (by rw [ByteArray.size_append, ByteArray.size_append, sp_size]; omega) (Ev.yes (by rw [ByteArray.size_append, ByteArray.size_append, ByteArray.size_append, sp_size]; omega) h)))))
theorem text_spec (a : ByteArray) (l : List S40) (hl : l.length ≤ 9223372036854775806) (hs : a.size + hsz l + 4 ≤ 9223372036854775807) : Ev (fun k => spec_l09Text.f k a l) (headT a l) := by
  simp only [spec_l09Text.f]
  exact Ev.yes (by omega) (text_spec_l a l hl l.length 0 (a ++ crlf) (by omega) (by omega) (by rw [List.drop_zero, ByteArray.size_append, crlf_size]; omega))
def fieldsB (l : List S40) : Bool := l.all fun f => fieldB f.f0 f.f1
def lineB (a : ByteArray) : Bool := decide (1 ≤ (a.size : Int) ∧ (a.size : Int) ≤ 80) && inB 32 126 a.data.toList
def headB (a : ByteArray) (l : List S40) : Bool := fieldsB l && (lineB a && (decide ((l.length : Int) ≤ 8) && decide (((headT a l).size : Int) ≤ 300)))
theorem fieldsB_cons (f : S40) (l : List S40) : fieldsB (f :: l) = (fieldB f.f0 f.f1 && fieldsB l) := rfl
theorem isLine_ev (a : ByteArray) (ha : a.size ≤ 9223372036854775806) : Ev (fun k => impl_isLine.f k a) (lineB a) := by
  simp only [impl_isLine.f]
  unfold lineB
  refine Ev.via (in_impl _ _ _) ?_
  by_cases c : 1 ≤ (a.size : Int) ∧ (a.size : Int) ≤ 80
  · rw [decide_eq_true c, Bool.true_and]; exact Ev.yes rfl (Ev.bind (bytesIn_ev a 32 126 (by omega)) (Ev.now _))
  · rw [decide_eq_false c, Bool.false_and]; exact Ev.no (by simp) (Ev.now _)
theorem headOk_impl_l (a : ByteArray) (l : List S40) (hl : l.length ≤ 9223372036854775806) (hs : a.size + hsz l + 4 ≤ 9223372036854775806) (d : Nat) : ∀ i : Nat, i ≤ l.length → l.length - i = d → Ev (fun k => impl_HeadOk.l0 k l (l.length : Int) (i : Int) a l) (fieldsB (l.drop i) && (lineB a && (decide ((l.length : Int) ≤ 8) && decide (((headT a l).size : Int) ≤ 300)))) := by
  induction d with
  | zero =>
    intro i hi hd
    refine Ev.succ ?_
    simp only [impl_HeadOk.l0]
    rw [List.drop_eq_nil_of_le (by omega), show fieldsB [] = true from rfl, Bool.true_and]
    refine Ev.no (by omega) (Ev.bind (isLine_ev a (by omega)) ?_)
    by_cases c : lineB a = true
    · rw [c, Bool.true_and]
      refine Ev.yes rfl ?_
      by_cases c2 : (l.length : Int) ≤ 8
      · rw [decide_eq_true c2, Bool.true_and]; exact Ev.yes c2 (Ev.bind (text_impl a l hl (by omega)) (Ev.now _))
      · rw [decide_eq_false c2, Bool.false_and]; exact Ev.no c2 (Ev.now _)
    · rw [Bool.eq_false_iff.2 c, Bool.false_and]; exact Ev.no (by simp) (Ev.now _)
  | succ d ih =>
    intro i hi hd
    have hlt : i < l.length := by omega
    have hm := hsz_mem (List.getElem_mem hlt)
    refine Ev.succ ?_
    simp only [impl_HeadOk.l0]
    rw [wnat i _ hlt (by omega), rdF_get l i hlt, drop_get l i hlt, fieldsB_cons]
    refine Ev.yes (by omega) (Ev.yes (by omega) (Ev.yes (by omega) (Ev.bind (fieldOk_impl _ _ (by omega) (by omega)) ?_)))
    by_cases c : fieldB l[i].f0 l[i].f1 = true
    · rw [c, Bool.true_and]; exact Ev.yes rfl (ih (i + 1) (by omega) (by omega))
    · rw [Bool.eq_false_iff.2 c, Bool.false_and, Bool.false_and]; exact Ev.no (by simp) (Ev.now _)
theorem headOk_impl (a : ByteArray) (l : List S40) (hl : l.length ≤ 9223372036854775806) (hs : a.size + hsz l + 4 ≤ 9223372036854775806) : Ev (fun k => impl_HeadOk.f k a l) (headB a l) := by
  simp only [impl_HeadOk.f]
  exact headOk_impl_l a l hl hs l.length 0 (by omega) (by omega)
theorem headOk_spec_l (a : ByteArray) (l : List S40) (hl : l.length ≤ 9223372036854775806) (hs : a.size + hsz l + 4 ≤ 9223372036854775806) (d : Nat) : ∀ i : Nat, i ≤ l.length → l.length - i = d → Ev (fun k => spec_HeadOk.l0 k (i : Int) a l) (fieldsB (l.drop i) && decide (((headT a l).size : Int) ≤ 300)) := by
  induction d with
  | zero =>
    intro i hi hd
    refine Ev.succ ?_
    simp only [spec_HeadOk.l0]
    rw [List.drop_eq_nil_of_le (by omega), show fieldsB [] = true from rfl, Bool.true_and]
    exact Ev.no (by omega) (Ev.bind (text_spec a l hl (by omega)) (Ev.now _))
  | succ d ih =>
    intro i hi hd
    have hlt : i < l.length := by omega
    have hm := hsz_mem (List.getElem_mem hlt)
    refine Ev.succ ?_
    simp only [spec_HeadOk.l0]
    rw [wnat i _ hlt (by omega), rdF_get l i hlt, drop_get l i hlt, fieldsB_cons]
    refine Ev.yes (by omega) (Ev.yes (by omega) (Ev.bind (fieldOk_spec _ _ (by omega) (by omega)) ?_))
    by_cases c : fieldB l[i].f0 l[i].f1 = true
    · rw [c, Bool.true_and]; exact Ev.yes rfl (ih (i + 1) (by omega) (by omega))
    · rw [Bool.eq_false_iff.2 c, Bool.false_and, Bool.false_and]; exact Ev.no (by simp) (Ev.now _)
theorem headOk_spec (a : ByteArray) (l : List S40) (hl : l.length ≤ 9223372036854775806) (hs : a.size + hsz l + 4 ≤ 9223372036854775806) : Ev (fun k => spec_HeadOk.f k a l) (headB a l) := by
  simp only [spec_HeadOk.f]
  have no : Ev (fun k => spec_HeadOk.j0 k true a l) false := by refine Ev.succ ?_; simp only [spec_HeadOk.j0]; exact Ev.yes (by simp) (Ev.now _)
  by_cases c0 : (a.size : Int) = 0
  · rw [show headB a l = false from by unfold headB lineB; rw [decide_eq_false (by omega)]; simp]
    exact Ev.yes c0 no
  · refine Ev.no c0 (Ev.bind (plain_spec a 80 (by omega)) ?_)
    by_cases c : (inB 32 126 a.data.toList && decide ((a.size : Int) ≤ 80)) = true
    · refine Ev.yes c ?_
      rw [Bool.and_eq_true, decide_eq_true_iff] at c
      have hL : lineB a = true := by unfold lineB; rw [decide_eq_true ⟨by omega, c.2⟩, c.1]; rfl
      refine Ev.succ ?_
      simp only [spec_HeadOk.j0]
      unfold headB
      rw [hL, Bool.true_and]
      by_cases c8 : (l.length : Int) > 8
      · rw [decide_eq_true c8, decide_eq_false (show ¬ (l.length : Int) ≤ 8 by omega), Bool.false_and, Bool.and_false]; exact Ev.yes (by simp) (Ev.now _)
      · rw [decide_eq_false c8, decide_eq_true (show (l.length : Int) ≤ 8 by omega), Bool.true_and]
        exact Ev.no (by simp) (headOk_spec_l a l hl hs l.length 0 (by omega) (by omega))
    · refine Ev.no c ?_
      have hL : lineB a = false := by
        unfold lineB
        by_cases q : inB 32 126 a.data.toList = true
        · rw [q, Bool.true_and, decide_eq_true_iff] at c; rw [decide_eq_false (by omega), Bool.false_and]
        · rw [Bool.eq_false_iff.2 q, Bool.and_false]
      rw [show headB a l = false from by unfold headB; rw [hL]; simp]
      exact no
end Go.Proofs.YtiibecpllokhiaaDoor.Q
namespace Go.Proofs.YtiibecpllokhiaaDoor.Q
open Go.RowKit Go.Proofs.YtiibecpllokhiaaDoorW.PrintWords Go.Proofs.YtiibecpllokhiaaDoorW.PrintLast Go.Proofs.YtiibecpllokhiaaDoorW.PrintMore
set_option linter.unusedSimpArgs false
theorem suf13 (s : ByteArray) : suf s (⟨#[13]⟩ : ByteArray) = decide (s.data.toList.getLast? = some 13) := by
  unfold suf
  rw [toL, Lib.extract_data]
  have hz : (⟨#[13]⟩ : ByteArray).size = 1 := rfl
  have hL := sizeL s
  rw [hz, toL]
  rcases List.eq_nil_or_concat s.data.toList with e | ⟨l, b, e⟩
  · rw [e] at hL ⊢
    rw [decide_eq_false (by simp at hL; omega)]; simp
  · rw [List.concat_eq_append] at e
    rw [e] at hL ⊢
    rw [List.length_append, List.length_singleton] at hL
    rw [decide_eq_true (by omega), Bool.true_and, show s.size - 1 = l.length by omega, List.drop_left, show s.size - l.length = 1 by omega]
    simp only [List.take_succ_cons, List.take_zero, List.getLast?_append, List.getLast?_singleton, Option.some_or, Option.some.injEq]
    rw [Bool.eq_iff_iff, beq_iff_eq, decide_eq_true_iff]
    show ([b] = [13]) ↔ _
    simp
theorem chop_eq (l : List UInt8) : chop l = if l.getLast? = some 13 then l.take (l.length - 1) else l := by
  induction l with
  | nil => rfl
  | cons b r ih =>
    rw [chop]
    cases r with
    | nil =>
      by_cases c : b = 13
      · subst c; simp
      · simp [c, chop]
    | cons c r =>
      rw [if_neg (by simp), ih]
      have e : (b :: c :: r).getLast? = (c :: r).getLast? := by simp [List.getLast?_cons]
      rw [e]
      split
      · simp only [List.length_cons]; rw [show r.length + 1 + 1 - 1 = (r.length + 1 - 1) + 1 by omega, List.take_succ_cons]
      · rfl
theorem trimSuf_ev (s : ByteArray) (hs : s.size ≤ 9223372036854775807) : strings_TrimSuffix.f s (⟨#[13]⟩ : ByteArray) = some (ba (chop s.data.toList)) := by
  have hz : (⟨#[13]⟩ : ByteArray).size = 1 := rfl
  have e : stringslite_HasSuffix.f s (⟨#[13]⟩ : ByteArray) = some (suf s (⟨#[13]⟩ : ByteArray)) := by
    simp only [stringslite_HasSuffix.f]
    unfold suf
    by_cases c : (s.size : Int) ≥ ((⟨#[13]⟩ : ByteArray).size : Int)
    · have hw : wrap64 ((s.size : Int) - ((⟨#[13]⟩ : ByteArray).size : Int)) = ((s.size - (⟨#[13]⟩ : ByteArray).size : Nat) : Int) := by rw [w64 (by omega) (by omega)]; omega
      rw [if_pos c, hw, if_pos (by omega), if_pos (by omega), decide_eq_true (by omega), Bool.true_and, Int.toNat_natCast]
    · rw [if_neg c, decide_eq_false (by omega), Bool.false_and]
  simp only [strings_TrimSuffix.f, stringslite_TrimSuffix.f, e, Option.bind_some, suf13]
  rw [chop_eq]
  by_cases c : s.data.toList.getLast? = some 13
  · have hp : 1 ≤ s.size := by
      rcases Nat.eq_zero_or_pos s.size with h | h
      · have : s.data.toList = [] := List.eq_nil_of_length_eq_zero (by rw [sizeL]; exact h)
        rw [this] at c; cases c
      · exact h
    have hw : wrap64 ((s.size : Int) - ((⟨#[13]⟩ : ByteArray).size : Int)) = ((s.size - 1 : Nat) : Int) := by rw [hz, w64 (by omega) (by omega)]; omega
    rw [decide_eq_true c, if_pos c, if_pos rfl, hw, if_pos (by omega), if_pos (by omega), Int.toNat_natCast, ext_ba, List.drop_zero, Nat.sub_zero, sizeL]; rfl
  · rw [decide_eq_false c, if_neg c, if_neg (by simp), ba_of]; rfl
theorem contains_cl (l : List UInt8) : Lib.containsAny l [13, 10] = !(cl l) := by
  unfold Lib.containsAny
  induction l with
  | nil => rfl
  | cons b l ih =>
    rw [Lib.indexAny, cl_cons]
    have hg := Lib.indexAny_ge [13, 10] l
    by_cases c : ([13, 10] : List UInt8).contains b = true
    · rw [if_pos c]
      simp only [List.contains_cons, List.contains_nil, Bool.or_false, Bool.or_eq_true, beq_iff_eq] at c
      rcases c with rfl | rfl <;> simp
    · rw [if_neg c]
      have c' := Bool.eq_false_iff.2 c
      simp only [List.contains_cons, List.contains_nil, Bool.or_false, Bool.or_eq_false_iff, beq_eq_false_iff_ne] at c'
      rw [show (b == (10 : UInt8)) = false from beq_eq_false_iff_ne.2 c'.2, show (b == (13 : UInt8)) = false from beq_eq_false_iff_ne.2 c'.1]
      simp only [Bool.not_false, Bool.true_and]
      rw [← ih]
      by_cases d : Lib.indexAny l [13, 10] = -1
      · rw [d]; decide
      · rw [show (Lib.indexAny l [13, 10] == -1) = false from by simpa using d]
        simp only [Bool.false_eq_true, if_false]
        rw [decide_eq_true (by omega), decide_eq_true (by omega)]
def restB (t : List UInt8) (first : Bool) : Bool := cl (chop t) && (!first || (decide (((chop t).length : Int) ≤ 80) && inB 32 126 (chop t)))
theorem chop_len (t : List UInt8) : (chop t).length ≤ t.length := by
  rw [chop_eq]; split
  · rw [List.length_take]; omega
  · omega
theorem restOk_ev (s : ByteArray) (first : Bool) (hs : s.size ≤ 4000000000) : Ev (fun k => impl_restOk.f k s first) (restB s.data.toList first) := by
  simp only [impl_restOk.f]
  have hl := chop_len s.data.toList
  rw [sizeL] at hl
  refine Ev.via (trimSuf_ev s (by omega)) (Ev.via (a := !(cl (chop s.data.toList))) (by unfold strings_ContainsAny.f; rw [if_pos ⟨by rw [ba_size]; omega, rfl⟩, ba_toL, contains_cl]) ?_)
  unfold restB
  by_cases c : cl (chop s.data.toList) = true
  · rw [c]
    refine Ev.no (by simp) ?_
    cases first with
    | false => exact Ev.no (by simp) (Ev.now _)
    | true =>
      refine Ev.yes rfl ?_
      rw [ba_size]
      by_cases d : ((chop s.data.toList).length : Int) ≤ 80
      · rw [decide_eq_true d]
        have := bytesIn_ev (ba (chop s.data.toList)) 32 126 (by rw [ba_size]; omega)
        rw [ba_toL] at this
        exact Ev.yes d (Ev.bind this (Ev.now _))
      · rw [decide_eq_false d]; exact Ev.no d (Ev.now _)
  · rw [Bool.eq_false_iff.2 c]; exact Ev.yes (by simp) (Ev.now _)
theorem trimR_last (l : List UInt8) (b : UInt8) : Lib.trimRightB (l ++ [b]) 32 = if b = 32 then Lib.trimRightB l 32 else l ++ [b] := by
  unfold Lib.trimRightB
  rw [List.reverse_append]
  simp only [List.reverse_cons, List.reverse_nil, List.nil_append, List.singleton_append]
  by_cases c : b = 32
  · subst c; simp
  · simp [c]
theorem trimR_cons (b : UInt8) (t : List UInt8) : Lib.trimRightB (b :: t) 32 = if Lib.trimRightB t 32 = [] ∧ b = 32 then [] else b :: Lib.trimRightB t 32 := by
  unfold Lib.trimRightB
  rw [List.reverse_cons, List.dropWhile_append]
  by_cases c : (t.reverse.dropWhile (· == (32 : UInt8))) = []
  · rw [c]
    by_cases d : b = 32
    · subst d; simp
    · simp [d]
  · have : (t.reverse.dropWhile (· == (32 : UInt8))).isEmpty = false := by simpa using c
    rw [this, if_neg (by simp)]
    rw [if_neg (fun h => c (by simpa using h.1))]
    simp
theorem trim_swap (l : List UInt8) : Lib.trimRightB (Lib.trimLeftB l 32) 32 = Lib.trimB l 32 := by
  unfold Lib.trimB
  induction l with
  | nil => rfl
  | cons b t ih =>
    rw [trimR_cons]
    unfold Lib.trimLeftB at *
    by_cases c : b = 32
    · subst c
      rw [List.dropWhile_cons_of_pos (by simp), ih]
      by_cases d : Lib.trimRightB t 32 = []
      · rw [if_pos ⟨d, rfl⟩, d]
      · rw [if_neg (fun h => d h.1), List.dropWhile_cons_of_pos (by simp)]
    · rw [List.dropWhile_cons_of_neg (by simp [c]), if_neg (fun h => c h.2), List.dropWhile_cons_of_neg (by simp [c]), trimR_cons, if_neg (fun h => c h.2)]
theorem trimS_r (d : Nat) : ∀ s : ByteArray, s.size = d → s.size ≤ 9223372036854775807 → Ev (fun k => spec_l09Trim.l1 k s) (ba (Lib.trimRightB s.data.toList 32)) := by
  induction d with
  | zero =>
    intro s hd hs
    have : s.data.toList = [] := List.eq_nil_of_length_eq_zero (by rw [sizeL]; exact hd)
    refine Ev.succ ?_
    simp only [spec_l09Trim.l1]
    rw [this, show ba (Lib.trimRightB [] 32) = s from by rw [← ba_of s, this]; rfl]
    exact Ev.no (by omega) (Ev.now _)
  | succ d ih =>
    intro s hd hs
    refine Ev.succ ?_
    simp only [spec_l09Trim.l1]
    have hw : wrap64 ((s.size : Int) - 1) = ((s.size - 1 : Nat) : Int) := by rw [w64 (by omega) (by omega)]; omega
    rw [hw, bt_get s (s.size - 1) (by omega)]
    refine Ev.yes (by omega) (Ev.yes (by omega) (Ev.yes (by omega) ?_))
    have hl : s.data.toList = s.data.toList.take (s.size - 1) ++ [s.data.toList[s.size - 1]'(by rw [sizeL]; omega)] := by
      have h2 := List.take_succ_eq_append_getElem (l := s.data.toList) (i := s.size - 1) (by rw [sizeL]; omega)
      rw [← h2, List.take_of_length_le (by rw [sizeL]; omega)]
    have e := trimR_last (s.data.toList.take (s.size - 1)) (s.data.toList[s.size - 1]'(by rw [sizeL]; omega))
    rw [← hl] at e
    rw [e]
    by_cases c : s.data.toList[s.size - 1]'(by rw [sizeL]; omega) = 32
    · rw [if_pos c]
      refine Ev.yes ((b32 _).2 c) (Ev.yes (by omega) ?_)
      have e2 : (s.extract 0 (((s.size - 1 : Nat) : Int)).toNat) = ba (s.data.toList.take (s.size - 1)) := by rw [Int.toNat_natCast, ext_ba]; simp
      rw [e2]
      have := ih (ba (s.data.toList.take (s.size - 1))) (by rw [ba_size, List.length_take, sizeL]; omega) (by rw [ba_size, List.length_take, sizeL]; omega)
      rw [ba_toL] at this
      exact this
    · rw [if_neg c, ba_of]
      exact Ev.no (fun h => c ((b32 _).1 h)) (Ev.now _)
theorem trimS_l (d : Nat) : ∀ s : ByteArray, s.size = d → s.size ≤ 9223372036854775807 → Ev (fun k => spec_l09Trim.l0 k s) (ba (Lib.trimRightB (Lib.trimLeftB s.data.toList 32) 32)) := by
  have jt : ∀ s : ByteArray, s.size ≤ 9223372036854775807 → Ev (fun k => spec_l09Trim.j1 k s) (ba (Lib.trimRightB s.data.toList 32)) := fun s hs => by
    refine Ev.succ ?_
    simp only [spec_l09Trim.j1]; exact trimS_r s.size s rfl hs
  induction d with
  | zero =>
    intro s hd hs
    have : s.data.toList = [] := List.eq_nil_of_length_eq_zero (by rw [sizeL]; exact hd)
    have h := jt s hs
    refine Ev.succ ?_
    simp only [spec_l09Trim.l0]
    rw [this] at h ⊢
    exact Ev.no (by omega) h
  | succ d ih =>
    intro s hd hs
    refine Ev.succ ?_
    simp only [spec_l09Trim.l0]
    have eb := bt_get s 0 (by omega)
    rw [show ((0 : Nat) : Int) = 0 from rfl] at eb
    rw [eb]
    have hl := drop_get s.data.toList 0 (by rw [sizeL]; omega)
    rw [List.drop_zero] at hl
    refine Ev.yes (by omega) (Ev.yes (by omega) ?_)
    by_cases c : s.data.toList[0]'(by rw [sizeL]; omega) = 32
    · refine Ev.yes ((b32 _).2 c) (Ev.yes (by omega) ?_)
      have e2 : s.extract 1 s.size = ba (s.data.toList.drop 1) := by rw [ext_ba, List.take_of_length_le (by rw [List.length_drop, sizeL]; omega)]
      rw [e2]
      have h := ih (ba (s.data.toList.drop 1)) (by rw [ba_size, List.length_drop, sizeL]; omega) (by rw [ba_size, List.length_drop, sizeL]; omega)
      rw [ba_toL] at h
      have e3 : Lib.trimLeftB s.data.toList 32 = Lib.trimLeftB (s.data.toList.drop 1) 32 := by
        unfold Lib.trimLeftB
        conv => lhs; rw [hl]
        rw [List.dropWhile_cons_of_pos (by simp [c])]
      rw [e3]
      exact h
    · have e3 : Lib.trimLeftB s.data.toList 32 = s.data.toList := by
        unfold Lib.trimLeftB
        conv => lhs; rw [hl]
        rw [List.dropWhile_cons_of_neg (p := fun x => x == (32 : UInt8)) (fun h => c (beq_iff_eq.1 h))]
        exact hl.symm
      rw [e3]
      exact Ev.no (fun h => c ((b32 _).1 h)) (jt s hs)
theorem trimS_ev (s : ByteArray) (hs : s.size ≤ 9223372036854775807) : Ev (fun k => spec_l09Trim.f k s) (ba (Lib.trimB s.data.toList 32)) := by
  have := trimS_l s.size s rfl hs
  rw [trim_swap] at this
  exact this
theorem low_ba (l : List UInt8) : impl_lower.all (ba l) = ba (l.map impl_lower.one) := by
  apply ba_ext; rw [ba_toL]; unfold impl_lower.all ba; simp
/-- The field that a line tells, and whether it is one. -/
def fldF (t : List UInt8) : ByteArray × ByteArray × Bool :=
  (ba ((ct [58] t).1.map impl_lower.one), ba (Lib.trimB (ct [58] t).2.1 32), fieldB (ba ((ct [58] t).1.map impl_lower.one)) (ba (Lib.trimB (ct [58] t).2.1 32)))
def fldL (t : List UInt8) : Option S40 := if (ct [58] t).2.2 = true ∧ (fldF t).2.2 = true then some ⟨(fldF t).1, (fldF t).2.1⟩ else none
theorem trim_len (l : List UInt8) : (Lib.trimB l 32).length ≤ l.length := by
  unfold Lib.trimB Lib.trimLeftB Lib.trimRightB
  have h1 := (List.dropWhile_sublist (l := (l.reverse.dropWhile (· == (32 : UInt8))).reverse) (· == (32 : UInt8))).length_le
  have h2 := (List.dropWhile_sublist (l := l.reverse) (· == (32 : UInt8))).length_le
  rw [List.length_reverse] at h1 h2
  omega
theorem ct_len {p t : List UInt8} : (ct p t).1.length ≤ t.length ∧ (ct p t).2.1.length ≤ t.length := by
  cases h : (ct p t).2.2 with
  | true =>
    have := congrArg List.length (ct_true h)
    simp only [List.length_append] at this
    omega
  | false =>
    refine ⟨by rw [ct_false h]; omega, ?_⟩
    cases t with
    | nil => simp [ct]
    | cons b t =>
      rw [ct] at h ⊢
      split at h
      · cases h
      · rename_i c
        rw [if_neg c]
        split at h
        · cases h
        · rename_i c2; rw [if_neg c2]; simp
theorem readField_ev (s : ByteArray) (hs : s.size ≤ 1048576) : EvP (fun k => impl_readField.f k s) (fun r => (fldL s.data.toList = none ∧ r.2.2 = false) ∨ (∃ f, fldL s.data.toList = some f ∧ r.1 = f.f0 ∧ r.2.1 = f.f1 ∧ r.2.2 = true)) := by
  simp only [impl_readField.f]
  have hc := @ct_len [58] s.data.toList
  rw [sizeL] at hc
  have ht := trim_len (ct [58] s.data.toList).2.1
  have e1 : impl_lower.f (ba (ct [58] s.data.toList).1) = some (fldF s.data.toList).1 := by
    unfold impl_lower.f; rw [if_pos (by rw [ba_size]; omega), low_ba]; rfl
  have e2 : strings_Trim.f (ba (ct [58] s.data.toList).2.1) (⟨#[32]⟩ : ByteArray) = some (fldF s.data.toList).2.1 := by
    unfold strings_Trim.f; rw [if_pos ⟨rfl, by rw [ba_size]; omega⟩, ba_toL]; rfl
  have e0 := cut_ev s (⟨#[58]⟩ : ByteArray) (by simp) (by omega)
  have l1 : (fldF s.data.toList).1.size ≤ 1048576 := by unfold fldF; rw [ba_size, List.length_map]; omega
  have l2 : (fldF s.data.toList).2.1.size ≤ 1048576 := by unfold fldF; rw [ba_size]; omega
  unfold fldL
  by_cases c : (ct [58] s.data.toList).2.2 = true
  · refine ⟨((fldF s.data.toList).1, (fldF s.data.toList).2.1, (fldF s.data.toList).2.2), Ev.via e0 (Ev.via e1 (Ev.via e2 (Ev.yes c (Ev.bind (fieldOk_impl _ _ (by omega) (by omega)) (Ev.now _))))), ?_⟩
    by_cases d : (fldF s.data.toList).2.2 = true
    · rw [if_pos ⟨c, d⟩]; exact .inr ⟨_, rfl, rfl, rfl, d⟩
    · rw [if_neg (fun h => d h.2)]; exact .inl ⟨rfl, Bool.eq_false_iff.2 d⟩
  · refine ⟨((fldF s.data.toList).1, (fldF s.data.toList).2.1, false), Ev.via e0 (Ev.via e1 (Ev.via e2 (Ev.no c (Ev.now _)))), ?_⟩
    rw [if_neg (fun h => c h.1)]; exact .inl ⟨rfl, rfl⟩
theorem ct1 (c b : UInt8) (t : List UInt8) : ct [c] (b :: t) = if b = c then ([], t, true) else if (ct [c] t).2.2 = true then (b :: (ct [c] t).1, (ct [c] t).2.1, true) else (b :: t, [], false) := by
  rw [ct]
  by_cases h : b = c
  · subst h; simp [List.isPrefixOf]
  · rw [if_neg h, if_neg (by simp [List.isPrefixOf, Ne.symm h])]
theorem field_l (s : ByteArray) (hs : s.size ≤ 1048576) (d : Nat) : ∀ i : Nat, i ≤ s.size → s.size - i = d → EvP (fun k => spec_l09Field.l0 k s (i : Int)) (fun r => if (ct [58] (s.data.toList.drop i)).2.2 = true then r = (ba ((s.data.toList.take (i + (ct [58] (s.data.toList.drop i)).1.length)).map impl_lower.one), ba (Lib.trimB (ct [58] (s.data.toList.drop i)).2.1 32), fieldB (ba ((s.data.toList.take (i + (ct [58] (s.data.toList.drop i)).1.length)).map impl_lower.one)) (ba (Lib.trimB (ct [58] (s.data.toList.drop i)).2.1 32))) else r.2.2 = false) := by
  induction d with
  | zero =>
    intro i hi hd
    refine EvP.succ ?_
    simp only [spec_l09Field.l0]
    rw [List.drop_eq_nil_of_le (by rw [sizeL]; omega)]
    refine EvP.no (by omega) (EvP.ret ?_)
    rw [if_neg (by simp [ct])]
  | succ d ih =>
    intro i hi hd
    have hlt : i < s.size := by omega
    refine EvP.succ ?_
    simp only [spec_l09Field.l0]
    rw [wnat i s.size hlt (by omega), drop_get s.data.toList i (by rw [sizeL]; exact hlt), bt_get s i hlt, ct1]
    have h := ih (i + 1) (by omega) (by omega)
    have ht : s.data.toList.take (i + 1) = s.data.toList.take i ++ [s.data.toList[i]'(by rw [sizeL]; exact hlt)] := List.take_succ_eq_append_getElem (by rw [sizeL]; exact hlt)
    refine EvP.yes (by omega) (EvP.yes (by omega) ?_)
    have b58 : ∀ b : UInt8, ((b.toNat : Int) = 58) ↔ b = 58 := fun b => ⟨fun h => UInt8.toNat_inj.1 (by show b.toNat = 58; omega), fun h => by rw [h]; rfl⟩
    generalize s.data.toList[i]'(by rw [sizeL]; exact hlt) = b at *
    by_cases c : b = 58
    · rw [if_pos c]
      refine EvP.yes ((b58 b).2 c) (EvP.yes (by omega) ?_)
      have e1 : s.extract 0 ((i : Int)).toNat = ba (s.data.toList.take i) := by rw [Int.toNat_natCast, ext_ba]; simp
      have e2 : s.extract (((i + 1 : Nat) : Int)).toNat s.size = ba (s.data.toList.drop (i + 1)) := by
        rw [Int.toNat_natCast, ext_ba, List.take_of_length_le (by rw [List.length_drop, sizeL]; omega)]
      rw [e1, e2]
      have z1 : (ba (s.data.toList.take i)).size ≤ s.size := by rw [ba_size, List.length_take, sizeL]; omega
      have z2 : (ba (s.data.toList.drop (i + 1))).size ≤ s.size := by rw [ba_size, List.length_drop, sizeL]; omega
      have z3 := trim_len (s.data.toList.drop (i + 1))
      rw [List.length_drop, sizeL] at z3
      have et := trimS_ev (ba (s.data.toList.drop (i + 1))) (by omega)
      rw [ba_toL] at et
      refine ⟨_, Ev.via (a := ba ((s.data.toList.take i).map impl_lower.one)) (by unfold spec_l09Low.f; rw [if_pos (by omega), low_ba]) (Ev.yes (by omega) (Ev.yes (by omega) (Ev.bind et (Ev.bind (fieldOk_spec _ _ (by rw [ba_size, List.length_map, List.length_take, sizeL]; omega) (by rw [ba_size]; omega)) (Ev.now _))))), ?_⟩
      simp
    · rw [if_neg c]
      refine EvP.no (fun h => c ((b58 b).1 h)) (h.imp fun r hr => ?_)
      by_cases q : (ct [58] (s.data.toList.drop (i + 1))).2.2 = true
      · rw [if_pos q] at hr ⊢
        simp only [if_true, List.length_cons]
        rw [hr, show i + 1 + (ct [58] (s.data.toList.drop (i + 1))).1.length = i + ((ct [58] (s.data.toList.drop (i + 1))).1.length + 1) by omega]
      · rw [if_neg q] at hr ⊢
        simpa using hr
theorem field_ev (s : ByteArray) (hs : s.size ≤ 1048576) : EvP (fun k => spec_l09Field.f k s) (fun r => (fldL s.data.toList = none ∧ r.2.2 = false) ∨ (∃ f, fldL s.data.toList = some f ∧ r.1 = f.f0 ∧ r.2.1 = f.f1 ∧ r.2.2 = true)) := by
  refine (field_l s hs s.size 0 (by omega) (by omega)).imp fun r hr => ?_
  rw [List.drop_zero, Nat.zero_add] at hr
  unfold fldL
  by_cases q : (ct [58] s.data.toList).2.2 = true
  · rw [if_pos q] at hr
    have ht : s.data.toList.take (ct [58] s.data.toList).1.length = (ct [58] s.data.toList).1 := (congrArg (List.take (ct [58] s.data.toList).1.length) (ct_true q)).trans (by rw [List.append_assoc, List.take_left])
    rw [ht] at hr
    have hr : r = fldF s.data.toList := hr
    subst hr
    by_cases d : (fldF s.data.toList).2.2 = true
    · rw [if_pos ⟨q, d⟩]; exact .inr ⟨_, rfl, rfl, rfl, d⟩
    · rw [if_neg (fun h => d h.2)]; exact .inl ⟨rfl, Bool.eq_false_iff.2 d⟩
  · rw [if_neg q] at hr
    rw [if_neg (fun h => q h.1)]; exact .inl ⟨rfl, hr⟩
def badR : ByteArray × List S40 × Int × Int := (⟨#[]⟩, [], 0, 2)
def moreR : ByteArray × List S40 × Int × Int := (⟨#[]⟩, [], 0, 1)
def endR (n : Nat) : ByteArray × List S40 × Int × Int := if (n : Int) > 300 then badR else moreR
def doneR (n : Nat) (y : List UInt8) (a : ByteArray) (l : List S40) : ByteArray × List S40 × Int × Int := if headB a l = true ∧ ((n - y.length : Nat) : Int) ≤ 300 then (a, l, ((n - y.length : Nat) : Int), 0) else badR
def rdL (n : Nat) : Nat → List UInt8 → ByteArray → List S40 → ByteArray × List S40 × Int × Int
  | 0, _, _, _ => badR
  | d + 1, t, a, l => match ln t with
    | none => badR
    | some (_, none) => endR n
    | some (x, some y) => if x = [] then doneR n y a l else (match fldL x with
      | none => badR
      | some f => if l.length = 8 then badR else rdL n d y a (l ++ [f]))
def rdH (t : List UInt8) : ByteArray × List S40 × Int × Int := match ln t with
  | none => badR
  | some (x, none) => if (inB 32 126 x && decide ((x.length : Int) ≤ 80)) = true then endR t.length else badR
  | some (x, some y) => if lineB (ba x) = true then rdL t.length t.length y (ba x) [] else badR
theorem rdL_none {n d : Nat} {t : List UInt8} {a : ByteArray} {l : List S40} (h : ln t = none) : rdL n (d + 1) t a l = badR := by rw [rdL, h]
theorem rdL_more {n d : Nat} {t x : List UInt8} {a : ByteArray} {l : List S40} (h : ln t = some (x, none)) : rdL n (d + 1) t a l = endR n := by rw [rdL, h]
theorem rdL_done {n d : Nat} {t y : List UInt8} {a : ByteArray} {l : List S40} (h : ln t = some ([], some y)) : rdL n (d + 1) t a l = doneR n y a l := by rw [rdL, h]; rfl
theorem rdL_bad {n d : Nat} {t x y : List UInt8} {a : ByteArray} {l : List S40} (h : ln t = some (x, some y)) (hx : x ≠ []) (hf : fldL x = none) : rdL n (d + 1) t a l = badR := by rw [rdL, h]; simp only [if_neg hx, hf]
theorem rdL_full {n d : Nat} {t x y : List UInt8} {a : ByteArray} {l : List S40} {f : S40} (h : ln t = some (x, some y)) (hx : x ≠ []) (hf : fldL x = some f) (h8 : l.length = 8) : rdL n (d + 1) t a l = badR := by rw [rdL, h]; simp only [if_neg hx, hf, if_pos h8]
theorem rdL_go {n d : Nat} {t x y : List UInt8} {a : ByteArray} {l : List S40} {f : S40} (h : ln t = some (x, some y)) (hx : x ≠ []) (hf : fldL x = some f) (h8 : l.length ≠ 8) : rdL n (d + 1) t a l = rdL n d y a (l ++ [f]) := by rw [rdL, h]; simp only [if_neg hx, hf, if_neg h8]
theorem rdH_none {t : List UInt8} (h : ln t = none) : rdH t = badR := by unfold rdH; rw [h]
theorem rdH_more {t x : List UInt8} (h : ln t = some (x, none)) (c : (inB 32 126 x && decide ((x.length : Int) ≤ 80)) = true) : rdH t = endR t.length := by unfold rdH; rw [h]; simp only [if_pos c]
theorem rdH_part {t x : List UInt8} (h : ln t = some (x, none)) (c : ¬ (inB 32 126 x && decide ((x.length : Int) ≤ 80)) = true) : rdH t = badR := by unfold rdH; rw [h]; simp only [if_neg c]
theorem rdH_bad {t x y : List UInt8} (h : ln t = some (x, some y)) (c : ¬ lineB (ba x) = true) : rdH t = badR := by unfold rdH; rw [h]; simp only [if_neg c]
theorem rdH_go {t x y : List UInt8} (h : ln t = some (x, some y)) (c : lineB (ba x) = true) : rdH t = rdL t.length t.length y (ba x) [] := by unfold rdH; rw [h]; simp only [if_pos c]
theorem endR_big {n : Nat} (h : (n : Int) > 300) : endR n = badR := if_pos h
theorem endR_small {n : Nat} (h : ¬ (n : Int) > 300) : endR n = moreR := if_neg h
theorem doneR_no {n : Nat} {y : List UInt8} {a : ByteArray} {l : List S40} (h : ¬ headB a l = true) : doneR n y a l = badR := if_neg fun h2 => h h2.1
theorem doneR_big {n : Nat} {y : List UInt8} {a : ByteArray} {l : List S40} (h : ((n - y.length : Nat) : Int) > 300) : doneR n y a l = badR := if_neg fun h2 => by have := h2.2; omega
theorem doneR_ok {n : Nat} {y : List UInt8} {a : ByteArray} {l : List S40} (hb : headB a l = true) (h : ¬ ((n - y.length : Nat) : Int) > 300) : doneR n y a l = (a, l, ((n - y.length : Nat) : Int), 0) := if_pos ⟨hb, by omega⟩
theorem cut_crlf (s : ByteArray) (hs : s.size ≤ 4000000000) : strings_Cut.f s (⟨#[13, 10]⟩ : ByteArray) = some (ba (ct [13, 10] s.data.toList).1, ba (ct [13, 10] s.data.toList).2.1, (ct [13, 10] s.data.toList).2.2) := cut_ev s ⟨#[13, 10]⟩ (by simp) hs
/-- The fields read so far. -/
def okF (l : List S40) : Prop := l.length ≤ 8 ∧ ∀ f ∈ l, f.f0.size ≤ 20 ∧ f.f1.size ≤ 60
theorem okF_hsz {l : List S40} (h : ∀ f ∈ l, f.f0.size ≤ 20 ∧ f.f1.size ≤ 60) : hsz l ≤ 84 * l.length := by
  induction l with
  | nil => simp [hsz]
  | cons f r ih =>
    have h1 := h f (by simp)
    have h2 := ih (fun g hg => h g (by simp [hg]))
    rw [hsz, List.length_cons]; omega
theorem fld_size {n v : ByteArray} (h : fieldB n v = true) : n.size ≤ 20 ∧ v.size ≤ 60 := by
  unfold fieldB nameB at h
  simp only [Bool.and_eq_true, decide_eq_true_iff] at h
  omega
theorem fldL_size {t : List UInt8} {f : S40} (h : fldL t = some f) : f.f0.size ≤ 20 ∧ f.f1.size ≤ 60 := by
  unfold fldL at h
  split at h
  · rename_i c
    obtain rfl := Option.some.inj h
    exact fld_size c.2
  · cases h
theorem okF_add {l : List S40} {t : List UInt8} {f : S40} (h : okF l) (h8 : l.length ≠ 8) (hf : fldL t = some f) : okF (l ++ [f]) := by
  refine ⟨by rw [List.length_append, List.length_singleton]; have := h.1; omega, fun g hg => ?_⟩
  rcases List.mem_append.1 hg with hg | hg
  · exact h.2 g hg
  · rw [List.mem_singleton] at hg; subst hg; exact fldL_size hf
theorem inB_cl {l : List UInt8} (h : cl l = false) : inB 32 126 l = false := by
  obtain ⟨b, hb, h⟩ := cl_ex h
  unfold inB
  rw [List.all_eq_false]
  refine ⟨b, hb, ?_⟩
  rcases h with rfl | rfl <;> decide
theorem nmB_map {l : List UInt8} (h : cl l = false) : nmB (l.map impl_lower.one) = false := by
  obtain ⟨b, hb, h⟩ := cl_ex h
  unfold nmB
  rw [List.all_eq_false]
  refine ⟨impl_lower.one b, List.mem_map_of_mem hb, ?_⟩
  rcases h with rfl | rfl <;> decide
theorem trim_mem {l : List UInt8} {b : UInt8} (hb : b ∈ l) (h : b ≠ 32) : b ∈ Lib.trimB l 32 := by
  have hm : ∀ m : List UInt8, b ∈ m → b ∈ m.dropWhile (· == (32 : UInt8)) := fun m hm => by
    have := List.takeWhile_append_dropWhile (p := (· == (32 : UInt8))) (l := m)
    rw [← this] at hm
    rcases List.mem_append.1 hm with hm | hm
    · have := List.all_eq_true.1 (List.all_takeWhile (p := (· == (32 : UInt8))) (l := m)) b hm
      exact absurd (beq_iff_eq.1 this) h
    · exact hm
  unfold Lib.trimB Lib.trimLeftB Lib.trimRightB
  refine hm _ ?_
  rw [List.mem_reverse]
  refine hm _ ?_
  rw [List.mem_reverse]
  exact hb
theorem fldL_cl {t : List UInt8} (h : cl t = false) : fldL t = none := by
  unfold fldL
  by_cases c : (ct [58] t).2.2 = true
  · rw [if_neg]
    rintro ⟨_, hf⟩
    have e := ct_true c
    unfold fldF fieldB nameB at hf
    simp only [Bool.and_eq_true, ba_toL] at hf
    rw [e, cl_app, cl_app] at h
    by_cases c1 : cl (ct [58] t).1 = true
    · rw [c1] at h
      have h2 : cl (ct [58] t).2.1 = false := by
        simpa [cl] using h
      obtain ⟨b, hb, hh⟩ := cl_ex h2
      have hm := trim_mem hb (by rcases hh with rfl | rfl <;> decide)
      have h3 : cl (Lib.trimB (ct [58] t).2.1 32) = false := by
        unfold cl
        rw [List.all_eq_false]
        refine ⟨b, hm, ?_⟩
        rcases hh with rfl | rfl <;> decide
      rw [inB_cl h3] at hf
      simp at hf
    · rw [nmB_map (Bool.eq_false_iff.2 c1)] at hf
      simp at hf
  · rw [if_neg (fun h => c h.1)]
theorem ct_shrink {t : List UInt8} (h : (ct [13, 10] t).2.2 = true) : (ct [13, 10] t).1.length + 2 + (ct [13, 10] t).2.1.length = t.length := by
  have := congrArg List.length (ct_true h)
  simp only [List.length_append, List.length_cons, List.length_nil] at this
  omega
theorem rd_impl_l (s : ByteArray) (a : ByteArray) (hs : s.size ≤ 1048576) (ha : a.size ≤ 1048576) (ha0 : 0 < a.size) (d : Nat) : ∀ (t : List UInt8) (i : Int) (l : List S40), t.length < d → t.length ≤ s.size → 0 < i → i + t.length ≤ 4194304 → okF l → Ev (fun k => impl_ReadHead.l0 k s (ba t) i a l) (rdL s.size d t a l) := by
  have ea : (a.toList == ([] : List UInt8)) = false := by
    rw [toL, beq_eq_false_iff_ne]
    intro h
    have := congrArg List.length h
    rw [sizeL, List.length_nil] at this
    omega
  induction d with
  | zero => intro t i l h; omega
  | succ d ih =>
    intro t i l hd ht hi0 hi1 hok
    have hz := okF_hsz hok.2
    have h8 := hok.1
    refine Ev.succ ?_
    simp only [impl_ReadHead.l0]
    have e0 := cut_crlf (ba t) (by rw [ba_size]; omega)
    rw [ba_toL] at e0
    refine Ev.via e0 ?_
    by_cases c : (ct [13, 10] t).2.2 = true
    · have hln := ln_true t c
      have hsh := ct_shrink c
      refine Ev.yes c (Ev.no (by omega) ?_)
      simp only [ba_list, ba_size]
      by_cases q : cl (ct [13, 10] t).1 = true
      · rw [if_pos q] at hln
        by_cases x0 : (ct [13, 10] t).1 = []
        · rw [x0] at hln
          rw [rdL_done hln]
          refine Ev.yes x0 (Ev.bind (headOk_impl a l (by omega) (by omega)) ?_)
          have hw : wrap64 ((s.size : Int) - ((ct [13, 10] t).2.1.length : Int)) = ((s.size - (ct [13, 10] t).2.1.length : Nat) : Int) := by rw [w64 (by omega) (by omega)]; omega
          rw [hw]
          by_cases hb : headB a l = true
          · refine Ev.yes hb (Ev.succ ?_)
            simp only [impl_ReadHead.j1]
            by_cases g : ((s.size - (ct [13, 10] t).2.1.length : Nat) : Int) > 300
            · rw [doneR_big g]
              exact Ev.yes (decide_eq_true g) (Ev.now _)
            · rw [doneR_ok hb g]
              exact Ev.no (by rw [decide_eq_false g]; simp) (Ev.now _)
          · rw [doneR_no hb]
            refine Ev.no hb (Ev.succ ?_)
            simp only [impl_ReadHead.j1]
            exact Ev.yes trivial (Ev.now _)
        · refine Ev.no x0 ?_
          obtain ⟨r, er, hr⟩ := readField_ev (ba (ct [13, 10] t).1) (by rw [ba_size]; omega)
          rw [ba_toL] at hr
          refine Ev.bind er ?_
          rcases hr with ⟨hn, hf⟩ | ⟨f, hn, h1, h2, h3⟩
          · rw [rdL_bad hln x0 hn]; exact Ev.no (by rw [hf]; simp) (Ev.now _)
          · refine Ev.yes h3 ?_
            by_cases g : l.length = 8
            · rw [rdL_full hln x0 hn g]; exact Ev.yes (by omega) (Ev.now _)
            · rw [rdL_go hln x0 hn g, h1, h2, w64 (n := i + 1) (by omega) (by omega)]
              exact Ev.no (by omega) (Ev.yes (by omega) (ih _ (i + 1) (l ++ [f]) (by omega) (by omega) (by omega) (by omega) (okF_add hok g hn)))
      · rw [if_neg q] at hln
        rw [rdL_none hln]
        have x0 : (ct [13, 10] t).1 ≠ [] := by intro h; rw [h] at q; exact q rfl
        refine Ev.no x0 ?_
        obtain ⟨r, er, hr⟩ := readField_ev (ba (ct [13, 10] t).1) (by rw [ba_size]; omega)
        rw [ba_toL, fldL_cl (Bool.eq_false_iff.2 q)] at hr
        refine Ev.bind er ?_
        rcases hr with ⟨_, hf⟩ | ⟨f, hn, _⟩
        · exact Ev.no (by rw [hf]; simp) (Ev.now _)
        · cases hn
    · have hln := ln_false t (Bool.eq_false_iff.2 c)
      refine Ev.no c ?_
      by_cases q : cl (chop t) = true
      · rw [if_pos q] at hln
        rw [rdL_more hln]
        by_cases g : (s.size : Int) > 300
        · rw [endR_big g]; exact Ev.yes g (Ev.now _)
        · rw [endR_small g, ea]
          have er := restOk_ev (ba t) false (by rw [ba_size]; omega)
          rw [ba_toL] at er
          exact Ev.no g (Ev.bind er (Ev.yes (by unfold restB; rw [q]; rfl) (Ev.now _)))
      · rw [if_neg q] at hln
        rw [rdL_none hln]
        by_cases g : (s.size : Int) > 300
        · exact Ev.yes g (Ev.now _)
        · rw [ea]
          have er := restOk_ev (ba t) false (by rw [ba_size]; omega)
          rw [ba_toL] at er
          exact Ev.no g (Ev.bind er (Ev.no (by unfold restB; rw [Bool.eq_false_iff.2 q]; simp) (Ev.now _)))
theorem rd_impl (s : ByteArray) (hs : s.size ≤ 1048576) : Ev (fun k => impl_ReadHead.f k s) (rdH s.data.toList) := by
  simp only [impl_ReadHead.f]
  have hL := sizeL s
  refine Ev.succ ?_
  simp only [impl_ReadHead.l0]
  refine Ev.via (cut_crlf s (by omega)) ?_
  by_cases c : (ct [13, 10] s.data.toList).2.2 = true
  · have hln := ln_true _ c
    have hsh := ct_shrink c
    refine Ev.yes c (Ev.yes trivial (Ev.bind (isLine_ev _ (by rw [ba_size]; omega)) ?_))
    by_cases q : cl (ct [13, 10] s.data.toList).1 = true
    · rw [if_pos q] at hln
      by_cases g : lineB (ba (ct [13, 10] s.data.toList).1) = true
      · rw [rdH_go hln g, hL]
        have h1 : 0 < (ba (ct [13, 10] s.data.toList).1).size := by
          unfold lineB at g
          simp only [Bool.and_eq_true, decide_eq_true_iff] at g
          omega
        rw [show wrap64 (0 + 1) = 1 from by rw [w64 (by omega) (by omega)]; rfl]
        exact Ev.yes g (rd_impl_l s _ hs (by rw [ba_size]; omega) h1 s.size (ct [13, 10] s.data.toList).2.1 1 [] (by omega) (by omega) (by omega) (by omega) ⟨by simp, by simp⟩)
      · rw [rdH_bad hln g]; exact Ev.no g (Ev.now _)
    · rw [if_neg q] at hln
      rw [rdH_none hln]
      have : lineB (ba (ct [13, 10] s.data.toList).1) = false := by
        unfold lineB; rw [ba_toL, inB_cl (Bool.eq_false_iff.2 q), Bool.and_false]
      rw [this]
      exact Ev.no (by simp) (Ev.now _)
  · have hln := ln_false _ (Bool.eq_false_iff.2 c)
    refine Ev.no c ?_
    have er : Ev (fun k => impl_restOk.f k s ((⟨#[]⟩ : ByteArray).toList == ([] : List UInt8))) (restB s.data.toList true) := by
      rw [show ((⟨#[]⟩ : ByteArray).toList == ([] : List UInt8)) = true from by rw [toL]; rfl]
      exact restOk_ev s true (by omega)
    by_cases q : cl (chop s.data.toList) = true
    · rw [if_pos q] at hln
      by_cases g2 : (inB 32 126 (chop s.data.toList) && decide (((chop s.data.toList).length : Int) ≤ 80)) = true
      · rw [rdH_more hln g2, hL]
        by_cases g : (s.size : Int) > 300
        · rw [endR_big g]; exact Ev.yes g (Ev.now _)
        · rw [endR_small g]
          refine Ev.no g (Ev.bind er (Ev.yes ?_ (Ev.now _)))
          unfold restB
          rw [q, Bool.and_comm (decide _), g2]; rfl
      · rw [rdH_part hln g2]
        by_cases g : (s.size : Int) > 300
        · exact Ev.yes g (Ev.now _)
        · refine Ev.no g (Ev.bind er (Ev.no ?_ (Ev.now _)))
          unfold restB
          rw [q, Bool.and_comm (decide _), Bool.eq_false_iff.2 g2]; simp
    · rw [if_neg q] at hln
      rw [rdH_none hln]
      by_cases g : (s.size : Int) > 300
      · exact Ev.yes g (Ev.now _)
      · exact Ev.no g (Ev.bind er (Ev.no (by unfold restB; rw [Bool.eq_false_iff.2 q]; simp) (Ev.now _)))
theorem rd_spec_l (s : ByteArray) (a : ByteArray) (hs : s.size ≤ 1048576) (ha : a.size ≤ 1048576) (d : Nat) : ∀ (at_ : Nat) (l : List S40), s.size - at_ < d → 0 < at_ → at_ ≤ s.size → okF l → Ev (fun k => spec_ReadHead.l0 k s (at_ : Int) a l) (rdL s.size d (s.data.toList.drop at_) a l) := by
  induction d with
  | zero => intro at_ l h; omega
  | succ d ih =>
    intro at_ l hd h0 h1 hok
    have hz := okF_hsz hok.2
    have h8 := hok.1
    refine Ev.succ ?_
    simp only [spec_ReadHead.l0]
    refine Ev.yes (by omega) (Ev.bind (line_ev s at_ (by omega) h1) ?_)
    cases e : ln (s.data.toList.drop at_) with
    | none => rw [rdL_none e]; exact Ev.yes (show (-1 : Int) < 0 by decide) (Ev.now _)
    | some p =>
      obtain ⟨x, y⟩ := p
      obtain ⟨_, hx, hy⟩ := ln_take e
      rw [List.length_drop, sizeL] at hx
      cases y with
      | none =>
        rw [rdL_more e]
        refine Ev.no (by show ¬ (0 : Int) < 0; omega) (Ev.yes rfl ?_)
        by_cases g : (s.size : Int) > 300
        · rw [endR_big g]; exact Ev.yes g (Ev.now _)
        · rw [endR_small g]; exact Ev.no g (Ev.now _)
      | some y =>
        obtain ⟨hy1, hy2⟩ := hy y rfl
        rw [List.length_drop, sizeL] at hy2
        simp only [lnE, ba_list]
        refine Ev.no (by omega) (Ev.no (by omega) ?_)
        by_cases x0 : x = []
        · refine Ev.yes x0 (Ev.bind (headOk_spec a l (by omega) (by omega)) ?_)
          rw [x0] at e
          rw [rdL_done e]
          by_cases hb : headB a l = true
          · refine Ev.yes hb ?_
            by_cases g : ((s.size - y.length : Nat) : Int) > 300
            · rw [doneR_big g]; exact Ev.yes g (Ev.now _)
            · rw [doneR_ok hb g]; exact Ev.no g (Ev.now _)
          · rw [doneR_no hb]; exact Ev.no hb (Ev.now _)
        · refine Ev.no x0 ?_
          obtain ⟨r, er, hr⟩ := field_ev (ba x) (by rw [ba_size]; omega)
          rw [ba_toL] at hr
          refine Ev.bind er ?_
          rcases hr with ⟨hn, hf⟩ | ⟨f, hn, q1, q2, q3⟩
          · rw [rdL_bad e x0 hn]; exact Ev.no (by rw [hf]; simp) (Ev.now _)
          · refine Ev.yes q3 (Ev.yes (by omega) ?_)
            rw [q1, q2]
            refine Ev.via rfl ?_
            rw [List.length_append, List.length_singleton]
            by_cases g : l.length = 8
            · rw [rdL_full e x0 hn g]; exact Ev.yes (by omega) (Ev.now _)
            · rw [rdL_go e x0 hn g]
              have e2 : s.data.toList.drop (s.size - y.length) = y := by
                rw [List.drop_drop] at hy1
                rw [show s.size - y.length = at_ + (x.length + 2) by omega]; exact hy1
              have := ih (s.size - y.length) (l ++ [f]) (by omega) (by omega) (by omega) (okF_add hok g hn)
              rw [e2] at this
              exact Ev.no (by omega) this
theorem rd_spec (s : ByteArray) (hs : s.size ≤ 1048576) : Ev (fun k => spec_ReadHead.f k s) (rdH s.data.toList) := by
  simp only [spec_ReadHead.f]
  have hL := sizeL s
  have bad : ∀ x i, Ev (fun k => spec_ReadHead.j0 k s x i true) badR := fun x i => by
    refine Ev.succ ?_
    simp only [spec_ReadHead.j0]; exact Ev.yes trivial (Ev.now _)
  have hl := line_ev s 0 (by omega) (by omega)
  rw [List.drop_zero] at hl
  refine Ev.bind hl ?_
  cases e : ln s.data.toList with
  | none => rw [rdH_none e]; exact Ev.yes (show (-1 : Int) < 0 by decide) (bad _ _)
  | some p =>
    obtain ⟨x, y⟩ := p
    obtain ⟨_, hx, hy⟩ := ln_take e
    rw [sizeL] at hx
    cases y with
    | none =>
      refine Ev.no (by show ¬ (0 : Int) < 0; omega) ?_
      simp only [lnE]
      have hp := plain_spec (ba x) 80 (by rw [ba_size]; omega)
      rw [ba_toL, ba_size] at hp
      refine Ev.bind hp ?_
      by_cases c : (inB 32 126 x && decide ((x.length : Int) ≤ 80)) = true
      · rw [rdH_more e c, hL]
        refine Ev.yes c (Ev.no (by omega) (Ev.succ ?_))
        simp only [spec_ReadHead.j0]
        refine Ev.no (by simp) (Ev.succ ?_)
        simp only [spec_ReadHead.l0]
        refine Ev.no (by omega) ?_
        by_cases g : (s.size : Int) > 300
        · rw [endR_big g]; exact Ev.yes g (Ev.now _)
        · rw [endR_small g]; exact Ev.no g (Ev.now _)
      · rw [rdH_part e c]; exact Ev.no c (bad _ _)
    | some y =>
      obtain ⟨hy1, hy2⟩ := hy y rfl
      rw [sizeL] at hy2
      simp only [lnE]
      refine Ev.no (by omega) ?_
      have hp := plain_spec (ba x) 80 (by rw [ba_size]; omega)
      rw [ba_toL, ba_size] at hp
      refine Ev.bind hp ?_
      by_cases c : (inB 32 126 x && decide ((x.length : Int) ≤ 80)) = true
      · refine Ev.yes c (Ev.yes (by omega) ?_)
        rw [ba_list]
        simp only [Bool.and_eq_true, decide_eq_true_iff] at c
        by_cases x0 : x = []
        · subst x0
          rw [rdH_bad e (by decide)]
          exact bad _ _
        · have hx0 : 0 < x.length := List.length_pos_iff.2 x0
          rw [rdH_go e (by unfold lineB; rw [ba_size, ba_toL, c.1, decide_eq_true ⟨by omega, c.2⟩]; rfl), hL, show (x == ([] : List UInt8)) = false from beq_eq_false_iff_ne.2 x0]
          refine Ev.succ ?_
          simp only [spec_ReadHead.j0]
          have e2 : s.data.toList.drop (s.size - y.length) = y := by rw [show s.size - y.length = x.length + 2 by omega]; exact hy1
          have := rd_spec_l s (ba x) hs (by rw [ba_size]; omega) s.size (s.size - y.length) [] (by omega) (by omega) (by omega) ⟨by simp, by simp⟩
          rw [e2] at this
          exact Ev.no (by simp) this
      · rw [rdH_bad e (by
          unfold lineB; rw [ba_size, ba_toL]
          intro h
          simp only [Bool.and_eq_true, decide_eq_true_iff] at h
          exact c (by rw [h.2, decide_eq_true h.1.2]; rfl))]
        exact Ev.no c (bad _ _)
end Go.Proofs.YtiibecpllokhiaaDoor.Q
namespace Go.Proofs.YtiibecpllokhiaaDoor.Q
open Go.RowKit Go.Proofs.YtiibecpllokhiaaDoorW.PrintWords Go.Proofs.YtiibecpllokhiaaDoorW.PrintLast Go.Proofs.YtiibecpllokhiaaDoorW.PrintMore
theorem mark_l (d : Nat) : ∀ (x : Nat) (s : ByteArray), x ≤ d → s.size + d ≤ 4611686018427387904 → ∃ r, Ev (fun k => laws_markText.l0 k (x : Int) s) r := by
  induction d with
  | zero =>
    intro x s hx hs
    obtain rfl : x = 0 := by omega
    refine ⟨(⟨#[109]⟩ : ByteArray) ++ s, Ev.succ ?_⟩
    simp only [laws_markText.l0]
    exact Ev.no (by omega) (Ev.yes (by omega) (Ev.now _))
  | succ d ih =>
    intro x s hx hs
    by_cases c : x = 0
    · subst c
      refine ⟨(⟨#[109]⟩ : ByteArray) ++ s, Ev.succ ?_⟩
      simp only [laws_markText.l0]
      exact Ev.no (by omega) (Ev.yes (by omega) (Ev.now _))
    · have hd : Int.tdiv (x : Int) 10 = ((x / 10 : Nat) : Int) := by rw [Int.tdiv_eq_ediv_of_nonneg (by omega)]; rfl
      have hz : ∀ n : Int, (strOfNums [n]).size = 1 := fun n => rfl
      obtain ⟨r, hr⟩ := ih (x / 10) (strOfNums [(wrap64 (48 + (Int.tmod (x : Int) 10))) % 256] ++ s) (by omega) (by rw [ByteArray.size_append, hz]; omega)
      refine ⟨r, Ev.succ ?_⟩
      simp only [laws_markText.l0, Option.bind_some]
      rw [hd, w64 (n := ((x / 10 : Nat) : Int)) (by omega) (by omega)]
      exact Ev.yes (by omega) (Ev.yes (by rw [hz]; omega) hr)
theorem mark_ev (m : Int) (h0 : 0 < m) (h1 : m ≤ 1000000) : ∃ r, Ev (fun k => laws_markText.f k m) r := by
  obtain ⟨r, hr⟩ := mark_l 1000000 m.toNat (⟨#[]⟩ : ByteArray) (by omega) (by show 0 + 1000000 ≤ _; omega)
  rw [show ((m.toNat : Nat) : Int) = m by omega] at hr
  refine ⟨r, ?_⟩
  simp only [laws_markText.f]
  exact Ev.no (by omega) hr
/-- Each mark's text. -/
def IsM (M : Int → ByteArray) : Prop := ∀ m : Int, 0 < m → m ≤ 1000000 → Ev (fun k => laws_markText.f k m) (M m)
theorem marks : ∃ M, IsM M := by
  have h : ∀ m : Int, ∃ r, 0 < m → m ≤ 1000000 → Ev (fun k => laws_markText.f k m) r := fun m => by
    by_cases c : 0 < m ∧ m ≤ 1000000
    · obtain ⟨r, hr⟩ := mark_ev m c.1 c.2; exact ⟨r, fun _ _ => hr⟩
    · exact ⟨⟨#[]⟩, fun a b => absurd ⟨a, b⟩ c⟩
  exact ⟨fun m => Classical.choose (h m), fun m => Classical.choose_spec (h m)⟩
def mkl (M : Int → ByteArray) : Int → List S40 → List S40
  | _, [] => []
  | m, _ :: r => ⟨M m, M (m + 1)⟩ :: mkl M (m + 2) r
theorem mkl_len (M : Int → ByteArray) (l : List S40) : ∀ m, (mkl M m l).length = l.length := by
  induction l with
  | nil => intro m; rfl
  | cons f r ih => intro m; rw [mkl, List.length_cons, List.length_cons, ih]
theorem rd_at (p : List S40) (f : S40) (r : List S40) : rd_T40 (p ++ f :: r) (p.length : Int) = f := by simp [rd_T40]
theorem mark_fields {M : Int → ByteArray} (hM : IsM M) (l : List S40) : ∀ (p : List S40) (m : Int), 0 < m → m + 2 * l.length ≤ 100000 → p.length + l.length ≤ 1000000 → Ev (fun k => laws_markFieldS.l0 k (p ++ l) m (p.length : Int)) (m + 2 * l.length, p ++ mkl M m l) := by
  induction l with
  | nil =>
    intro p m h0 h1 h2
    refine Ev.succ ?_
    simp only [laws_markFieldS.l0, mkl, List.append_nil, List.length_nil]
    exact Ev.no (by omega) (by rw [show m + 2 * ((0 : Nat) : Int) = m by omega]; exact Ev.now _)
  | cons f r ih =>
    intro p m h0 h1 h2
    rw [List.length_cons] at h1 h2
    refine Ev.succ ?_
    simp only [laws_markFieldS.l0]
    have e1 : ∀ g : S40, (p ++ f :: r).set p.length g = p ++ g :: r := fun g => by simp
    have e2 : ∀ g h : S40, (p ++ h :: r).set p.length g = p ++ g :: r := fun g h => by simp
    have hl : (p ++ f :: r).length = p.length + r.length + 1 := by simp; omega
    rw [hl, wnat p.length (p.length + r.length + 1) (by omega) (by omega), w64 (n := m + 1) (by omega) (by omega), w64 (n := m + 1 + 1) (by omega) (by omega)]
    refine Ev.yes (by omega) (Ev.bind (hM m (by omega) (by omega)) (Ev.yes (by omega) (Ev.via rfl (Ev.bind (hM (m + 1) (by omega) (by omega)) ?_))))
    rw [Int.toNat_natCast, e1, e2]
    simp only [rd_at]
    have h := ih (p ++ [(⟨M m, M (m + 1)⟩ : S40)]) (m + 2) (by omega) (by omega) (by rw [List.length_append, List.length_singleton]; omega)
    rw [List.append_assoc, List.append_assoc, List.length_append, List.length_singleton, show m + 2 + 2 * (r.length : Int) = m + 2 * ((r.length + 1 : Nat) : Int) by omega] at h
    rw [show m + 1 + 1 = m + 2 by omega, List.length_cons, mkl]
    exact h
theorem held_fields {M : Int → ByteArray} (hM : IsM M) (l : List S40) : ∀ (p : List S40) (m : Int), 0 < m → m + 2 * l.length ≤ 100000 → p.length + l.length ≤ 1000000 → Ev (fun k => laws_heldFieldS.l0 k (p ++ mkl M m l) m (p.length : Int)) (m + 2 * l.length) := by
  induction l with
  | nil =>
    intro p m h0 h1 h2
    refine Ev.succ ?_
    simp only [laws_heldFieldS.l0, mkl, List.append_nil, List.length_nil]
    exact Ev.no (by omega) (by rw [show m + 2 * ((0 : Nat) : Int) = m by omega]; exact Ev.now _)
  | cons f r ih =>
    intro p m h0 h1 h2
    rw [List.length_cons] at h1 h2
    rw [mkl]
    refine Ev.succ ?_
    simp only [laws_heldFieldS.l0]
    have hl : (p ++ (⟨M m, M (m + 1)⟩ : S40) :: mkl M (m + 2) r).length = p.length + r.length + 1 := by rw [List.length_append, List.length_cons, mkl_len]; omega
    rw [hl, rd_at, wnat p.length (p.length + r.length + 1) (by omega) (by omega), w64 (n := m + 1) (by omega) (by omega), w64 (n := m + 1 + 1) (by omega) (by omega)]
    refine Ev.yes (by omega) (Ev.yes (by omega) (Ev.bind (hM m (by omega) (by omega)) (Ev.yes rfl (Ev.bind (hM (m + 1) (by omega) (by omega)) (Ev.yes rfl ?_)))))
    have h := ih (p ++ [(⟨M m, M (m + 1)⟩ : S40)]) (m + 2) (by omega) (by omega) (by rw [List.length_append, List.length_singleton]; omega)
    rw [List.append_assoc, List.length_append, List.length_singleton, show m + 2 + 2 * (r.length : Int) = m + 2 * ((r.length + 1 : Nat) : Int) by omega] at h
    rw [show m + 1 + 1 = m + 2 by omega, List.length_cons]
    exact h
theorem mark_head {M : Int → ByteArray} (hM : IsM M) (a : ByteArray) (l : List S40) (hl : l.length ≤ 1000) : Ev (fun k => laws_markHead.f k a l 1) (1 + 2 * l.length, mkl M 1 l) := by
  simp only [laws_markHead.f, laws_markFieldS.f]
  exact Ev.bind (mark_fields hM l [] 1 (by omega) (by omega) (by simp; omega)) (Ev.now _)
theorem held_head {M : Int → ByteArray} (hM : IsM M) (a : ByteArray) (l : List S40) (hl : l.length ≤ 1000) : Ev (fun k => laws_heldHead.f k a (mkl M 1 l) 1) (1 + 2 * l.length) := by
  simp only [laws_heldHead.f, laws_heldFieldS.f]
  exact Ev.bind (held_fields hM l [] 1 (by omega) (by omega) (by simp; omega)) (Ev.no (by omega) (Ev.now _))
end Go.Proofs.YtiibecpllokhiaaDoor.Q
namespace Go.Proofs.YtiibecpllokhiaaDoor.Q
open Go.RowKit Go.Proofs.YtiibecpllokhiaaDoorW.PrintWords Go.Proofs.YtiibecpllokhiaaDoorW.PrintLast Go.Proofs.YtiibecpllokhiaaDoorW.PrintMore
theorem rdL_len (n : Nat) (d : Nat) : ∀ (t : List UInt8) (a : ByteArray) (l : List S40), l.length ≤ 8 → (rdL n d t a l).2.1.length ≤ 8 := by
  have e : ∀ m, (endR m).2.1.length ≤ 8 := fun m => by unfold endR; split <;> exact Nat.zero_le _
  induction d with
  | zero => intro t a l h; exact Nat.zero_le _
  | succ d ih =>
    intro t a l h
    rw [rdL]
    split
    · exact Nat.zero_le _
    · exact e _
    · split
      · unfold doneR; split
        · exact h
        · exact Nat.zero_le _
      · split
        · exact Nat.zero_le _
        · split
          · exact Nat.zero_le _
          · exact ih _ _ _ (by rw [List.length_append, List.length_singleton]; omega)
theorem rdH_len (t : List UInt8) : (rdH t).2.1.length ≤ 8 := by
  have e : ∀ m, (endR m).2.1.length ≤ 8 := fun m => by unfold endR; split <;> exact Nat.zero_le _
  unfold rdH
  split
  · exact Nat.zero_le _
  · split
    · exact e _
    · exact Nat.zero_le _
  · split
    · exact rdL_len _ _ _ _ _ (by simp)
    · exact Nat.zero_le _
theorem pureReadHead (s : ByteArray) (_ : s.size ≤ maxLen) : ∃ k, laws_FnExactReadHead.f k s = some true := by
  refine Ev.rounds (g := fun k => laws_FnExactReadHead.f k s) ?_
  simp only [laws_FnExactReadHead.f]
  by_cases c : (s.size : Int) > 1048576
  · exact Ev.yes c (Ev.now _)
  obtain ⟨M, hM⟩ := marks
  have hl := rdH_len s.data.toList
  have hi := rd_impl s (by omega)
  have he := eq_head (rdH s.data.toList).1 (rdH s.data.toList).2.1 (by omega)
  have hm := mark_head hM (rdH s.data.toList).1 (rdH s.data.toList).2.1 (by omega)
  have hh := held_head hM (rdH s.data.toList).1 (rdH s.data.toList).2.1 (by omega)
  refine Ev.no c (Ev.bind (rd_spec s (by omega)) (Ev.bind hi (Ev.bind he (Ev.yes rfl (Ev.yes rfl (Ev.succ ?_))))))
  simp only [laws_FnExactReadHead.j0]
  refine Ev.no (by simp) (Ev.bind hm (Ev.bind hh (Ev.no (by omega) (Ev.yes rfl (Ev.bind hi (Ev.bind he (Ev.yes rfl (Ev.yes rfl (Ev.succ ?_)))))))))
  simp only [laws_FnExactReadHead.j1]
  exact Ev.no (by simp) (Ev.bind hh (Ev.no (by omega) (Ev.yes rfl (Ev.now _))))
end Go.Proofs.YtiibecpllokhiaaDoor.Q
