import Derived.Test.YtiibecpllokhiaaDoorLiWords
import Derived.Lib.Strings
import Derived.Test.YtiibecpllokhiaaDoorLiG65
import Derived.Test.YtiibecpllokhiaaDoorLiG68
import Derived.Test.YtiibecpllokhiaaDoorLiG31
import Derived.Test.YtiibecpllokhiaaDoorLiG33
import Derived.Test.YtiibecpllokhiaaDoorLiG111
import Derived.Lib.AtoiAll
import Derived.Lib.ItoaNum
import Derived.Test.YtiibecpllokhiaaDoorLiG100
import Derived.Test.YtiibecpllokhiaaDoorLiG71
import Derived.Test.YtiibecpllokhiaaDoorLiG13
import Derived.Test.YtiibecpllokhiaaDoorLiG18
import Derived.Test.YtiibecpllokhiaaDoorLiG58
import Derived.Test.YtiibecpllokhiaaDoorLiG56
import Derived.Test.YtiibecpllokhiaaDoorLiG20
import Derived.Test.YtiibecpllokhiaaDoorLiG61
import Derived.Test.YtiibecpllokhiaaDoorLiG92
import Derived.Test.YtiibecpllokhiaaDoorLiG62
import Derived.Test.YtiibecpllokhiaaDoorLiG28
import Derived.Test.YtiibecpllokhiaaDoorLiG49
import Derived.Test.YtiibecpllokhiaaDoorLiG15
import Derived.Test.YtiibecpllokhiaaDoorLiG79
import Derived.Test.YtiibecpllokhiaaDoorLiG99
import Derived.Test.YtiibecpllokhiaaDoorLiG77
namespace Go.Proofs.YtiibecpllokhiaaDoor.Q
open Go.RowKit Go.Proofs.YtiibecpllokhiaaDoorW.PrintWords Go.Proofs.YtiibecpllokhiaaDoorW.PrintLast Go.Proofs.YtiibecpllokhiaaDoorW.PrintMore
/-- With enough rounds g tells something of which P holds. -/
def EvP {α : Type} (g : Nat → Option α) (P : α → Prop) : Prop := ∃ r, Ev g r ∧ P r
theorem Ev.succ {α : Type} {g : Nat → Option α} {r : α} (h : Ev (fun k => g (k + 1)) r) : Ev g r := Ev.step (fun _ => rfl) h
theorem Ev.yes {α : Type} {f g : Nat → Option α} {r : α} {c : Prop} [Decidable c] (hc : c) (h : Ev f r) : Ev (fun k => if c then f k else g k) r := Ev.congr (fun _ => if_pos hc) h
theorem Ev.no {α : Type} {f g : Nat → Option α} {r : α} {c : Prop} [Decidable c] (hc : ¬ c) (h : Ev g r) : Ev (fun k => if c then f k else g k) r := Ev.congr (fun _ => if_neg hc) h
theorem Ev.via {α β : Type} {g : Option α} {f : Nat → α → Option β} {a : α} {r : β} (h : g = some a) (k : Ev (fun n => f n a) r) : Ev (fun n => g.bind (f n)) r := Ev.congr (fun _ => by rw [h]; rfl) k
theorem Ev.const {α : Type} {g : Option α} {a : α} (h : g = some a) : Ev (fun _ => g) a := ⟨0, fun _ _ => h⟩
theorem EvP.bind {α β : Type} {g : Nat → Option α} {f : Nat → α → Option β} {P : α → Prop} {Q : β → Prop} (h : EvP g P) (k : ∀ a, P a → EvP (fun n => f n a) Q) : EvP (fun n => (g n).bind (f n)) Q := by
  obtain ⟨a, ha, hp⟩ := h
  obtain ⟨r, hr, hq⟩ := k a hp
  exact ⟨r, Ev.bind ha hr, hq⟩
theorem EvP.ite {α : Type} {f g : Nat → Option α} {P : α → Prop} {c : Prop} [Decidable c] (h1 : c → EvP f P) (h2 : ¬ c → EvP g P) : EvP (fun k => if c then f k else g k) P := by
  by_cases hc : c
  · obtain ⟨r, hr, hp⟩ := h1 hc; exact ⟨r, Ev.yes hc hr, hp⟩
  · obtain ⟨r, hr, hp⟩ := h2 hc; exact ⟨r, Ev.no hc hr, hp⟩
theorem EvP.yes {α : Type} {f g : Nat → Option α} {P : α → Prop} {c : Prop} [Decidable c] (hc : c) (h : EvP f P) : EvP (fun k => if c then f k else g k) P := EvP.ite (fun _ => h) (fun hn => absurd hc hn)
theorem EvP.no {α : Type} {f g : Nat → Option α} {P : α → Prop} {c : Prop} [Decidable c] (hc : ¬ c) (h : EvP g P) : EvP (fun k => if c then f k else g k) P := EvP.ite (fun hn => absurd hn hc) (fun _ => h)
theorem EvP.ret {α : Type} {a : α} {P : α → Prop} (h : P a) : EvP (fun _ => some a) P := ⟨a, Ev.now a, h⟩
theorem EvP.ev {α : Type} {g : Nat → Option α} {r : α} {P : α → Prop} (h : Ev g r) (hp : P r) : EvP g P := ⟨r, h, hp⟩
theorem EvP.const {α : Type} {g : Option α} {a : α} {P : α → Prop} (h : g = some a) (hp : P a) : EvP (fun _ => g) P := ⟨a, Ev.const h, hp⟩
theorem EvP.succ {α : Type} {g : Nat → Option α} {P : α → Prop} (h : EvP (fun k => g (k + 1)) P) : EvP g P := by
  obtain ⟨r, hr, hp⟩ := h
  exact ⟨r, Ev.succ hr, hp⟩
theorem EvP.imp {α : Type} {g : Nat → Option α} {P Q : α → Prop} (h : EvP g P) (k : ∀ r, P r → Q r) : EvP g Q := by
  obtain ⟨r, hr, hp⟩ := h
  exact ⟨r, hr, k r hp⟩
theorem EvP.is {α : Type} {g : Nat → Option α} {r : α} (h : EvP g (fun x => x = r)) : Ev g r := by
  obtain ⟨_, hr, rfl⟩ := h
  exact hr
end Go.Proofs.YtiibecpllokhiaaDoor.Q
namespace Go.Proofs.YtiibecpllokhiaaDoor.Q
open Go.RowKit Go.Proofs.YtiibecpllokhiaaDoorW.PrintWords Go.Proofs.YtiibecpllokhiaaDoorW.PrintLast Go.Proofs.YtiibecpllokhiaaDoorW.PrintMore
theorem w64 {n : Int} (h0 : -9223372036854775808 ≤ n) (h1 : n < 9223372036854775808) : wrap64 n = n := by unfold wrap64; omega
theorem wnat (i n : Nat) (h : i < n) (hn : n ≤ 9223372036854775807) : wrap64 ((i : Int) + 1) = ((i + 1 : Nat) : Int) := by rw [w64 (by omega) (by omega)]; rfl
theorem rd_get (l : List Int) (i : Nat) (h : i < l.length) : rd l i = l[i] := by simp [rd, h]
theorem drop_get {α : Type} (l : List α) (i : Nat) (h : i < l.length) : l.drop i = l[i] :: l.drop (i + 1) := List.drop_eq_getElem_cons h
theorem take_set {α : Type} (x : List α) (i : Nat) (v : α) (h : i < x.length) : (x.set i v).take (i + 1) = x.take i ++ [v] := by
  have h2 : i < (x.set i v).length := by rw [List.length_set]; exact h
  rw [List.take_succ_eq_append_getElem h2, List.take_set, List.set_eq_of_length_le (by simp; omega)]
  simp
theorem toL (s : ByteArray) : s.toList = s.data.toList := Lib.toList_data s
theorem sizeL (s : ByteArray) : s.data.toList.length = s.size := (Lib.size_eq s).symm
theorem ba_ext {s t : ByteArray} (h : s.data.toList = t.data.toList) : s = t := ByteArray.ext (Array.toList_inj.1 h)
theorem ext_size (s : ByteArray) (a b : Nat) (h : b ≤ s.size) : (s.extract a b).size = b - a := by
  rw [← sizeL, Lib.extract_data, List.length_take, List.length_drop, sizeL]; omega
theorem bt_get (s : ByteArray) (i : Nat) (h : i < s.size) : bt s (i : Int) = ((s.data.toList[i]'(by rw [sizeL]; exact h)).toNat : Int) := by simp [bt, h]; rfl
theorem bt_rng (s : ByteArray) (i : Int) : 0 ≤ bt s i ∧ bt s i ≤ 255 := bt_range s i
/-- Are all bytes in lo .. hi. -/
def inB (lo hi : Int) (l : List UInt8) : Bool := l.all fun b => decide (lo ≤ (b.toNat : Int) ∧ (b.toNat : Int) ≤ hi)
end Go.Proofs.YtiibecpllokhiaaDoor.Q
namespace Go.Proofs.YtiibecpllokhiaaDoor.Q
open Go.RowKit Go.Proofs.YtiibecpllokhiaaDoorW.PrintWords Go.Proofs.YtiibecpllokhiaaDoorW.PrintLast Go.Proofs.YtiibecpllokhiaaDoorW.PrintMore
theorem in_spec (a b c : Int) : spec_l01In.f a b c = some (decide (b ≤ a ∧ a ≤ c)) := by
  unfold spec_l01In.f
  by_cases h : a ≥ b
  · rw [if_pos h]; simp [show b ≤ a from h]
  · rw [if_neg h]; simp [show ¬ b ≤ a from h]
theorem in_impl (a b c : Int) : impl_within.f a b c = some (decide (b ≤ a ∧ a ≤ c)) := by
  unfold impl_within.f
  by_cases h : a ≥ b
  · rw [if_pos h]; simp [show b ≤ a from h]
  · rw [if_neg h]; simp [show ¬ b ≤ a from h]
end Go.Proofs.YtiibecpllokhiaaDoor.Q
namespace Go.Proofs.YtiibecpllokhiaaDoor.Q
open Go.RowKit Go.Proofs.YtiibecpllokhiaaDoorW.PrintWords Go.Proofs.YtiibecpllokhiaaDoorW.PrintLast Go.Proofs.YtiibecpllokhiaaDoorW.PrintMore
theorem bytesIn_l (s : ByteArray) (lo hi : Int) (hs : s.size ≤ 9223372036854775807) (d : Nat) : ∀ i : Nat, i ≤ s.size → s.size - i = d → Ev (fun k => impl_bytesIn.l0 k s lo hi (s.size : Int) (i : Int)) (inB lo hi (s.data.toList.drop i)) := by
  induction d with
  | zero =>
    intro i hi_ hd
    refine Ev.succ ?_
    simp only [impl_bytesIn.l0]
    rw [List.drop_eq_nil_of_le (by rw [sizeL]; omega)]
    exact Ev.no (by omega) (Ev.now _)
  | succ d ih =>
    intro i hi_ hd
    have hlt : i < s.size := by omega
    have hb := bt_rng s i
    refine Ev.succ ?_
    simp only [impl_bytesIn.l0]
    rw [w64 (n := bt s i) (by omega) (by omega), wnat i _ hlt hs, drop_get _ i (by rw [sizeL]; exact hlt)]
    simp only [in_impl, Option.bind_some]
    refine Ev.yes (by omega) (Ev.yes (by omega) (Ev.yes (by omega) ?_))
    rw [bt_get s i hlt]
    by_cases c : lo ≤ ((s.data.toList[i]'(by rw [sizeL]; exact hlt)).toNat : Int) ∧ ((s.data.toList[i]'(by rw [sizeL]; exact hlt)).toNat : Int) ≤ hi
    · refine Ev.yes (decide_eq_true c) ?_
      rw [show inB lo hi (s.data.toList[i]'(by rw [sizeL]; exact hlt) :: s.data.toList.drop (i + 1)) = inB lo hi (s.data.toList.drop (i + 1)) from by simp only [inB, List.all_cons]; rw [decide_eq_true c, Bool.true_and]]
      exact ih (i + 1) (by omega) (by omega)
    · refine Ev.no (by simpa using c) ?_
      rw [show inB lo hi (s.data.toList[i]'(by rw [sizeL]; exact hlt) :: s.data.toList.drop (i + 1)) = false from by simp only [inB, List.all_cons]; rw [decide_eq_false c, Bool.false_and]]
      exact Ev.now _
theorem bytesIn_ev (s : ByteArray) (lo hi : Int) (hs : s.size ≤ 9223372036854775807) : Ev (fun k => impl_bytesIn.f k s lo hi) (inB lo hi s.data.toList) := bytesIn_l s lo hi hs s.size 0 (by omega) (by omega)
end Go.Proofs.YtiibecpllokhiaaDoor.Q
namespace Go.Proofs.YtiibecpllokhiaaDoor.Q
open Go.RowKit Go.Proofs.YtiibecpllokhiaaDoorW.PrintWords Go.Proofs.YtiibecpllokhiaaDoorW.PrintLast Go.Proofs.YtiibecpllokhiaaDoorW.PrintMore
def pre (s p : ByteArray) : Bool := decide (p.size ≤ s.size) && ((s.extract 0 p.size).toList == p.toList)
def suf (s p : ByteArray) : Bool := decide (p.size ≤ s.size) && ((s.extract (s.size - p.size) s.size).toList == p.toList)
theorem cutPrefix_eq (s p : ByteArray) : strings_CutPrefix.f s p = some (if pre s p = true then (s.extract p.size s.size, true) else (s, false)) := by
  simp only [strings_CutPrefix.f, stringslite_CutPrefix.f, stringslite_HasPrefix.f, Int.toNat_natCast]
  by_cases c : (s.size : Int) ≥ (p.size : Int)
  · rw [if_pos c, if_pos (by omega), if_pos (by omega)]
    simp only [Option.bind_some]
    have e : pre s p = ((s.extract 0 p.size).toList == p.toList) := by rw [pre, decide_eq_true (by omega), Bool.true_and]
    rw [e]
    by_cases c2 : ((s.extract 0 p.size).toList == p.toList) = true
    · rw [if_pos c2, if_pos (by omega), if_pos (by omega), if_pos c2]; rfl
    · rw [if_neg c2, if_neg c2]; rfl
  · rw [if_neg c]
    have e : pre s p = false := by rw [pre, decide_eq_false (by omega), Bool.false_and]
    simp only [Option.bind_some, e]
    rw [if_neg (by simp), if_neg (by simp)]; rfl
theorem cutSuffix_eq (s p : ByteArray) (hs : s.size ≤ 9223372036854775807) : strings_CutSuffix.f s p = some (if suf s p = true then (s.extract 0 (s.size - p.size), true) else (s, false)) := by
  simp only [strings_CutSuffix.f, stringslite_CutSuffix.f, stringslite_HasSuffix.f]
  by_cases c : (s.size : Int) ≥ (p.size : Int)
  · have hw : wrap64 ((s.size : Int) - (p.size : Int)) = ((s.size - p.size : Nat) : Int) := by rw [w64 (by omega) (by omega)]; omega
    rw [if_pos c, hw, if_pos (by omega), if_pos (by omega)]
    simp only [Option.bind_some, Int.toNat_natCast]
    have e : suf s p = ((s.extract (s.size - p.size) s.size).toList == p.toList) := by rw [suf, decide_eq_true (by omega), Bool.true_and]
    rw [e]
    by_cases c2 : ((s.extract (s.size - p.size) s.size).toList == p.toList) = true
    · rw [if_pos c2, if_pos (by omega), if_pos (by omega), if_pos c2]; rfl
    · rw [if_neg c2, if_neg c2]; rfl
  · rw [if_neg c]
    have e : suf s p = false := by rw [suf, decide_eq_false (by omega), Bool.false_and]
    simp only [Option.bind_some, e]
    rw [if_neg (by simp), if_neg (by simp)]; rfl
theorem ext_ext (s : ByteArray) (a b c d : Nat) (_ : b ≤ s.size) (h2 : d ≤ b - a) : (s.extract a b).extract c d = s.extract (a + c) (a + d) := by
  apply ba_ext
  simp only [Lib.extract_data]
  rw [List.drop_take, List.take_take, List.drop_drop, Nat.min_eq_left (by omega), show a + d - (a + c) = d - c by omega]
end Go.Proofs.YtiibecpllokhiaaDoor.Q
namespace Go.Proofs.YtiibecpllokhiaaDoor.Q
open Go.RowKit Go.Proofs.YtiibecpllokhiaaDoorW.PrintWords Go.Proofs.YtiibecpllokhiaaDoorW.PrintLast Go.Proofs.YtiibecpllokhiaaDoorW.PrintMore
def ans (b : Bool) (t : ByteArray) : ByteArray × Bool := if b = true then (t, true) else ((⟨#[]⟩ : ByteArray), false)
/-- Is it a target. -/
def tgtB (t : ByteArray) : Bool := inB 33 126 t.data.toList && (decide (t.size ≤ 20) && decide (bt t 0 = 47))
def tgtF (s : ByteArray) : ByteArray × Bool :=
  ans (pre s (⟨#[71, 69, 84, 32]⟩ : ByteArray) && (decide (14 ≤ s.size) && (decide ((s.extract (s.size - 9) s.size).toList = ([32, 72, 84, 84, 80, 47, 49, 46, 49] : List UInt8)) && tgtB (s.extract 4 (s.size - 9))))) (s.extract 4 (s.size - 9))
theorem getL : (⟨#[71, 69, 84, 32]⟩ : ByteArray).toList = ([71, 69, 84, 32] : List UInt8) := by rw [toL]
theorem httpL : (⟨#[32, 72, 84, 84, 80, 47, 49, 46, 49]⟩ : ByteArray).toList = ([32, 72, 84, 84, 80, 47, 49, 46, 49] : List UInt8) := by rw [toL]
theorem tgt_spec_l (t : ByteArray) (ht : 1 ≤ t.size) (hs : t.size ≤ 9223372036854775807) (d : Nat) : ∀ i : Nat, i ≤ t.size → t.size - i = d → Ev (fun k => spec_TargetOf.l0 k t (i : Int)) (ans (inB 33 126 (t.data.toList.drop i) && (decide (t.size ≤ 20) && decide (bt t 0 = 47))) t) := by
  induction d with
  | zero =>
    intro i hi hd
    refine Ev.succ ?_
    simp only [spec_TargetOf.l0]
    rw [List.drop_eq_nil_of_le (by rw [sizeL]; omega), show inB 33 126 [] = true from rfl, Bool.true_and]
    simp only [in_spec, Option.bind_some]
    refine Ev.no (by omega) ?_
    by_cases c : t.size ≤ 20
    · refine Ev.yes (decide_eq_true ⟨by omega, by omega⟩) (Ev.yes (by omega) ?_)
      rw [decide_eq_true c, Bool.true_and]
      by_cases c2 : bt t 0 = 47
      · rw [decide_eq_true c2]; exact Ev.yes c2 (Ev.now _)
      · rw [decide_eq_false c2]; exact Ev.no c2 (Ev.now _)
    · rw [decide_eq_false c, Bool.false_and]
      exact Ev.no (by simp; omega) (Ev.now _)
  | succ d ih =>
    intro i hi hd
    have hlt : i < t.size := by omega
    have hb := bt_get t i hlt
    refine Ev.succ ?_
    simp only [spec_TargetOf.l0]
    rw [wnat i _ hlt hs, drop_get _ i (by rw [sizeL]; exact hlt)]
    have e : inB 33 126 (t.data.toList[i]'(by rw [sizeL]; exact hlt) :: t.data.toList.drop (i + 1)) = (decide (33 ≤ bt t i ∧ bt t i ≤ 126) && inB 33 126 (t.data.toList.drop (i + 1))) := by rw [hb]; rfl
    rw [e]
    refine Ev.yes (by omega) (Ev.yes (by omega) ?_)
    by_cases c1 : bt t i < 33
    · rw [decide_eq_false (show ¬ (33 ≤ bt t i ∧ bt t i ≤ 126) by omega), Bool.false_and, Bool.false_and]; exact Ev.yes c1 (Ev.now _)
    · refine Ev.no c1 ?_
      by_cases c2 : bt t i > 126
      · rw [decide_eq_false (show ¬ (33 ≤ bt t i ∧ bt t i ≤ 126) by omega), Bool.false_and, Bool.false_and]; exact Ev.yes c2 (Ev.now _)
      · rw [decide_eq_true (show 33 ≤ bt t i ∧ bt t i ≤ 126 from ⟨by omega, by omega⟩), Bool.true_and]
        exact Ev.no c2 (ih (i + 1) (by omega) (by omega))
theorem target_spec (s : ByteArray) (l : List S40) (hs : s.size ≤ 1048576) : Ev (fun k => spec_TargetOf.f k s l) (tgtF s) := by
  have jt : Ev (fun k => spec_TargetOf.j0 k s true) ((⟨#[]⟩ : ByteArray), false) := by
    refine Ev.succ ?_
    simp only [spec_TargetOf.j0]; exact Ev.yes trivial (Ev.now _)
  simp only [spec_TargetOf.f, tgtF]
  by_cases c : (s.size : Int) < 14
  · refine Ev.yes c ?_
    rw [decide_eq_false (show ¬ 14 ≤ s.size by omega), Bool.false_and, Bool.and_false]; exact jt
  · have hw : wrap64 ((s.size : Int) - 9) = ((s.size - 9 : Nat) : Int) := by rw [w64 (by omega) (by omega)]; omega
    refine Ev.no c (Ev.yes (by omega) ?_)
    have ep : pre s (⟨#[71, 69, 84, 32]⟩ : ByteArray) = decide ((s.extract 0 4).toList = ([71, 69, 84, 32] : List UInt8)) := by
      rw [pre, getL, show (⟨#[71, 69, 84, 32]⟩ : ByteArray).size = 4 from rfl, decide_eq_true (by omega), Bool.true_and, Bool.eq_iff_iff, beq_iff_eq, decide_eq_true_eq]
    rw [ep, decide_eq_true (show 14 ≤ s.size by omega), Bool.true_and]
    by_cases c1 : (s.extract 0 4).toList = ([71, 69, 84, 32] : List UInt8)
    · refine Ev.yes c1 ?_
      rw [hw, decide_eq_true c1, Bool.true_and]
      simp only [Int.toNat_natCast]
      refine Ev.yes (by omega) (Ev.yes (by omega) ?_)
      by_cases c2 : (s.extract (s.size - 9) s.size).toList = ([32, 72, 84, 84, 80, 47, 49, 46, 49] : List UInt8)
      · rw [show ((s.extract (s.size - 9) s.size).toList != ([32, 72, 84, 84, 80, 47, 49, 46, 49] : List UInt8)) = false from by rw [c2]; rfl, decide_eq_true c2, Bool.true_and]
        refine Ev.succ ?_
        simp only [spec_TargetOf.j0]
        rw [hw]
        simp only [Int.toNat_natCast]
        refine Ev.no (by simp) (Ev.yes (by omega) (Ev.yes (by omega) ?_))
        have hz := ext_size s 4 (s.size - 9) (by omega)
        have := tgt_spec_l (s.extract 4 (s.size - 9)) (by omega) (by omega) _ 0 (by omega) rfl
        rw [List.drop_zero] at this
        exact this
      · rw [show ((s.extract (s.size - 9) s.size).toList != ([32, 72, 84, 84, 80, 47, 49, 46, 49] : List UInt8)) = true from by simpa using c2, decide_eq_false c2, Bool.false_and]
        exact jt
    · refine Ev.no c1 ?_
      rw [decide_eq_false c1, Bool.false_and]; exact jt
theorem target_impl (s : ByteArray) (l : List S40) (hs : s.size ≤ 1048576) : Ev (fun k => impl_TargetOf.f k s l) (tgtF s) := by
  simp only [impl_TargetOf.f, cutPrefix_eq, Option.bind_some, tgtF]
  by_cases c1 : pre s (⟨#[71, 69, 84, 32]⟩ : ByteArray) = true
  · have hp4 : 4 ≤ s.size := by
      simp only [pre, Bool.and_eq_true, decide_eq_true_eq] at c1; exact c1.1
    simp only [if_pos c1]
    rw [c1, Bool.true_and, show (⟨#[71, 69, 84, 32]⟩ : ByteArray).size = 4 from rfl]
    have hz := ext_size s 4 s.size (by omega)
    rw [cutSuffix_eq _ _ (by omega)]
    simp only [Option.bind_some]
    refine Ev.yes trivial ?_
    have es : suf (s.extract 4 s.size) (⟨#[32, 72, 84, 84, 80, 47, 49, 46, 49]⟩ : ByteArray) = (decide (13 ≤ s.size) && decide ((s.extract (s.size - 9) s.size).toList = ([32, 72, 84, 84, 80, 47, 49, 46, 49] : List UInt8))) := by
      rw [suf, show (⟨#[32, 72, 84, 84, 80, 47, 49, 46, 49]⟩ : ByteArray).size = 9 from rfl, hz, httpL]
      by_cases c13 : 13 ≤ s.size
      · rw [ext_ext s 4 s.size _ _ (by omega) (by omega), show 4 + (s.size - 4 - 9) = s.size - 9 by omega, show 4 + (s.size - 4) = s.size by omega, decide_eq_true c13, decide_eq_true (by omega), Bool.true_and, Bool.true_and, Bool.eq_iff_iff, beq_iff_eq, decide_eq_true_eq]
      · rw [decide_eq_false c13, decide_eq_false (by omega), Bool.false_and, Bool.false_and]
    by_cases c2 : suf (s.extract 4 s.size) (⟨#[32, 72, 84, 84, 80, 47, 49, 46, 49]⟩ : ByteArray) = true
    · simp only [if_pos c2]
      rw [es] at c2
      simp only [Bool.and_eq_true, decide_eq_true_eq] at c2
      rw [decide_eq_true c2.2, Bool.true_and, show (⟨#[32, 72, 84, 84, 80, 47, 49, 46, 49]⟩ : ByteArray).size = 9 from rfl, hz, ext_ext s 4 s.size _ _ (by omega) (by omega), show 4 + (s.size - 4 - 9) = s.size - 9 by omega, Nat.add_zero]
      have hz2 := ext_size s 4 (s.size - 9) (by omega)
      simp only [in_impl, Option.bind_some]
      refine Ev.yes trivial ?_
      by_cases c3 : (1 : Int) ≤ ((s.extract 4 (s.size - 9)).size : Int) ∧ ((s.extract 4 (s.size - 9)).size : Int) ≤ 20
      · rw [decide_eq_true (show 14 ≤ s.size by omega), Bool.true_and, tgtB, decide_eq_true (show (s.extract 4 (s.size - 9)).size ≤ 20 by omega), Bool.true_and]
        refine Ev.yes (decide_eq_true c3) (Ev.bind (bytesIn_ev _ 33 126 (by omega)) ?_)
        by_cases c4 : inB 33 126 (s.extract 4 (s.size - 9)).data.toList = true
        · rw [c4, Bool.true_and]
          refine Ev.yes rfl (Ev.yes (by omega) ?_)
          by_cases c5 : bt (s.extract 4 (s.size - 9)) 0 = 47
          · rw [decide_eq_true c5]; exact Ev.yes c5 (Ev.now _)
          · rw [decide_eq_false c5]; exact Ev.no c5 (Ev.now _)
        · rw [Bool.eq_false_iff.mpr c4, Bool.false_and]; exact Ev.no (by simp) (Ev.now _)
      · refine Ev.no (by simpa using c3) ?_
        by_cases c14 : 14 ≤ s.size
        · rw [decide_eq_true c14, tgtB, decide_eq_false (show ¬ (s.extract 4 (s.size - 9)).size ≤ 20 by omega), Bool.false_and, Bool.and_false, Bool.and_false]; exact Ev.now _
        · rw [decide_eq_false c14, Bool.false_and]; exact Ev.now _
    · simp only [if_neg c2]
      rw [es] at c2
      have e2 : (decide (14 ≤ s.size) && (decide ((s.extract (s.size - 9) s.size).toList = ([32, 72, 84, 84, 80, 47, 49, 46, 49] : List UInt8)) && tgtB (s.extract 4 (s.size - 9)))) = false := by
        by_cases c14 : 14 ≤ s.size
        · rw [decide_eq_true (show 13 ≤ s.size by omega), Bool.true_and] at c2
          rw [Bool.eq_false_iff.mpr c2, Bool.false_and, Bool.and_false]
        · rw [decide_eq_false c14, Bool.false_and]
      rw [e2]
      exact Ev.no (by simp) (Ev.now _)
  · simp only [if_neg c1]
    rw [cutSuffix_eq _ _ (by omega), Bool.eq_false_iff.mpr c1, Bool.false_and]
    simp only [Option.bind_some]
    exact Ev.no (by simp) (Ev.now _)
end Go.Proofs.YtiibecpllokhiaaDoor.Q
namespace Go.Proofs.YtiibecpllokhiaaDoor.Q
open Go.RowKit Go.Proofs.YtiibecpllokhiaaDoorW.PrintWords Go.Proofs.YtiibecpllokhiaaDoorW.PrintLast Go.Proofs.YtiibecpllokhiaaDoorW.PrintMore
def p9 : ByteArray := ⟨#[72, 84, 84, 80, 47, 49, 46, 49, 32]⟩
theorem p9L : p9.toList = ([72, 84, 84, 80, 47, 49, 46, 49, 32] : List UInt8) := by rw [p9, toL]
theorem p9_size : p9.size = 9 := rfl
def Dig (s : ByteArray) (i : Int) : Prop := 48 ≤ bt s i ∧ bt s i ≤ 57
instance (s : ByteArray) (i : Int) : Decidable (Dig s i) := by unfold Dig; infer_instance
def num3 (s : ByteArray) : Int := 100 * (bt s 9 - 48) + 10 * (bt s 10 - 48) + (bt s 11 - 48)
def statB (s : ByteArray) : Bool := pre s p9 && (decide (13 ≤ s.size) && (decide (bt s 12 = 32) && decide (((Dig s 9 ∧ Dig s 10) ∧ Dig s 11) ∧ (100 ≤ num3 s ∧ num3 s ≤ 599))))
def statF (s : ByteArray) : Int × Bool := if statB s = true then (num3 s, true) else (0, false)
theorem stat_round (s : ByteArray) (n i : Int) (r : Int × Bool) (hs : 13 ≤ s.size) (h0 : 0 ≤ i) (h1 : i < 12) (hn : 0 ≤ n ∧ n ≤ 1000) (yes : Dig s i → Ev (fun k => spec_StatusOf.l0 k s (10 * n + bt s i - 48) (i + 1)) r) (no : ¬ Dig s i → r = (0, false)) : Ev (fun k => spec_StatusOf.l0 k s n i) r := by
  have hb := bt_rng s i
  refine Ev.succ ?_
  simp only [spec_StatusOf.l0]
  refine Ev.yes h1 (Ev.yes h0 (Ev.yes (by omega) ?_))
  by_cases c1 : bt s i < 48
  · rw [no (fun h => by unfold Dig at h; omega)]; exact Ev.yes c1 (Ev.now _)
  · refine Ev.no c1 ?_
    by_cases c2 : bt s i > 57
    · rw [no (fun h => by unfold Dig at h; omega)]; exact Ev.yes c2 (Ev.now _)
    · rw [w64 (n := 10 * n) (by omega) (by omega), w64 (n := bt s i) (by omega) (by omega), w64 (n := 10 * n + bt s i) (by omega) (by omega), w64 (n := 10 * n + bt s i - 48) (by omega) (by omega), w64 (n := i + 1) (by omega) (by omega)]
      exact Ev.no c2 (yes ⟨by omega, by omega⟩)
theorem status_spec (s : ByteArray) (l : List S40) : Ev (fun k => spec_StatusOf.f k s l) (statF s) := by
  have jt : Ev (fun k => spec_StatusOf.j0 k s true) ((0 : Int), false) := by
    refine Ev.succ ?_
    simp only [spec_StatusOf.j0]; exact Ev.yes (by simp) (Ev.now _)
  have no : statB s = false → statF s = (0, false) := fun h => by unfold statF; rw [if_neg (by rw [h]; simp)]
  simp only [spec_StatusOf.f]
  by_cases c : (s.size : Int) < 13
  · rw [no (by unfold statB; rw [decide_eq_false (show ¬ 13 ≤ s.size by omega), Bool.false_and, Bool.and_false])]
    exact Ev.yes c jt
  · refine Ev.no c (Ev.yes (by omega) ?_)
    have hs : 13 ≤ s.size := by omega
    have ep : pre s p9 = decide ((s.extract 0 9).toList = ([72, 84, 84, 80, 47, 49, 46, 49, 32] : List UInt8)) := by
      rw [pre, p9L, p9_size, decide_eq_true (by omega), Bool.true_and, Bool.eq_iff_iff, beq_iff_eq, decide_eq_true_eq]
    by_cases c1 : (s.extract 0 9).toList = ([72, 84, 84, 80, 47, 49, 46, 49, 32] : List UInt8)
    · refine Ev.yes c1 (Ev.yes (by omega) ?_)
      by_cases c2 : bt s 12 = 32
      · rw [show (bt s 12 != 32) = false from bne_eq_false_iff_eq.2 c2]
        refine Ev.succ ?_
        simp only [spec_StatusOf.j0]
        refine Ev.no (by simp) ?_
        have hB : statB s = decide (((Dig s 9 ∧ Dig s 10) ∧ Dig s 11) ∧ (100 ≤ num3 s ∧ num3 s ≤ 599)) := by
          unfold statB
          rw [ep, decide_eq_true c1, decide_eq_true hs, decide_eq_true c2, Bool.true_and, Bool.true_and, Bool.true_and]
        have fl : ¬ ((Dig s 9 ∧ Dig s 10) ∧ Dig s 11) → statF s = (0, false) := fun h => no (by rw [hB]; exact decide_eq_false (fun q => h q.1))
        refine stat_round s 0 9 _ hs (by omega) (by omega) (by omega) (fun d9 => ?_) (fun h => fl (fun q => h q.1.1))
        have b9 := d9; unfold Dig at b9
        refine stat_round s _ _ _ hs (by omega) (by omega) (by omega) (fun d10 => ?_) (fun h => fl (fun q => h q.1.2))
        have b10 := d10; unfold Dig at b10
        refine stat_round s _ _ _ hs (by omega) (by omega) (by omega) (fun d11 => ?_) (fun h => fl (fun q => h q.2))
        have b11 := d11; unfold Dig at b11
        refine Ev.succ ?_
        simp only [spec_StatusOf.l0]
        have en : 10 * (10 * (10 * 0 + bt s 9 - 48) + bt s (9 + 1) - 48) + bt s (9 + 1 + 1) - 48 = num3 s := by
          unfold num3
          rw [show (9 : Int) + 1 = 10 from rfl, show (10 : Int) + 1 = 11 from rfl]
          omega
        rw [en]
        refine Ev.no (by omega) (Ev.via (in_spec _ _ _) ?_)
        by_cases q : 100 ≤ num3 s ∧ num3 s ≤ 599
        · rw [show statF s = (num3 s, true) from by unfold statF; rw [if_pos (by rw [hB]; exact decide_eq_true ⟨⟨⟨d9, d10⟩, d11⟩, q⟩)]]
          exact Ev.yes (decide_eq_true q) (Ev.now _)
        · rw [no (by rw [hB]; exact decide_eq_false (fun h => q h.2))]
          exact Ev.no (by rw [decide_eq_false q]; simp) (Ev.now _)
      · rw [show (bt s 12 != 32) = true from bne_iff_ne.2 c2]
        rw [no (by unfold statB; rw [decide_eq_false c2, Bool.false_and, Bool.and_false, Bool.and_false])]
        exact jt
    · rw [no (by unfold statB; rw [ep, decide_eq_false c1, Bool.false_and])]
      exact Ev.no c1 jt
theorem bt_ext (s : ByteArray) (a b i : Nat) (h : i < b - a) (hb : b ≤ s.size) : bt (s.extract a b) (i : Int) = bt s ((a + i : Nat) : Int) := by
  rw [bt_get _ i (by rw [ext_size s a b hb]; exact h), bt_get s (a + i) (by omega)]
  congr 2
  simp
theorem three (s : ByteArray) (hs : 12 ≤ s.size) : (s.extract 9 12).data.toList = [s.data.toList[9]'(by rw [sizeL]; omega), s.data.toList[10]'(by rw [sizeL]; omega), s.data.toList[11]'(by rw [sizeL]; omega)] := by
  rw [Lib.extract_data, drop_get _ 9 (by rw [sizeL]; omega), drop_get _ 10 (by rw [sizeL]; omega), drop_get _ 11 (by rw [sizeL]; omega)]
  rfl
theorem atoi3 (a b c : UInt8) (ha : 48 ≤ a.toNat ∧ a.toNat ≤ 57) (hb : 48 ≤ b.toNat ∧ b.toNat ≤ 57) (hc : 48 ≤ c.toNat ∧ c.toNat ≤ 57) : Lib.atoiAll [a, b, c] = .ok (((100 * (a.toNat - 48) + 10 * (b.toNat - 48) + (c.toNat - 48) : Nat)) : Int) := by
  have e : Lib.parseMag [a, b, c] = .ok (100 * (a.toNat - 48) + 10 * (b.toNat - 48) + (c.toNat - 48)) := by
    unfold Lib.parseMag
    rw [if_neg (by simp)]
    simp only [Lib.parseUint10]
    rw [if_pos ha, if_neg (by omega), if_neg (by omega), if_pos hb, if_neg (by omega), if_neg (by omega), if_pos hc, if_neg (by omega), if_neg (by omega)]
    congr 1
    omega
  simp only [Lib.atoiAll]
  rw [if_neg (by omega), e]
  simp only
  rw [if_neg (by omega), if_neg (by omega), if_neg (by omega)]
theorem u8_back (a : UInt8) (x : Nat) (h : x = a.toNat) : UInt8.ofNat x = a := by rw [h]; exact UInt8.ofNat_toNat
theorem itoa3 (a b c : UInt8) (ha : 49 ≤ a.toNat ∧ a.toNat ≤ 57) (hb : 48 ≤ b.toNat ∧ b.toNat ≤ 57) (hc : 48 ≤ c.toNat ∧ c.toNat ≤ 57) : Lib.itoa (((100 * (a.toNat - 48) + 10 * (b.toNat - 48) + (c.toNat - 48) : Nat)) : Int) = [a, b, c] := by
  unfold Lib.itoa
  rw [if_neg (by omega), Int.toNat_natCast, Lib.decDigits, dif_neg (by omega), Lib.decDigits_two (by omega) (by omega)]
  simp only [List.cons_append, List.nil_append]
  rw [u8_back a _ (by omega), u8_back b _ (by omega), u8_back c _ (by omega)]
theorem read3 (s : ByteArray) (hs : 12 ≤ s.size) (d9 : Dig s 9) (d10 : Dig s 10) (d11 : Dig s 11) : ∃ v ok, impl_ReadDecimal.f (s.extract 9 12) = some (v, ok) ∧ (100 ≤ num3 s → v = num3 s) ∧ (num3 s < 100 → v < 100) := by
  have h3 := three s hs
  have e9 := bt_get s 9 (by omega)
  have e10 := bt_get s 10 (by omega)
  have e11 := bt_get s 11 (by omega)
  rw [show ((9 : Nat) : Int) = 9 from rfl] at e9
  rw [show ((10 : Nat) : Int) = 10 from rfl] at e10
  rw [show ((11 : Nat) : Int) = 11 from rfl] at e11
  unfold Dig at d9 d10 d11
  unfold num3
  rw [e9] at d9 ⊢
  rw [e10] at d10 ⊢
  rw [e11] at d11 ⊢
  generalize s.data.toList[9]'(by rw [sizeL]; omega) = a at *
  generalize s.data.toList[10]'(by rw [sizeL]; omega) = b at *
  generalize s.data.toList[11]'(by rw [sizeL]; omega) = c at *
  have ev : 100 * ((a.toNat : Int) - 48) + 10 * ((b.toNat : Int) - 48) + ((c.toNat : Int) - 48) = ((100 * (a.toNat - 48) + 10 * (b.toNat - 48) + (c.toNat - 48) : Nat) : Int) := by omega
  rw [ev]
  have ea := atoi3 a b c (by omega) (by omega) (by omega)
  have hz := ext_size s 9 12 hs
  refine ⟨(impl_ReadDecimal.at (s.extract 9 12) ((100 * (a.toNat - 48) + 10 * (b.toNat - 48) + (c.toNat - 48) : Nat) : Int)).1, (impl_ReadDecimal.at (s.extract 9 12) ((100 * (a.toNat - 48) + 10 * (b.toNat - 48) + (c.toNat - 48) : Nat) : Int)).2, ?_, ?_, ?_⟩
  · unfold impl_ReadDecimal.f
    rw [if_pos (by omega), h3, ea]
    simp only
    rw [if_pos (by omega)]
  · intro hv
    unfold impl_ReadDecimal.at
    rw [if_pos (by omega), itoa3 a b c (by omega) (by omega) (by omega), if_pos (by rw [toL, toL, h3])]
  · intro hv
    unfold impl_ReadDecimal.at
    rw [if_pos (by omega)]
    split
    · exact hv
    · show (0 : Int) < 100; omega
theorem status_impl (s : ByteArray) (l : List S40) (hs : s.size ≤ 1048576) : Ev (fun k => impl_StatusOf.f k s l) (statF s) := by
  have no : statB s = false → statF s = (0, false) := fun h => by unfold statF; rw [if_neg (by rw [h]; simp)]
  have jt : ∀ t, Ev (fun k => impl_StatusOf.j0 k t true) ((0 : Int), false) := fun t => by
    refine Ev.succ ?_
    simp only [impl_StatusOf.j0]; exact Ev.yes (by simp) (Ev.now _)
  simp only [impl_StatusOf.f]
  refine Ev.via (cutPrefix_eq s p9) ?_
  by_cases c1 : pre s p9 = true
  · simp only [if_pos c1]
    have h9 : 9 ≤ s.size := by
      simp only [pre, Bool.and_eq_true, p9_size] at c1; exact of_decide_eq_true c1.1
    have hz := ext_size s 9 s.size (by omega)
    simp only [p9_size]
    refine Ev.yes (by simp) ?_
    by_cases c2 : ((s.extract 9 s.size).size : Int) < 4
    · rw [no (by unfold statB; rw [decide_eq_false (show ¬ 13 ≤ s.size by omega), Bool.false_and, Bool.and_false])]
      exact Ev.yes c2 (jt _)
    · refine Ev.no c2 (Ev.yes (by omega) ?_)
      have h13 : 13 ≤ s.size := by omega
      have eb := bt_ext s 9 s.size 3 (by omega) (by omega)
      rw [show ((3 : Nat) : Int) = 3 from rfl, show ((9 + 3 : Nat) : Int) = 12 from rfl] at eb
      by_cases c3 : bt s 12 = 32
      · refine Ev.yes (eb.trans c3) (Ev.yes (by omega) ?_)
        have ee : (s.extract 9 s.size).extract 0 3 = s.extract 9 12 := by
          rw [ext_ext s 9 s.size 0 3 (by omega) (by omega)]
        rw [ee]
        refine Ev.bind (bytesIn_ev _ 48 57 (by rw [ext_size s 9 12 (by omega)]; omega)) ?_
        have hB : statB s = decide (((Dig s 9 ∧ Dig s 10) ∧ Dig s 11) ∧ (100 ≤ num3 s ∧ num3 s ≤ 599)) := by
          unfold statB
          rw [c1, decide_eq_true h13, decide_eq_true c3, Bool.true_and, Bool.true_and, Bool.true_and]
        have ei : inB 48 57 (s.extract 9 12).data.toList = decide ((Dig s 9 ∧ Dig s 10) ∧ Dig s 11) := by
          have e9 := bt_get s 9 (by omega)
          have e10 := bt_get s 10 (by omega)
          have e11 := bt_get s 11 (by omega)
          rw [show ((9 : Nat) : Int) = 9 from rfl] at e9
          rw [show ((10 : Nat) : Int) = 10 from rfl] at e10
          rw [show ((11 : Nat) : Int) = 11 from rfl] at e11
          rw [three s (by omega), Bool.eq_iff_iff, decide_eq_true_eq]
          unfold Dig
          rw [e9, e10, e11]
          simp only [inB, List.all_cons, List.all_nil, Bool.and_true, Bool.and_eq_true, decide_eq_true_eq]
          constructor
          · rintro ⟨h1, h2, h3⟩; exact ⟨⟨h1, h2⟩, h3⟩
          · rintro ⟨⟨h1, h2⟩, h3⟩; exact ⟨h1, h2, h3⟩
        rw [ei]
        by_cases q : (Dig s 9 ∧ Dig s 10) ∧ Dig s 11
        · rw [decide_eq_true q]
          refine Ev.succ ?_
          simp only [impl_StatusOf.j0]
          obtain ⟨v, ok, er, hv1, hv2⟩ := read3 s (by omega) q.1.1 q.1.2 q.2
          rw [ee]
          refine Ev.no (by simp) (Ev.yes (by omega) (Ev.via er (Ev.via (in_impl _ _ _) ?_)))
          by_cases r : 100 ≤ num3 s ∧ num3 s ≤ 599
          · have e := hv1 r.1
            subst e
            rw [show statF s = (num3 s, true) from by unfold statF; rw [if_pos (by rw [hB]; exact decide_eq_true ⟨q, r⟩)]]
            exact Ev.yes (decide_eq_true r) (Ev.now _)
          · rw [no (by rw [hB]; exact decide_eq_false (fun h => r h.2))]
            refine Ev.no ?_ (Ev.now _)
            rw [decide_eq_false ?_]
            · simp
            · intro h
              show False
              by_cases g : 100 ≤ num3 s
              · have := hv1 g; simp only at h; omega
              · have := hv2 (by omega); simp only at h; omega
        · rw [decide_eq_false q, no (by rw [hB]; exact decide_eq_false (fun h => q h.1))]
          exact jt _
      · rw [no (by unfold statB; rw [decide_eq_false c3, Bool.false_and, Bool.and_false, Bool.and_false])]
        exact Ev.no (fun h => c3 (eb.symm.trans h)) (jt _)
  · rw [if_neg c1, no (by unfold statB; rw [Bool.eq_false_iff.2 c1, Bool.false_and])]
    exact Ev.no (by simp) (jt _)
end Go.Proofs.YtiibecpllokhiaaDoor.Q
namespace Go.Proofs.YtiibecpllokhiaaDoor.Q
open Go.RowKit Go.Proofs.YtiibecpllokhiaaDoorW.PrintWords Go.Proofs.YtiibecpllokhiaaDoorW.PrintLast Go.Proofs.YtiibecpllokhiaaDoorW.PrintMore
def dd (n : Nat) : List UInt8 := if n = 0 then [] else Lib.decDigits n
theorem dd_pos {n : Nat} (h : n ≠ 0) : dd n = dd (n / 10) ++ [UInt8.ofNat (48 + n % 10)] := by
  unfold dd
  rw [if_neg h]
  by_cases c : n < 10
  · rw [if_pos (by omega), Lib.decDigits_one c, List.nil_append, Nat.mod_eq_of_lt c]
  · rw [if_neg (by omega), Lib.decDigits, dif_neg c]
theorem dd_app (x : List UInt8) (c : UInt8) (acc : ByteArray) : (⟨(x ++ [c]).toArray⟩ : ByteArray) ++ acc = (⟨x.toArray⟩ : ByteArray) ++ ((⟨#[c]⟩ : ByteArray) ++ acc) := by
  apply ba_ext
  simp
theorem figure_eq (d : Int) (h0 : 0 ≤ d) (h1 : d < 10) : spec_l01Figure.f d = some (48 + d) := by
  unfold spec_l01Figure.f
  rw [if_pos h1, w64 (by omega) (by omega), Int.emod_eq_of_lt (by omega) (by omega)]
theorem dec_spec_l (n : Nat) : ∀ (acc : ByteArray), n ≤ 4611686018427387904 → acc.size + n ≤ 4611686018427387904 → Ev (fun k => spec_Decimal.l0 k (n : Int) false acc) ((⟨(dd n).toArray⟩ : ByteArray) ++ acc) := by
  induction n using Nat.strongRecOn with
  | _ n ih =>
    intro acc hn hs
    refine Ev.succ ?_
    simp only [spec_Decimal.l0]
    by_cases h : n = 0
    · subst h
      rw [show (⟨(dd 0).toArray⟩ : ByteArray) ++ acc = acc from by apply ba_ext; simp [dd]]
      exact Ev.yes rfl (Ev.no (by simp) (Ev.now _))
    · have hm : Int.tmod (n : Int) 10 = ((n % 10 : Nat) : Int) := by rw [Int.tmod_eq_emod_of_nonneg (by omega)]; rfl
      have hd : Int.tdiv (n : Int) 10 = ((n / 10 : Nat) : Int) := by rw [Int.tdiv_eq_ediv_of_nonneg (by omega)]; rfl
      rw [hm, hd, w64 (n := ((n / 10 : Nat) : Int)) (by omega) (by omega)]
      refine Ev.no (by omega) (Ev.no (by omega) (Ev.via (figure_eq _ (by omega) (by omega)) ?_))
      simp only [Option.bind_some]
      have e1 : strOfNums [48 + ((n % 10 : Nat) : Int)] = (⟨#[UInt8.ofNat (48 + n % 10)]⟩ : ByteArray) := by
        unfold strOfNums
        have : (48 + ((n % 10 : Nat) : Int)).toNat = 48 + n % 10 := by omega
        simp only [List.map_cons, List.map_nil, this]
      rw [e1, dd_pos h, dd_app]
      refine Ev.yes (by show 1 + acc.size ≤ _; omega) (ih (n / 10) (by omega) _ (by omega) (by rw [ByteArray.size_append]; show 1 + acc.size + n / 10 ≤ _; omega))
def decB (n : Nat) : ByteArray := ⟨(Lib.decDigits n).toArray⟩
theorem dec_spec (n : Nat) (hn : n ≤ 4611686018427387904) : Ev (fun k => spec_Decimal.f k (n : Int)) (decB n) := by
  simp only [spec_Decimal.f]
  by_cases h : n = 0
  · subst h
    rw [show decB 0 = (⟨#[48]⟩ : ByteArray) from by unfold decB; rw [Lib.decDigits_one (by omega)]; rfl]
    exact Ev.yes rfl (Ev.now _)
  · refine Ev.no (by omega) ?_
    rw [decide_eq_false (show ¬ ((n : Int) < 0) by omega)]
    have := dec_spec_l n ⟨#[]⟩ hn (by show 0 + n ≤ _; omega)
    rw [show (⟨(dd n).toArray⟩ : ByteArray) ++ (⟨#[]⟩ : ByteArray) = decB n from by apply ba_ext; unfold decB dd; rw [if_neg h]; simp] at this
    exact this
end Go.Proofs.YtiibecpllokhiaaDoor.Q
namespace Go.Proofs.YtiibecpllokhiaaDoor.Q
open Go.RowKit Go.Proofs.YtiibecpllokhiaaDoorW.PrintWords Go.Proofs.YtiibecpllokhiaaDoorW.PrintLast Go.Proofs.YtiibecpllokhiaaDoorW.PrintMore
theorem and255v (a : Int) : Go.bits .and .i64 a 255 = a % 256 := by
  unfold Go.bits
  simp only [IntKind.wrap_i64]
  have e1 : (BitVec.ofInt IntKind.i64.bits a).toNat = (a % 18446744073709551616).toNat := by rw [BitVec.toNat_ofInt]; rfl
  have e2 : (BitVec.ofInt IntKind.i64.bits 255).toNat = 2 ^ 8 - 1 := by decide
  rw [BitVec.toNat_and, e1, e2, Nat.and_two_pow_sub_one_eq_mod]
  omega
/-- A place in the code that is drawn from. -/
def cu (l : List Int) (i : Int) : Prop := (0 ≤ i ∧ i ≤ l.length) ∧ l.length ≤ 4611686018427387904
theorem byte_ok (l : List Int) (i h : Int) (hc : cu l i) : ∃ x i' h', spec_l01Byte.f l i h = some (x, i', h') ∧ 0 ≤ x ∧ x ≤ 255 ∧ cu l i' := by
  obtain ⟨⟨h0, h1⟩, hl⟩ := hc
  unfold spec_l01Byte.f
  by_cases c : i < (l.length : Int)
  · rw [if_pos c, if_pos h0, w64 (n := i + 1) (by omega) (by omega), and255v]
    exact ⟨_, _, _, rfl, by omega, by omega, ⟨by omega, by omega⟩, hl⟩
  · rw [if_neg c, and255v]
    exact ⟨_, _, _, rfl, by omega, by omega, ⟨by omega, by omega⟩, hl⟩
theorem below_ok (l : List Int) (i h n : Int) (hn : 1 ≤ n) (hc : cu l i) : ∃ x i' h', spec_l01Below.f l i h n = some (x, i', h') ∧ 0 ≤ x ∧ x < n ∧ cu l i' := by
  unfold spec_l01Below.f
  obtain ⟨x1, i1, g1, e1, a1, b1, c1⟩ := byte_ok l i h hc
  rw [if_neg (by omega), e1]
  simp only [Option.bind_some]
  by_cases c : n ≤ 256
  · rw [if_pos c, if_neg (by omega), Int.tmod_eq_emod_of_nonneg a1]
    exact ⟨_, _, _, rfl, Int.emod_nonneg _ (by omega), Int.emod_lt_of_pos _ (by omega), c1⟩
  · obtain ⟨x2, i2, g2, e2, a2, b2, c2⟩ := byte_ok l i1 g1 c1
    obtain ⟨x3, i3, g3, e3, a3, b3, c3⟩ := byte_ok l i2 g2 c2
    obtain ⟨x4, i4, g4, e4, a4, b4, c4⟩ := byte_ok l i3 g3 c3
    rw [if_neg c, e2]
    simp only [Option.bind_some]
    rw [e3]
    simp only [Option.bind_some]
    rw [e4]
    simp only [Option.bind_some]
    rw [w64 (n := x1 * 16777216) (by omega) (by omega), w64 (n := x2 * 65536) (by omega) (by omega), w64 (n := x3 * 256) (by omega) (by omega), w64 (n := x1 * 16777216 + x2 * 65536) (by omega) (by omega), w64 (n := x1 * 16777216 + x2 * 65536 + x3 * 256) (by omega) (by omega),
      w64 (n := x1 * 16777216 + x2 * 65536 + x3 * 256 + x4) (by omega) (by omega), if_neg (by omega), Int.tmod_eq_emod_of_nonneg (by omega)]
    exact ⟨_, _, _, rfl, Int.emod_nonneg _ (by omega), Int.emod_lt_of_pos _ (by omega), c4⟩
theorem byteP (l : List Int) (i h : Int) (hc : cu l i) : EvP (fun _ => spec_l01Byte.f l i h) (fun r => (0 ≤ r.1 ∧ r.1 ≤ 255) ∧ cu l r.2.1) := by
  obtain ⟨x, i', h', e, a, b, c⟩ := byte_ok l i h hc
  exact EvP.const e ⟨⟨a, b⟩, c⟩
theorem belowP (l : List Int) (i h n : Int) (hn : 1 ≤ n) (hc : cu l i) : EvP (fun _ => spec_l01Below.f l i h n) (fun r => (0 ≤ r.1 ∧ r.1 < n) ∧ cu l r.2.1) := by
  obtain ⟨x, i', h', e, a, b, c⟩ := below_ok l i h n hn hc
  exact EvP.const e ⟨⟨a, b⟩, c⟩
theorem cu_zero {l : List Int} (hl : l.length ≤ 4611686018427387904) : cu l 0 := ⟨⟨by omega, by omega⟩, hl⟩
theorem newP_l (l : List Int) (hl : l.length ≤ 4611686018427387904) (d : Nat) : ∀ (h : Int) (i : Nat), i ≤ l.length → l.length - i = d → EvP (fun k => spec_l01New.l0 k l h (i : Int)) (fun r => r.1 = l ∧ cu l r.2.1) := by
  induction d with
  | zero => intro h i hi hd; refine EvP.succ ?_; simp only [spec_l01New.l0]; exact EvP.no (by omega) (EvP.ret ⟨rfl, cu_zero hl⟩)
  | succ d ih =>
    intro h i hi hd
    have hlt : i < l.length := by omega
    refine EvP.succ ?_
    simp only [spec_l01New.l0]
    refine EvP.yes (by omega) (EvP.ite (fun c => EvP.yes (by omega) ?_) (fun c => EvP.ret ⟨rfl, cu_zero hl⟩))
    rw [wnat i _ hlt (by omega)]
    exact ih _ (i + 1) (by omega) (by omega)
theorem newP (l : List Int) (hl : l.length ≤ 4611686018427387904) : EvP (fun k => spec_l01New.f k l) (fun r => r.1 = l ∧ cu l r.2.1) := newP_l l hl l.length _ 0 (by omega) (by omega)
end Go.Proofs.YtiibecpllokhiaaDoor.Q
namespace Go.Proofs.YtiibecpllokhiaaDoor.Q
open Go.RowKit Go.Proofs.YtiibecpllokhiaaDoorW.PrintWords Go.Proofs.YtiibecpllokhiaaDoorW.PrintLast Go.Proofs.YtiibecpllokhiaaDoorW.PrintMore
def Pl (r : List Int) : Prop := r.length = 12 ∧ ∀ p ∈ r, 0 ≤ p ∧ p < 10000
theorem placesP_l (l : List Int) (d : Nat) : ∀ (i : Nat) (x : List Int) (ci ch : Int), i ≤ 12 → 12 - i = d → x.length = i → (∀ p ∈ x, 0 ≤ p ∧ p < 10000) → cu l ci → EvP (fun k => spec_DrawPlaces.l0 k x (i : Int) l ci ch) Pl := by
  induction d with
  | zero =>
    intro i x ci ch hi hd hx hp hc
    refine EvP.succ ?_
    simp only [spec_DrawPlaces.l0]
    exact EvP.no (by omega) (EvP.ret ⟨by omega, hp⟩)
  | succ d ih =>
    intro i x ci ch hi hd hx hp hc
    refine EvP.succ ?_
    simp only [spec_DrawPlaces.l0]
    rw [wnat i 12 (by omega) (by omega)]
    refine EvP.yes (by omega) (EvP.bind (belowP l _ _ 10000 (by omega) hc) fun y hy => EvP.yes (by omega) ?_)
    refine ih (i + 1) _ _ _ (by omega) (by omega) (by simp; omega) (fun p h => ?_) hy.2
    rcases List.mem_append.mp h with h | h
    · exact hp p h
    · rw [List.mem_singleton.mp h]; exact hy.1
theorem placesP (l : List Int) (hl : l.length ≤ 4611686018427387904) : EvP (fun k => spec_DrawPlaces.f k l) Pl := by
  simp only [spec_DrawPlaces.f]
  refine EvP.bind (newP l hl) fun c hc => ?_
  rw [hc.1]
  exact EvP.bind (byteP l _ _ hc.2) fun y hy => placesP_l l 12 0 [] _ _ (by omega) (by omega) rfl (fun p h => absurd h (by simp)) hy.2
end Go.Proofs.YtiibecpllokhiaaDoor.Q
namespace Go.Proofs.YtiibecpllokhiaaDoor.Q
open Go.RowKit Go.Proofs.YtiibecpllokhiaaDoorW.PrintWords Go.Proofs.YtiibecpllokhiaaDoorW.PrintLast Go.Proofs.YtiibecpllokhiaaDoorW.PrintMore
def nmB (l : List UInt8) : Bool := l.all fun b => decide ((b.toNat : Int) = 45 ∨ 97 ≤ (b.toNat : Int) ∧ (b.toNat : Int) ≤ 122)
def nameB (s : ByteArray) : Bool := nmB s.data.toList && decide (1 ≤ (s.size : Int) ∧ (s.size : Int) ≤ 20)
def edgeB (v : ByteArray) : Bool := decide (Lib.trimB v.data.toList 32 = v.data.toList)
def fieldB (n v : ByteArray) : Bool := nameB n && (decide ((v.size : Int) ≤ 60) && (inB 32 126 v.data.toList && edgeB v))
end Go.Proofs.YtiibecpllokhiaaDoor.Q
namespace Go.Proofs.YtiibecpllokhiaaDoor.Q
open Go.RowKit Go.Proofs.YtiibecpllokhiaaDoorW.PrintWords Go.Proofs.YtiibecpllokhiaaDoorW.PrintLast Go.Proofs.YtiibecpllokhiaaDoorW.PrintMore
theorem rdF_get (l : List S40) (i : Nat) (h : i < l.length) : rd_T40 l i = l[i] := by simp [rd_T40, h]
end Go.Proofs.YtiibecpllokhiaaDoor.Q
namespace Go.Proofs.YtiibecpllokhiaaDoor.Q
open Go.RowKit Go.Proofs.YtiibecpllokhiaaDoorW.PrintWords Go.Proofs.YtiibecpllokhiaaDoorW.PrintLast Go.Proofs.YtiibecpllokhiaaDoorW.PrintMore
def hsz : List S40 → Nat
  | [] => 0
  | f :: r => f.f0.size + f.f1.size + 4 + hsz r
def lineB (a : ByteArray) : Bool := decide (1 ≤ (a.size : Int) ∧ (a.size : Int) ≤ 80) && inB 32 126 a.data.toList
end Go.Proofs.YtiibecpllokhiaaDoor.Q
namespace Go.Proofs.YtiibecpllokhiaaDoor.Q
open Go.RowKit Go.Proofs.YtiibecpllokhiaaDoorW.PrintWords Go.Proofs.YtiibecpllokhiaaDoorW.PrintLast Go.Proofs.YtiibecpllokhiaaDoorW.PrintMore
theorem pickM (l : List Int) (i h : Int) (x : List ByteArray) (hx : 1 ≤ x.length) (hm : x.length ≤ 1000) (hc : cu l i) : EvP (fun _ => spec_l01Pick.f l i h x) (fun r => r.1 ∈ x ∧ cu l r.2.1) := by
  simp only [spec_l01Pick.f]
  refine EvP.bind (belowP l i h _ (by omega) hc) fun r hr => EvP.yes hr.1.1 (EvP.yes hr.1.2 (EvP.ret ⟨?_, hr.2⟩))
  unfold rdOf
  have hlt : r.1.toNat < x.length := by omega
  simp only [List.getD_eq_getElem?_getD, List.getElem?_eq_getElem hlt, Option.getD_some]
  exact List.getElem_mem hlt
def names6 : List ByteArray := [(⟨#[99, 97, 99, 104, 101, 45, 99, 111, 110, 116, 114, 111, 108]⟩ : ByteArray), (⟨#[104, 111, 115, 116]⟩ : ByteArray), (⟨#[99, 111, 110, 116, 101, 110, 116, 45, 108, 101, 110, 103, 116, 104]⟩ : ByteArray), (⟨#[120]⟩ : ByteArray), (⟨#[97, 117, 116, 104, 111, 114, 105, 122, 97, 116, 105, 111, 110]⟩ : ByteArray), (⟨#[116, 114, 97, 110, 115, 102, 101, 114, 45, 101, 110, 99, 111, 100, 105, 110, 103]⟩ : ByteArray)]
def values10 : List ByteArray := [(⟨#[]⟩ : ByteArray), (⟨#[97]⟩ : ByteArray), (⟨#[110, 111, 45, 115, 116, 111, 114, 101]⟩ : ByteArray), (⟨#[109, 97, 120, 45, 97, 103, 101, 61, 54, 48]⟩ : ByteArray), (⟨#[109, 97, 120, 45, 97, 103, 101, 61, 53, 44, 32, 112, 114, 105, 118, 97, 116, 101]⟩ : ByteArray), (⟨#[115, 45, 109, 97, 120, 97, 103, 101, 61, 57]⟩ : ByteArray), (⟨#[49, 50]⟩ : ByteArray), (⟨#[99, 104, 117, 110, 107, 101, 100]⟩ : ByteArray), (⟨#[98, 32, 32, 99]⟩ : ByteArray), (⟨#[51]⟩ : ByteArray)]
def lines6 : List ByteArray := [(⟨#[71, 69, 84, 32, 47, 97, 32, 72, 84, 84, 80, 47, 49, 46, 49]⟩ : ByteArray), (⟨#[71, 69, 84, 32, 47, 98, 32, 72, 84, 84, 80, 47, 49, 46, 49]⟩ : ByteArray), (⟨#[72, 84, 84, 80, 47, 49, 46, 49, 32, 50, 48, 48, 32, 111, 107]⟩ : ByteArray), (⟨#[72, 84, 84, 80, 47, 49, 46, 49, 32, 52, 48, 52, 32, 110, 111]⟩ : ByteArray), (⟨#[80, 79, 83, 84, 32, 47, 97, 32, 72, 84, 84, 80, 47, 49, 46, 49]⟩ : ByteArray), (⟨#[120]⟩ : ByteArray)]
def dF (f : S40) : Prop := f.f0 ∈ names6 ∧ f.f1 ∈ values10
theorem fieldM (l : List Int) (i h : Int) (hc : cu l i) : EvP (fun _ => spec_l09FieldOf.f l i h) (fun r => dF ⟨r.1, r.2.1⟩ ∧ cu l r.2.2.1) := by
  simp only [spec_l09FieldOf.f]
  refine EvP.bind (pickM l _ _ _ (by decide) (by decide) hc) fun a ha => EvP.bind (pickM l _ _ _ (by decide) (by decide) ha.2) fun b hb => EvP.ret ⟨⟨ha.1, hb.1⟩, hb.2⟩
def dFs (l : List S40) : Prop := l.length ≤ 3 ∧ ∀ f ∈ l, dF f
theorem headM_l (l : List Int) (a : ByteArray) (d : Nat) : ∀ (x : List S40) (j : Nat) (i h : Int), x.length = j → j ≤ 3 → 4 - j = d → dFs x → cu l i → EvP (fun k => spec_l09Head.l0 k (j : Int) l i h a x) (fun r => r.1 = a ∧ dFs r.2.1 ∧ cu l r.2.2.1) := by
  induction d with
  | zero => intro x j i h h0 h1 h2; omega
  | succ d ih =>
    intro x j i h h0 h1 h2 hf hc
    refine EvP.succ ?_
    simp only [spec_l09Head.l0]
    refine EvP.bind (belowP l _ _ 4 (by omega) hc) fun y hy => EvP.ite (fun c => ?_) (fun _ => EvP.ret ⟨rfl, hf, hy.2⟩)
    rw [wnat j 4 (by omega) (by omega)]
    refine EvP.bind (fieldM l _ _ hy.2) fun q hq => EvP.yes (by omega) (ih _ (j + 1) _ _ (by simp; omega) (by omega) (by omega) ⟨by simp; omega, fun f hm => ?_⟩ hq.2)
    rcases List.mem_append.mp hm with hm | hm
    · exact hf.2 f hm
    · rw [List.mem_singleton.mp hm]; exact hq.1
theorem headM (l : List Int) (i h : Int) (hc : cu l i) : EvP (fun k => spec_l09Head.f k l i h) (fun r => r.1 ∈ lines6 ∧ dFs r.2.1 ∧ cu l r.2.2.1) := by
  simp only [spec_l09Head.f]
  refine EvP.bind (pickM l _ _ _ (by decide) (by decide) hc) fun a ha => ?_
  refine (headM_l l a.1 4 [] 0 _ _ rfl (by omega) (by omega) ⟨by simp, fun f hf => absurd hf (by simp)⟩ ha.2).imp fun r hr => ?_
  exact ⟨by rw [hr.1]; exact ha.1, hr.2⟩
theorem all_fields : ∀ n ∈ names6, ∀ v ∈ values10, fieldB n v = true ∧ n.size ≤ 20 ∧ v.size ≤ 20 := by decide +kernel
theorem all_lines : ∀ a ∈ lines6, lineB a = true ∧ a.size ≤ 20 := by decide +kernel
end Go.Proofs.YtiibecpllokhiaaDoor.Q
namespace Go.Proofs.YtiibecpllokhiaaDoor.Q
open Go.RowKit Go.Proofs.YtiibecpllokhiaaDoorW.PrintWords Go.Proofs.YtiibecpllokhiaaDoorW.PrintLast Go.Proofs.YtiibecpllokhiaaDoorW.PrintMore
theorem son_size (x : List Int) : (strOfNums x).size = x.length := by
  show ((List.map (fun n : Int => UInt8.ofNat n.toNat) x).toArray).size = x.length
  simp
end Go.Proofs.YtiibecpllokhiaaDoor.Q
namespace Go.Proofs.YtiibecpllokhiaaDoor.Q
open Go.RowKit Go.Proofs.YtiibecpllokhiaaDoorW.PrintWords Go.Proofs.YtiibecpllokhiaaDoorW.PrintLast Go.Proofs.YtiibecpllokhiaaDoorW.PrintMore
theorem longP_l (n : Nat) (b : Int) (d : Nat) : ∀ (x : List Int) (i : Nat), x.length = n → n ≤ 1000 → i ≤ n → n - i = d → EvP (fun k => spec_l01Long.l0 k (n : Int) b x (i : Int)) (fun r => r.size = n) := by
  induction d with
  | zero =>
    intro x i hx hn hi hd
    refine EvP.succ ?_
    simp only [spec_l01Long.l0]
    refine EvP.no (by omega) (EvP.ret ?_)
    show (strOfNums x).size = n
    rw [← hx]; exact son_size x
  | succ d ih =>
    intro x i hx hn hi hd
    refine EvP.succ ?_
    simp only [spec_l01Long.l0]
    rw [wnat i n (by omega) (by omega)]
    exact EvP.yes (by omega) (EvP.yes (by omega) (EvP.yes (by omega) (ih _ (i + 1) (by simpa using hx) hn (by omega) (by omega))))
theorem longP (n : Int) (b : Int) (h0 : 0 ≤ n) (h1 : n ≤ 1000) : EvP (fun k => spec_l01Long.f k n b) (fun r => (r.size : Int) = n) := by
  obtain ⟨m, rfl⟩ : ∃ m : Nat, n = (m : Int) := ⟨n.toNat, by omega⟩
  simp only [spec_l01Long.f, Int.toNat_natCast]
  exact EvP.yes (by omega) (EvP.yes (by omega) ((longP_l m b m _ 0 (by simp) (by omega) (by omega) (by omega)).imp fun r hr => by omega))
end Go.Proofs.YtiibecpllokhiaaDoor.Q
namespace Go.Proofs.YtiibecpllokhiaaDoor.Q
open Go.RowKit Go.Proofs.YtiibecpllokhiaaDoorW.PrintWords Go.Proofs.YtiibecpllokhiaaDoorW.PrintLast Go.Proofs.YtiibecpllokhiaaDoorW.PrintMore
def aOk (a : ByteArray) (l : List S40) : Prop := a.size ≤ 100 ∧ l.length ≤ 9 ∧ ∀ f ∈ l, f.f0.size ≤ 100 ∧ f.f1.size ≤ 100
theorem rdOf_size {y : List ByteArray} (h : ∀ b ∈ y, b.size ≤ 100) (n : Int) : (rdOf ByteArray.empty y n).size ≤ 100 := by
  unfold rdOf
  rw [List.getD_eq_getElem?_getD]
  cases e : y[n.toNat]? with
  | none => exact Nat.zero_le _
  | some b => exact h b (List.mem_of_getElem? e)
theorem aOk_set {a : ByteArray} {l : List S40} {f : S40} (h : aOk a l) (hf : f.f0.size ≤ 100 ∧ f.f1.size ≤ 100) : aOk a (l.set 0 f) := by
  refine ⟨h.1, by rw [List.length_set]; exact h.2.1, fun g hg => ?_⟩
  rcases List.mem_or_eq_of_mem_set hg with hg | rfl
  · exact h.2.2 g hg
  · exact hf
theorem any_l (l : List Int) (i h : Int) (hc : cu l i) (x : Int) (hx : 0 ≤ x ∧ x < 60) (a : ByteArray) (_ : a.size ≤ 100) (d : Nat) : ∀ y : List S40, 9 - y.length = d → aOk a y → EvP (fun k => spec_l09Any.l0 k x l i h a y) (fun r => aOk r.1 r.2.1 ∧ cu l r.2.2.1) := by
  have hx0 := hx.1
  have hm : Int.tmod x 2 = x % 2 := Int.tmod_eq_emod_of_nonneg hx.1
  have hm2 : Int.tmod x 40 = x % 40 := Int.tmod_eq_emod_of_nonneg hx.1
  have hw : wrap64 (8 + (Int.tmod x 2)) ≤ 9 := by rw [hm, w64 (by omega) (by omega)]; omega
  induction d with
  | zero =>
    intro y hd hy
    refine EvP.succ ?_
    simp only [spec_l09Any.l0]
    have := hy.2.1
    exact EvP.no (by omega) (EvP.ret ⟨hy, hc⟩)
  | succ d ih =>
    intro y hd hy
    refine EvP.succ ?_
    simp only [spec_l09Any.l0]
    refine EvP.ite (fun c => ?_) (fun _ => EvP.ret ⟨hy, hc⟩)
    rw [hm2]
    refine EvP.bind (longP (x % 40) 97 (by omega) (by omega)) fun t ht => EvP.yes (by omega) (ih _ (by simp; omega) ⟨hy.1, by simp; omega, fun f hf => ?_⟩)
    rcases List.mem_append.1 hf with hf | hf
    · exact hy.2.2 f hf
    · rw [List.mem_singleton.1 hf]; exact ⟨by show (1 : Nat) ≤ 100; omega, by show t.size ≤ 100; omega⟩
theorem anyP (l : List Int) (i h : Int) (hc : cu l i) : EvP (fun k => spec_l09Any.f k l i h) (fun r => aOk r.1 r.2.1 ∧ cu l r.2.2.1) := by
  simp only [spec_l09Any.f, Option.bind_some]
  refine EvP.bind (belowP l _ _ 12 (by omega) hc) fun k hk => EvP.bind (belowP l _ _ 60 (by omega) hk.2) fun x hx => EvP.bind (headM l _ _ hx.2) fun q hq => ?_
  have ha : aOk q.1 q.2.1 := by
    refine ⟨by have := (all_lines _ hq.1).2; omega, by have := hq.2.1.1; omega, fun f hf => ?_⟩
    have h1 := hq.2.1.2 f hf
    have := all_fields _ h1.1 _ h1.2
    omega
  have hc' := hq.2.2
  have x0 := hx.1.1
  rw [Int.tmod_eq_emod_of_nonneg (b := 7) x0, Int.tmod_eq_emod_of_nonneg (b := 5) x0]
  refine EvP.ite (fun _ => ?_) (fun _ => EvP.ite (fun _ => EvP.ite (fun c => ?_) (fun _ => EvP.ret ⟨ha, hc'⟩)) (fun _ => EvP.ite (fun _ => EvP.ite (fun c => ?_) (fun _ => EvP.ret ⟨ha, hc'⟩)) (fun _ => EvP.ite (fun _ => ?_) (fun _ => EvP.ret ⟨ha, hc'⟩))))
  · refine EvP.bind (longP 80 65 (by omega) (by omega)) fun t ht => EvP.bind (longP 81 65 (by omega) (by omega)) fun u hu => EvP.yes (by omega) (EvP.yes (by show x.1 % 7 < 7; omega) (EvP.ret ⟨⟨rdOf_size ?_ _, ha.2⟩, hc'⟩))
    intro b hb
    simp only [List.mem_cons, List.not_mem_nil, or_false] at hb
    rcases hb with rfl | rfl | rfl | rfl | rfl | rfl | rfl
    · exact Nat.zero_le _
    · omega
    · omega
    · show (3 : Nat) ≤ 100; omega
    · show (17 : Nat) ≤ 100; omega
    · show (14 : Nat) ≤ 100; omega
    · show (14 : Nat) ≤ 100; omega
  · have hl : 0 < q.2.1.length := by omega
    have e0 := rdF_get q.2.1 0 hl
    rw [show ((0 : Nat) : Int) = 0 from rfl] at e0
    refine EvP.bind (longP 21 97 (by omega) (by omega)) fun t ht => EvP.yes (by omega) (EvP.yes (by show x.1 % 5 < 5; omega) (EvP.yes (by omega) (EvP.ret ⟨aOk_set ha ⟨rdOf_size ?_ _, by rw [e0]; exact (ha.2.2 _ (List.getElem_mem hl)).2⟩, hc'⟩)))
    intro b hb
    simp only [List.mem_cons, List.not_mem_nil, or_false] at hb
    rcases hb with rfl | rfl | rfl | rfl | rfl
    · exact Nat.zero_le _
    · show (1 : Nat) ≤ 100; omega
    · show (3 : Nat) ≤ 100; omega
    · omega
    · show (1 : Nat) ≤ 100; omega
  · have hl : 0 < q.2.1.length := by omega
    have e0 := rdF_get q.2.1 0 hl
    rw [show ((0 : Nat) : Int) = 0 from rfl] at e0
    refine EvP.bind (longP 60 97 (by omega) (by omega)) fun t ht => EvP.bind (longP 61 97 (by omega) (by omega)) fun u hu => EvP.yes (by omega) (EvP.yes (by show x.1 % 5 < 5; omega) (EvP.yes (by omega) (EvP.ret ⟨aOk_set ha ⟨by rw [e0]; exact (ha.2.2 _ (List.getElem_mem hl)).1, rdOf_size ?_ _⟩, hc'⟩)))
    intro b hb
    simp only [List.mem_cons, List.not_mem_nil, or_false] at hb
    rcases hb with rfl | rfl | rfl | rfl | rfl
    · show (2 : Nat) ≤ 100; omega
    · show (2 : Nat) ≤ 100; omega
    · omega
    · omega
    · show (1 : Nat) ≤ 100; omega
  · exact any_l l _ _ hc' x.1 hx.1 _ ha.1 _ _ rfl ha
end Go.Proofs.YtiibecpllokhiaaDoor.Q
namespace Go.Proofs.YtiibecpllokhiaaDoor.Q
open Go.RowKit Go.Proofs.YtiibecpllokhiaaDoorW.PrintWords Go.Proofs.YtiibecpllokhiaaDoorW.PrintLast Go.Proofs.YtiibecpllokhiaaDoorW.PrintMore
theorem decD_digits (n : Nat) : ∀ b ∈ dd n, 48 ≤ b.toNat ∧ b.toNat ≤ 57 := by
  induction n using Nat.strongRecOn with
  | _ n ih =>
    by_cases h : n = 0
    · subst h; simp [dd]
    · rw [dd_pos h]
      intro b hb
      rcases List.mem_append.1 hb with hb | hb
      · exact ih (n / 10) (by omega) b hb
      · rw [List.mem_singleton.1 hb, UInt8.toNat_ofNat']
        omega
theorem decD_len (k : Nat) : ∀ n, n < 10 ^ k → (dd n).length ≤ k := by
  induction k with
  | zero => intro n h; simp at h; subst h; simp [dd]
  | succ k ih =>
    intro n h
    by_cases c : n = 0
    · subst c; simp [dd]
    · rw [dd_pos c, List.length_append, List.length_singleton]
      have := ih (n / 10) (by rw [Nat.pow_succ] at h; omega)
      omega
theorem decB_dd {n : Nat} (h : n ≠ 0) : (decB n).data.toList = dd n := by unfold decB dd; rw [if_neg h]
theorem decB_zero : (decB 0).data.toList = [48] := by unfold decB; rw [Lib.decDigits_one (by omega)]; rfl
theorem decB_all (n : Nat) (h : n < 10000) : (decB n).data.toList.length ≤ 4 ∧ ∀ b ∈ (decB n).data.toList, 48 ≤ b.toNat ∧ b.toNat ≤ 57 := by
  by_cases c : n = 0
  · subst c; rw [decB_zero]; simp
  · rw [decB_dd c]; exact ⟨decD_len 4 n h, decD_digits n⟩
theorem dec3 (n : Nat) (h0 : 100 ≤ n) (h1 : n < 600) : (decB n).data.toList = [UInt8.ofNat (48 + n / 100), UInt8.ofNat (48 + n / 10 % 10), UInt8.ofNat (48 + n % 10)] := by
  rw [decB_dd (by omega), dd_pos (by omega), dd_pos (n := n / 10) (by omega), dd_pos (n := n / 10 / 10) (by omega), show n / 10 / 10 / 10 = 0 by omega, show dd 0 = [] from rfl, show n / 10 / 10 % 10 = n / 100 by omega]
  rfl
def gx : ByteArray := ⟨#[71, 69, 84, 32, 47, 120]⟩
def h11 : ByteArray := ⟨#[32, 72, 84, 84, 80, 47, 49, 46, 49]⟩
theorem target_back (d : ByteArray) (h4 : d.data.toList.length ≤ 4) (hd : ∀ b ∈ d.data.toList, 48 ≤ b.toNat ∧ b.toNat ≤ 57) : tgtF (gx ++ d ++ h11) = ((⟨#[47, 120]⟩ : ByteArray) ++ d, true) := by
  have hz : (gx ++ d ++ h11).size = d.data.toList.length + 15 := by
    rw [ByteArray.size_append, ByteArray.size_append, ← sizeL d, show gx.size = 6 from rfl, show h11.size = 9 from rfl]; omega
  have eL : (gx ++ d ++ h11).data.toList = [71, 69, 84, 32] ++ (([47, 120] ++ d.data.toList) ++ [32, 72, 84, 84, 80, 47, 49, 46, 49]) := by simp [gx, h11]
  have e1 : (gx ++ d ++ h11).extract 4 ((gx ++ d ++ h11).size - 9) = (⟨#[47, 120]⟩ : ByteArray) ++ d := by
    apply ba_ext
    rw [Lib.extract_data, eL, hz, List.drop_left' (by rfl), show d.data.toList.length + 15 - 9 - 4 = ([47, 120] ++ d.data.toList).length by simp, List.take_left]
    simp
  have e2 : ((gx ++ d ++ h11).extract ((gx ++ d ++ h11).size - 9) (gx ++ d ++ h11).size).toList = ([32, 72, 84, 84, 80, 47, 49, 46, 49] : List UInt8) := by
    rw [toL, Lib.extract_data, eL, hz, ← List.append_assoc, List.drop_left' (by simp)]
    rw [List.take_of_length_le (by simp)]
  have e3 : pre (gx ++ d ++ h11) (⟨#[71, 69, 84, 32]⟩ : ByteArray) = true := by
    unfold pre
    rw [decide_eq_true (by rw [hz]; show 4 ≤ _; omega), Bool.true_and, beq_iff_eq, toL, toL, Lib.extract_data, eL, List.drop_zero, List.take_left' (by rfl)]
  have e4 : tgtB ((⟨#[47, 120]⟩ : ByteArray) ++ d) = true := by
    have hl : ((⟨#[47, 120]⟩ : ByteArray) ++ d).data.toList = 47 :: 120 :: d.data.toList := by simp
    have hs : ((⟨#[47, 120]⟩ : ByteArray) ++ d).size = d.data.toList.length + 2 := by rw [← sizeL, hl]; rfl
    unfold tgtB
    rw [hl, hs, decide_eq_true (by omega)]
    have hb : bt ((⟨#[47, 120]⟩ : ByteArray) ++ d) 0 = 47 := by
      have := bt_get ((⟨#[47, 120]⟩ : ByteArray) ++ d) 0 (by omega)
      rw [show ((0 : Nat) : Int) = 0 from rfl] at this
      rw [this]
      simp only [hl]
      rfl
    rw [decide_eq_true hb, Bool.and_true, Bool.and_true]
    unfold inB
    rw [List.all_eq_true]
    intro b hb
    rcases List.mem_cons.1 hb with rfl | hb
    · decide
    · rcases List.mem_cons.1 hb with rfl | hb
      · decide
      · have := hd b hb; exact decide_eq_true ⟨by omega, by omega⟩
  unfold tgtF
  rw [e1, e2, e3, e4, decide_eq_true (by rw [hz]; omega)]
  rfl
def h9 : ByteArray := ⟨#[72, 84, 84, 80, 47, 49, 46, 49, 32]⟩
def said : ByteArray := ⟨#[32, 115, 97, 105, 100]⟩
theorem status_back (n : Nat) (h0 : 100 ≤ n) (h1 : n < 600) : statF (h9 ++ decB n ++ said) = ((n : Int), true) := by
  have eL : (h9 ++ decB n ++ said).data.toList = [72, 84, 84, 80, 47, 49, 46, 49, 32, UInt8.ofNat (48 + n / 100), UInt8.ofNat (48 + n / 10 % 10), UInt8.ofNat (48 + n % 10), 32, 115, 97, 105, 100] := by
    have : (h9 ++ decB n ++ said).data.toList = h9.data.toList ++ ((decB n).data.toList ++ said.data.toList) := by simp
    rw [this, dec3 n h0 h1]; rfl
  generalize h9 ++ decB n ++ said = s at eL
  have hz : s.size = 17 := by rw [← sizeL, eL]; rfl
  have g : ∀ (i : Nat) (h : i < s.size), bt s (i : Int) = ((s.data.toList[i]'(by rw [sizeL]; exact h)).toNat : Int) := fun i h => bt_get s i h
  have b9 : bt s 9 = ((48 + n / 100 : Nat) : Int) := by
    have := g 9 (by omega)
    simp only [eL] at this
    rw [show ((9 : Nat) : Int) = 9 from rfl] at this
    rw [this]
    show ((UInt8.ofNat (48 + n / 100)).toNat : Int) = _
    rw [UInt8.toNat_ofNat']; omega
  have b10 : bt s 10 = ((48 + n / 10 % 10 : Nat) : Int) := by
    have := g 10 (by omega)
    simp only [eL] at this
    rw [show ((10 : Nat) : Int) = 10 from rfl] at this
    rw [this]
    show ((UInt8.ofNat (48 + n / 10 % 10)).toNat : Int) = _
    rw [UInt8.toNat_ofNat']; omega
  have b11 : bt s 11 = ((48 + n % 10 : Nat) : Int) := by
    have := g 11 (by omega)
    simp only [eL] at this
    rw [show ((11 : Nat) : Int) = 11 from rfl] at this
    rw [this]
    show ((UInt8.ofNat (48 + n % 10)).toNat : Int) = _
    rw [UInt8.toNat_ofNat']; omega
  have b12 : bt s 12 = 32 := by
    have := g 12 (by omega)
    simp only [eL] at this
    rw [show ((12 : Nat) : Int) = 12 from rfl] at this
    rw [this]; rfl
  have hn : num3 s = (n : Int) := by unfold num3; rw [b9, b10, b11]; omega
  have hp : pre s p9 = true := by
    unfold pre
    rw [decide_eq_true (by rw [hz, p9_size]; omega), Bool.true_and, beq_iff_eq, p9L, toL, Lib.extract_data, eL, p9_size]; rfl
  unfold statF statB
  rw [hp, hn, b12, decide_eq_true (show 13 ≤ s.size by omega), decide_eq_true (show (32 : Int) = 32 from rfl), decide_eq_true (show ((Dig s 9 ∧ Dig s 10) ∧ Dig s 11) ∧ 100 ≤ (n : Int) ∧ (n : Int) ≤ 599 from ⟨⟨⟨⟨by rw [b9]; omega, by rw [b9]; omega⟩, ⟨by rw [b10]; omega, by rw [b10]; omega⟩⟩, ⟨by rw [b11]; omega, by rw [b11]; omega⟩⟩, by omega, by omega⟩)]
  rfl
theorem pureFnLines (l0 : List Int) (_ : l0.length ≤ maxLen) (_ : ∀ x ∈ l0, (Lit.int .u8 x).wf = true) : ∃ k, laws_FnLines.f k l0 = some true := by
  refine Ev.rounds (g := fun k => laws_FnLines.f k l0) ?_
  simp only [laws_FnLines.f, laws_big.f, Option.bind_some]
  by_cases c : (l0.length : Int) > 1048576
  · exact Ev.yes (decide_eq_true c) (Ev.now _)
  refine Ev.no (by simpa using c) ?_
  have hd : EvP (fun k => spec_DrawTargetOf.f k l0) (fun r => aOk r.1 r.2) := by
    simp only [spec_DrawTargetOf.f]
    refine EvP.bind (newP l0 (by omega)) fun c hc => ?_
    rw [hc.1]
    exact EvP.bind (anyP l0 _ _ hc.2) fun q hq => EvP.ret hq.1
  obtain ⟨⟨a, l⟩, eh, ha⟩ := hd
  have ha1 : a.size ≤ 100 := ha.1
  obtain ⟨p, ep, hp, hq⟩ := placesP l0 (by omega)
  have p0 := hq _ (List.getElem_mem (show 0 < p.length by omega))
  have p1 := hq _ (List.getElem_mem (show 1 < p.length by omega))
  have g0 := rd_get p 0 (by omega)
  have g1 := rd_get p 1 (by omega)
  rw [show ((0 : Nat) : Int) = 0 from rfl] at g0
  rw [show ((1 : Nat) : Int) = 1 from rfl] at g1
  refine Ev.bind eh (Ev.bind (target_impl a l (by omega)) (Ev.bind (target_spec a l (by omega)) (Ev.bind (status_impl a l (by omega)) (Ev.bind (status_spec a l) (Ev.bind ep (Ev.yes (by omega) (Ev.yes (by omega) ?_)))))))
  rw [g0, g1, Int.tmod_eq_emod_of_nonneg p0.1]
  generalize p[0] = x at p0
  generalize p[1] = y at p1
  obtain ⟨n, rfl⟩ : ∃ n : Nat, y = (n : Int) := ⟨y.toNat, by omega⟩
  obtain ⟨m, hm⟩ : ∃ m : Nat, wrap64 (100 + x % 500) = (m : Int) := ⟨(100 + x % 500).toNat, by rw [w64 (by omega) (by omega)]; omega⟩
  have hm2 : 100 ≤ m ∧ m < 600 := by rw [w64 (by omega) (by omega)] at hm; omega
  rw [hm]
  obtain ⟨d4, dd4⟩ := decB_all n (by omega)
  have dz : (decB n).size ≤ 4 := by rw [← sizeL]; exact d4
  have mz : (decB m).size = 3 := by rw [← sizeL, dec3 m hm2.1 hm2.2]; rfl
  have et := target_impl (gx ++ decB n ++ h11) [] (by rw [ByteArray.size_append, ByteArray.size_append]; show 6 + _ + 9 ≤ _; omega)
  rw [target_back _ d4 dd4] at et
  have es := status_impl (h9 ++ decB m ++ said) [] (by rw [ByteArray.size_append, ByteArray.size_append]; show 9 + _ + 5 ≤ _; omega)
  rw [status_back m hm2.1 hm2.2] at es
  refine Ev.bind (dec_spec n (by omega)) (Ev.yes (by omega) (Ev.yes (by rw [ByteArray.size_append]; show 6 + _ + 9 ≤ _; omega) (Ev.bind et (Ev.bind (dec_spec m (by omega)) (Ev.yes (by omega) (Ev.yes (by rw [ByteArray.size_append]; show 9 + _ + 5 ≤ _; omega) (Ev.bind es ?_)))))))
  exact Ev.yes (by simp) (Ev.yes rfl (Ev.yes (by simp) (Ev.yes rfl (Ev.yes rfl (Ev.bind (dec_spec n (by omega)) (Ev.yes (by omega) (Ev.yes rfl (Ev.yes rfl (by rw [beq_self_eq_true]; exact Ev.now _)))))))))
end Go.Proofs.YtiibecpllokhiaaDoor.Q
