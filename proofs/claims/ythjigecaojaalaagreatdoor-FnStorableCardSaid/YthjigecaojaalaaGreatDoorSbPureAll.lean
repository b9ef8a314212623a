import Derived.Test.YthjigecaojaalaaGreatDoorSbWords
import Derived.Lib.Strings
import Derived.Test.YthjigecaojaalaaGreatDoorSbG10
import Derived.Lib.IndexAny
import Derived.Test.YthjigecaojaalaaGreatDoorSbG28
import Derived.Test.YthjigecaojaalaaGreatDoorSbG45
import Derived.Lib.AtoiAll
import Derived.Lib.ItoaNum
import Derived.Test.YthjigecaojaalaaGreatDoorSbG5
import Derived.Test.YthjigecaojaalaaGreatDoorSbG3
namespace Go.Proofs.YthjigecaojaalaaGreatDoor.Q
open Go.RowKit Go.Proofs.YthjigecaojaalaaGreatDoorW.PrintWords Go.Proofs.YthjigecaojaalaaGreatDoorW.PrintLast Go.Proofs.YthjigecaojaalaaGreatDoorW.PrintMore
/-- With enough rounds g tells something of which P holds. -/
def EvP {α : Type} (g : Nat → Option α) (P : α → Prop) : Prop := ∃ r, Ev g r ∧ P r
theorem Ev.succ {α : Type} {g : Nat → Option α} {r : α} (h : Ev (fun k => g (k + 1)) r) : Ev g r := Ev.step (fun _ => rfl) h
theorem Ev.yes {α : Type} {f g : Nat → Option α} {r : α} {c : Prop} [Decidable c] (hc : c) (h : Ev f r) : Ev (fun k => if c then f k else g k) r := Ev.congr (fun _ => if_pos hc) h
theorem Ev.no {α : Type} {f g : Nat → Option α} {r : α} {c : Prop} [Decidable c] (hc : ¬ c) (h : Ev g r) : Ev (fun k => if c then f k else g k) r := Ev.congr (fun _ => if_neg hc) h
theorem Ev.via {α β : Type} {g : Option α} {f : Nat → α → Option β} {a : α} {r : β} (h : g = some a) (k : Ev (fun n => f n a) r) : Ev (fun n => g.bind (f n)) r := Ev.congr (fun _ => by rw [h]; rfl) k
theorem Ev.const {α : Type} {g : Option α} {a : α} (h : g = some a) : Ev (fun _ => g) a := ⟨0, fun _ _ => h⟩
theorem EvP.bind {α β : Type} {g : Nat → Option α} {f : Nat → α → Option β} {P : α → Prop} {Q : β → Prop} (h : EvP g P) (k : ∀ a, P a → EvP (fun n => f n a) Q) : EvP (fun n => (g n).bind (f n)) Q := by
  obtain ⟨a, ha, hp⟩ := h
  obtain ⟨r, hr, hq⟩ := k a hp
  exact ⟨r, Ev.bind ha hr, hq⟩
theorem EvP.ite {α : Type} {f g : Nat → Option α} {P : α → Prop} {c : Prop} [Decidable c] (h1 : c → EvP f P) (h2 : ¬ c → EvP g P) : EvP (fun k => if c then f k else g k) P := by
  by_cases hc : c
  · obtain ⟨r, hr, hp⟩ := h1 hc; exact ⟨r, Ev.yes hc hr, hp⟩
  · obtain ⟨r, hr, hp⟩ := h2 hc; exact ⟨r, Ev.no hc hr, hp⟩
theorem EvP.yes {α : Type} {f g : Nat → Option α} {P : α → Prop} {c : Prop} [Decidable c] (hc : c) (h : EvP f P) : EvP (fun k => if c then f k else g k) P := EvP.ite (fun _ => h) (fun hn => absurd hc hn)
theorem EvP.no {α : Type} {f g : Nat → Option α} {P : α → Prop} {c : Prop} [Decidable c] (hc : ¬ c) (h : EvP g P) : EvP (fun k => if c then f k else g k) P := EvP.ite (fun hn => absurd hn hc) (fun _ => h)
theorem EvP.ret {α : Type} {a : α} {P : α → Prop} (h : P a) : EvP (fun _ => some a) P := ⟨a, Ev.now a, h⟩
theorem EvP.ev {α : Type} {g : Nat → Option α} {r : α} {P : α → Prop} (h : Ev g r) (hp : P r) : EvP g P := ⟨r, h, hp⟩
theorem EvP.const {α : Type} {g : Option α} {a : α} {P : α → Prop} (h : g = some a) (hp : P a) : EvP (fun _ => g) P := ⟨a, Ev.const h, hp⟩
theorem EvP.succ {α : Type} {g : Nat → Option α} {P : α → Prop} (h : EvP (fun k => g (k + 1)) P) : EvP g P := by
  obtain ⟨r, hr, hp⟩ := h
  exact ⟨r, Ev.succ hr, hp⟩
theorem EvP.imp {α : Type} {g : Nat → Option α} {P Q : α → Prop} (h : EvP g P) (k : ∀ r, P r → Q r) : EvP g Q := by
  obtain ⟨r, hr, hp⟩ := h
  exact ⟨r, hr, k r hp⟩
theorem EvP.is {α : Type} {g : Nat → Option α} {r : α} (h : EvP g (fun x => x = r)) : Ev g r := by
  obtain ⟨_, hr, rfl⟩ := h
  exact hr
end Go.Proofs.YthjigecaojaalaaGreatDoor.Q
namespace Go.Proofs.YthjigecaojaalaaGreatDoor.Q
open Go.RowKit Go.Proofs.YthjigecaojaalaaGreatDoorW.PrintWords Go.Proofs.YthjigecaojaalaaGreatDoorW.PrintLast Go.Proofs.YthjigecaojaalaaGreatDoorW.PrintMore
theorem w64 {n : Int} (h0 : -9223372036854775808 ≤ n) (h1 : n < 9223372036854775808) : wrap64 n = n := by unfold wrap64; omega
theorem wnat (i n : Nat) (h : i < n) (hn : n ≤ 9223372036854775807) : wrap64 ((i : Int) + 1) = ((i + 1 : Nat) : Int) := by rw [w64 (by omega) (by omega)]; rfl
theorem drop_get {α : Type} (l : List α) (i : Nat) (h : i < l.length) : l.drop i = l[i] :: l.drop (i + 1) := List.drop_eq_getElem_cons h
theorem take_set {α : Type} (x : List α) (i : Nat) (v : α) (h : i < x.length) : (x.set i v).take (i + 1) = x.take i ++ [v] := by
  have h2 : i < (x.set i v).length := by rw [List.length_set]; exact h
  rw [List.take_succ_eq_append_getElem h2, List.take_set, List.set_eq_of_length_le (by simp; omega)]
  simp
theorem toL (s : ByteArray) : s.toList = s.data.toList := Lib.toList_data s
theorem sizeL (s : ByteArray) : s.data.toList.length = s.size := (Lib.size_eq s).symm
theorem ba_ext {s t : ByteArray} (h : s.data.toList = t.data.toList) : s = t := ByteArray.ext (Array.toList_inj.1 h)
theorem ext_size (s : ByteArray) (a b : Nat) (h : b ≤ s.size) : (s.extract a b).size = b - a := by
  rw [← sizeL, Lib.extract_data, List.length_take, List.length_drop, sizeL]; omega
theorem bt_get (s : ByteArray) (i : Nat) (h : i < s.size) : bt s (i : Int) = ((s.data.toList[i]'(by rw [sizeL]; exact h)).toNat : Int) := by simp [bt, h]; rfl
theorem bt_rng (s : ByteArray) (i : Int) : 0 ≤ bt s i ∧ bt s i ≤ 255 := bt_range s i
/-- Are all bytes in lo .. hi. -/
def inB (lo hi : Int) (l : List UInt8) : Bool := l.all fun b => decide (lo ≤ (b.toNat : Int) ∧ (b.toNat : Int) ≤ hi)
end Go.Proofs.YthjigecaojaalaaGreatDoor.Q
namespace Go.Proofs.YthjigecaojaalaaGreatDoor.Q
open Go.RowKit Go.Proofs.YthjigecaojaalaaGreatDoorW.PrintWords Go.Proofs.YthjigecaojaalaaGreatDoorW.PrintLast Go.Proofs.YthjigecaojaalaaGreatDoorW.PrintMore
theorem in_spec (a b c : Int) : spec_l01In.f a b c = some (decide (b ≤ a ∧ a ≤ c)) := by
  unfold spec_l01In.f
  by_cases h : a ≥ b
  · rw [if_pos h]; simp [show b ≤ a from h]
  · rw [if_neg h]; simp [show ¬ b ≤ a from h]
theorem in_impl (a b c : Int) : impl_within.f a b c = some (decide (b ≤ a ∧ a ≤ c)) := by
  unfold impl_within.f
  by_cases h : a ≥ b
  · rw [if_pos h]; simp [show b ≤ a from h]
  · rw [if_neg h]; simp [show ¬ b ≤ a from h]
end Go.Proofs.YthjigecaojaalaaGreatDoor.Q
namespace Go.Proofs.YthjigecaojaalaaGreatDoor.Q
open Go.RowKit Go.Proofs.YthjigecaojaalaaGreatDoorW.PrintWords Go.Proofs.YthjigecaojaalaaGreatDoorW.PrintLast Go.Proofs.YthjigecaojaalaaGreatDoorW.PrintMore
theorem bytesIn_l (s : ByteArray) (lo hi : Int) (hs : s.size ≤ 9223372036854775807) (d : Nat) : ∀ i : Nat, i ≤ s.size → s.size - i = d → Ev (fun k => impl_bytesIn.l0 k s lo hi (s.size : Int) (i : Int)) (inB lo hi (s.data.toList.drop i)) := by
  induction d with
  | zero =>
    intro i hi_ hd
    refine Ev.succ ?_
    simp only [impl_bytesIn.l0]
    rw [List.drop_eq_nil_of_le (by rw [sizeL]; omega)]
    exact Ev.no (by omega) (Ev.now _)
  | succ d ih =>
    intro i hi_ hd
    have hlt : i < s.size := by omega
    have hb := bt_rng s i
    refine Ev.succ ?_
    simp only [impl_bytesIn.l0]
    rw [w64 (n := bt s i) (by omega) (by omega), wnat i _ hlt hs, drop_get _ i (by rw [sizeL]; exact hlt)]
    simp only [in_impl, Option.bind_some]
    refine Ev.yes (by omega) (Ev.yes (by omega) (Ev.yes (by omega) ?_))
    rw [bt_get s i hlt]
    by_cases c : lo ≤ ((s.data.toList[i]'(by rw [sizeL]; exact hlt)).toNat : Int) ∧ ((s.data.toList[i]'(by rw [sizeL]; exact hlt)).toNat : Int) ≤ hi
    · refine Ev.yes (decide_eq_true c) ?_
      rw [show inB lo hi (s.data.toList[i]'(by rw [sizeL]; exact hlt) :: s.data.toList.drop (i + 1)) = inB lo hi (s.data.toList.drop (i + 1)) from by simp only [inB, List.all_cons]; rw [decide_eq_true c, Bool.true_and]]
      exact ih (i + 1) (by omega) (by omega)
    · refine Ev.no (by simpa using c) ?_
      rw [show inB lo hi (s.data.toList[i]'(by rw [sizeL]; exact hlt) :: s.data.toList.drop (i + 1)) = false from by simp only [inB, List.all_cons]; rw [decide_eq_false c, Bool.false_and]]
      exact Ev.now _
theorem bytesIn_ev (s : ByteArray) (lo hi : Int) (hs : s.size ≤ 9223372036854775807) : Ev (fun k => impl_bytesIn.f k s lo hi) (inB lo hi s.data.toList) := bytesIn_l s lo hi hs s.size 0 (by omega) (by omega)
end Go.Proofs.YthjigecaojaalaaGreatDoor.Q
namespace Go.Proofs.YthjigecaojaalaaGreatDoor.Q
open Go.RowKit Go.Proofs.YthjigecaojaalaaGreatDoorW.PrintWords Go.Proofs.YthjigecaojaalaaGreatDoorW.PrintLast Go.Proofs.YthjigecaojaalaaGreatDoorW.PrintMore
def numL : Int → List UInt8 → Int
  | acc, [] => acc
  | acc, b :: r => numL (10 * acc + ((b.toNat : Int) - 48)) r
theorem inB_cons (lo hi : Int) (b : UInt8) (r : List UInt8) : inB lo hi (b :: r) = (decide (lo ≤ (b.toNat : Int) ∧ (b.toNat : Int) ≤ hi) && inB lo hi r) := by simp [inB]
theorem pow_le6 (i : Nat) (h : i ≤ 6) : 10 ^ i ≤ 1000000 := Nat.pow_le_pow_right (by omega) h
theorem number_spec_l (s : ByteArray) (hs : s.size ≤ 6) (d : Nat) : ∀ (i : Nat) (acc : Int), i ≤ s.size → s.size - i = d → 0 ≤ acc → acc < ((10 ^ i : Nat) : Int) → Ev (fun k => spec_l10Number.l0 k s acc (i : Int)) (if inB 48 57 (s.data.toList.drop i) = true then (numL acc (s.data.toList.drop i), true) else (0, false)) := by
  induction d with
  | zero =>
    intro i acc hi hd h0 h1
    refine Ev.succ ?_
    simp only [spec_l10Number.l0]
    rw [List.drop_eq_nil_of_le (by rw [sizeL]; omega)]
    exact Ev.no (by omega) (Ev.now _)
  | succ d ih =>
    intro i acc hi hd h0 h1
    have hlt : i < s.size := by omega
    have hp := pow_le6 i (by omega)
    have hl : i < s.data.toList.length := by rw [sizeL]; exact hlt
    refine Ev.succ ?_
    simp only [spec_l10Number.l0]
    rw [bt_get s i hlt, wnat i _ hlt (by omega), drop_get _ i hl, inB_cons, numL]
    have hb := (s.data.toList[i]'hl).toNat_lt
    generalize s.data.toList[i]'hl = b at hb ⊢
    refine Ev.yes (by omega) (Ev.yes (by omega) ?_)
    by_cases c1 : ((b.toNat : Nat) : Int) < 48
    · rw [decide_eq_false (by omega), Bool.false_and]
      exact Ev.yes c1 (Ev.now _)
    · refine Ev.no c1 ?_
      by_cases c2 : ((b.toNat : Nat) : Int) > 57
      · rw [decide_eq_false (by omega), Bool.false_and]
        exact Ev.yes c2 (Ev.now _)
      · rw [decide_eq_true (by omega), Bool.true_and]
        refine Ev.no c2 ?_
        rw [w64 (n := (10 : Int) * acc) (by omega) (by omega), w64 (n := ((b.toNat : Nat) : Int)) (by omega) (by omega), w64 (n := (10 : Int) * acc + ((b.toNat : Nat) : Int)) (by omega) (by omega), w64 (n := (10 : Int) * acc + ((b.toNat : Nat) : Int) - 48) (by omega) (by omega), show (10 : Int) * acc + ((b.toNat : Nat) : Int) - 48 = 10 * acc + (((b.toNat : Nat) : Int) - 48) by omega]
        exact ih (i + 1) _ (by omega) (by omega) (by omega) (by rw [Nat.pow_succ]; omega)
theorem number_spec (s : ByteArray) : Ev (fun k => spec_l10Number.f k s) (if 1 ≤ s.size ∧ s.size ≤ 6 ∧ inB 48 57 s.data.toList = true then (numL 0 s.data.toList, true) else (0, false)) := by
  simp only [spec_l10Number.f, in_spec, Option.bind_some]
  by_cases c : 1 ≤ s.size ∧ s.size ≤ 6
  · refine Ev.yes (decide_eq_true (by omega)) ?_
    have h := number_spec_l s c.2 s.size 0 0 (by omega) (by omega) (by omega) (by decide)
    rw [List.drop_zero] at h
    by_cases c2 : inB 48 57 s.data.toList = true
    · rw [if_pos c2] at h; rw [if_pos ⟨c.1, c.2, c2⟩]; exact h
    · rw [if_neg c2] at h; rw [if_neg (fun q => c2 q.2.2)]; exact h
  · rw [if_neg (fun q => c ⟨q.1, q.2.1⟩)]
    exact Ev.no (by simp; omega) (Ev.now _)
theorem figures_l (s : ByteArray) (hs : s.size ≤ 6) (d : Nat) : ∀ (i : Nat) (acc : Int), i ≤ s.size → s.size - i = d → inB 48 57 (s.data.toList.drop i) = true → 0 ≤ acc → acc < ((10 ^ i : Nat) : Int) → Ev (fun k => impl_figuresOf.l0 k s acc (s.size : Int) (i : Int)) (numL acc (s.data.toList.drop i), true) := by
  induction d with
  | zero =>
    intro i acc hi hd hb h0 h1
    refine Ev.succ ?_
    simp only [impl_figuresOf.l0]
    rw [List.drop_eq_nil_of_le (by rw [sizeL]; omega)]
    exact Ev.no (by omega) (Ev.now _)
  | succ d ih =>
    intro i acc hi hd hb h0 h1
    have hlt : i < s.size := by omega
    have hp := pow_le6 i (by omega)
    have hl : i < s.data.toList.length := by rw [sizeL]; exact hlt
    refine Ev.succ ?_
    simp only [impl_figuresOf.l0]
    rw [bt_get s i hlt, wnat i _ hlt (by omega), drop_get _ i hl, numL]
    rw [drop_get _ i hl, inB_cons, Bool.and_eq_true, decide_eq_true_eq] at hb
    generalize s.data.toList[i]'hl = b at hb ⊢
    rw [show (((b.toNat : Nat) : Int) - 48) % 256 = ((b.toNat : Nat) : Int) - 48 by omega, w64 (n := (10 : Int) * acc) (by omega) (by omega), w64 (n := (10 : Int) * acc + (((b.toNat : Nat) : Int) - 48)) (by omega) (by omega)]
    refine Ev.yes (by omega) (Ev.yes (by omega) (Ev.yes (by omega) ?_))
    exact ih (i + 1) _ (by omega) (by omega) hb.2 (by omega) (by rw [Nat.pow_succ]; omega)
theorem figures_ev (s : ByteArray) (m : Nat) (hm : m ≤ 6) (hs : s.size ≤ 9223372036854775807) : Ev (fun k => impl_figuresOf.f k s (m : Int)) (if 1 ≤ s.size ∧ s.size ≤ m ∧ inB 48 57 s.data.toList = true then (numL 0 s.data.toList, true) else (0, false)) := by
  simp only [impl_figuresOf.f, in_impl, Option.bind_some]
  by_cases c : 1 ≤ s.size ∧ s.size ≤ m
  · refine Ev.yes (decide_eq_true (by omega)) (Ev.bind (bytesIn_ev s 48 57 hs) (Ev.succ ?_))
    simp only [impl_figuresOf.j0]
    by_cases c2 : inB 48 57 s.data.toList = true
    · rw [if_pos ⟨c.1, c.2, c2⟩, c2]
      have h := figures_l s (by omega) s.size 0 0 (by omega) (by omega) (by rw [List.drop_zero]; exact c2) (by omega) (by decide)
      rw [List.drop_zero] at h
      exact Ev.no (by decide) h
    · rw [if_neg (fun q => c2 q.2.2)]
      exact Ev.yes (by simpa using c2) (Ev.now _)
  · rw [if_neg (fun q => c ⟨q.1, q.2.1⟩)]
    refine Ev.no (by simp; omega) (Ev.succ ?_)
    simp only [impl_figuresOf.j0]
    exact Ev.yes trivial (Ev.now _)
end Go.Proofs.YthjigecaojaalaaGreatDoor.Q
namespace Go.Proofs.YthjigecaojaalaaGreatDoor.Q
open Go.RowKit Go.Proofs.YthjigecaojaalaaGreatDoorW.PrintWords Go.Proofs.YthjigecaojaalaaGreatDoorW.PrintLast Go.Proofs.YthjigecaojaalaaGreatDoorW.PrintMore
set_option linter.unusedSimpArgs false
def ba (l : List UInt8) : ByteArray := ⟨l.toArray⟩
theorem ba_toL (l : List UInt8) : (ba l).data.toList = l := by simp [ba]
theorem ba_list (l : List UInt8) : (ba l).toList = l := by rw [toL, ba_toL]
theorem ba_size (l : List UInt8) : (ba l).size = l.length := by rw [← sizeL, ba_toL]
theorem ba_of (s : ByteArray) : ba s.data.toList = s := by apply ba_ext; rw [ba_toL]
def ct (p : List UInt8) : List UInt8 → List UInt8 × List UInt8 × Bool
  | [] => ([], [], false)
  | b :: t => if p.isPrefixOf (b :: t) then ([], (b :: t).drop p.length, true) else if (ct p t).2.2 = true then (b :: (ct p t).1, (ct p t).2.1, true) else (b :: t, [], false)
theorem cut_ct (p : List UInt8) (hp : p ≠ []) (t : List UInt8) : Lib.cut t p = ct p t := by
  induction t with
  | nil =>
    cases p with
    | nil => exact absurd rfl hp
    | cons a p => rfl
  | cons b t ih =>
    rw [ct]
    unfold Lib.cut at ih ⊢
    rw [Lib.index]
    by_cases c : p.isPrefixOf (b :: t) = true
    · rw [if_pos c, if_pos c]; simp
    · rw [if_neg c, if_neg c, ← ih]
      have g : -1 ≤ Lib.index t p := by
        clear ih c
        induction t with
        | nil => rw [Lib.index]; split <;> decide
        | cons a t ih => rw [Lib.index]; split; decide; split; decide; omega
      by_cases c2 : Lib.index t p = -1
      · rw [c2]; simp
      · have h0 : 0 ≤ Lib.index t p := by omega
        have e1 : (Lib.index t p == -1) = false := by simpa using c2
        rw [e1]
        simp only [if_pos h0, Bool.false_eq_true, if_false, if_true]
        rw [if_pos (by omega)]
        have e2 : (Lib.index t p + 1).toNat = (Lib.index t p).toNat + 1 := by omega
        rw [e2, List.take_succ_cons, show (Lib.index t p).toNat + 1 + p.length = (Lib.index t p).toNat + p.length + 1 by omega, List.drop_succ_cons]
theorem ct_true {p t : List UInt8} (h : (ct p t).2.2 = true) : t = (ct p t).1 ++ p ++ (ct p t).2.1 := by
  induction t with
  | nil => simp [ct] at h
  | cons b t ih =>
    rw [ct] at h ⊢
    by_cases c : p.isPrefixOf (b :: t) = true
    · rw [if_pos c]
      obtain ⟨r, hr⟩ := List.isPrefixOf_iff_prefix.1 c
      simp only [List.nil_append]
      rw [← hr, List.drop_left]
    · rw [if_neg c] at h ⊢
      by_cases c2 : (ct p t).2.2 = true
      · rw [if_pos c2]
        have := ih c2
        simp only [List.cons_append]
        rw [← this]
      · rw [if_neg c2] at h; simp at h
theorem ct_false {p t : List UInt8} (h : (ct p t).2.2 = false) : (ct p t).1 = t := by
  cases t with
  | nil => rfl
  | cons b t =>
    rw [ct] at h ⊢
    by_cases c : p.isPrefixOf (b :: t) = true
    · rw [if_pos c] at h; simp at h
    · rw [if_neg c] at h ⊢
      by_cases c2 : (ct p t).2.2 = true
      · rw [if_pos c2] at h; simp at h
      · rw [if_neg c2]
theorem cut_ev (s : ByteArray) (p : ByteArray) (hp : p.data.toList ≠ []) (hs : s.size ≤ 4000000000) : strings_Cut.f s p = some (ba (ct p.data.toList s.data.toList).1, ba (ct p.data.toList s.data.toList).2.1, (ct p.data.toList s.data.toList).2.2) := by
  unfold strings_Cut.f
  rw [if_pos (by omega), cut_ct _ hp]; rfl
theorem ext_ba (s : ByteArray) (a b : Nat) : s.extract a b = ba ((s.data.toList.drop a).take (b - a)) := by
  apply ba_ext; rw [ba_toL, Lib.extract_data]
end Go.Proofs.YthjigecaojaalaaGreatDoor.Q
namespace Go.Proofs.YthjigecaojaalaaGreatDoor.Q
open Go.RowKit Go.Proofs.YthjigecaojaalaaGreatDoorW.PrintWords Go.Proofs.YthjigecaojaalaaGreatDoorW.PrintLast Go.Proofs.YthjigecaojaalaaGreatDoorW.PrintMore
theorem b32 (b : UInt8) : (b.toNat : Int) = 32 ↔ b = 32 := by
  constructor
  · intro h
    exact UInt8.toNat_inj.1 (by show b.toNat = 32; omega)
  · rintro rfl; rfl
set_option linter.unusedSimpArgs false
theorem trimR_last (l : List UInt8) (b : UInt8) : Lib.trimRightB (l ++ [b]) 32 = if b = 32 then Lib.trimRightB l 32 else l ++ [b] := by
  unfold Lib.trimRightB
  rw [List.reverse_append]
  simp only [List.reverse_cons, List.reverse_nil, List.nil_append, List.singleton_append]
  by_cases c : b = 32
  · subst c; simp
  · simp [c]
theorem trimR_cons (b : UInt8) (t : List UInt8) : Lib.trimRightB (b :: t) 32 = if Lib.trimRightB t 32 = [] ∧ b = 32 then [] else b :: Lib.trimRightB t 32 := by
  unfold Lib.trimRightB
  rw [List.reverse_cons, List.dropWhile_append]
  by_cases c : (t.reverse.dropWhile (· == (32 : UInt8))) = []
  · rw [c]
    by_cases d : b = 32
    · subst d; simp
    · simp [d]
  · have : (t.reverse.dropWhile (· == (32 : UInt8))).isEmpty = false := by simpa using c
    rw [this, if_neg (by simp)]
    rw [if_neg (fun h => c (by simpa using h.1))]
    simp
theorem trim_swap (l : List UInt8) : Lib.trimRightB (Lib.trimLeftB l 32) 32 = Lib.trimB l 32 := by
  unfold Lib.trimB
  induction l with
  | nil => rfl
  | cons b t ih =>
    rw [trimR_cons]
    unfold Lib.trimLeftB at *
    by_cases c : b = 32
    · subst c
      rw [List.dropWhile_cons_of_pos (by simp), ih]
      by_cases d : Lib.trimRightB t 32 = []
      · rw [if_pos ⟨d, rfl⟩, d]
      · rw [if_neg (fun h => d h.1), List.dropWhile_cons_of_pos (by simp)]
    · rw [List.dropWhile_cons_of_neg (by simp [c]), if_neg (fun h => c h.2), List.dropWhile_cons_of_neg (by simp [c]), trimR_cons, if_neg (fun h => c h.2)]
theorem trimS_r (d : Nat) : ∀ s : ByteArray, s.size = d → s.size ≤ 9223372036854775807 → Ev (fun k => spec_l09Trim.l1 k s) (ba (Lib.trimRightB s.data.toList 32)) := by
  induction d with
  | zero =>
    intro s hd hs
    have : s.data.toList = [] := List.eq_nil_of_length_eq_zero (by rw [sizeL]; exact hd)
    refine Ev.succ ?_
    simp only [spec_l09Trim.l1]
    rw [this, show ba (Lib.trimRightB [] 32) = s from by rw [← ba_of s, this]; rfl]
    exact Ev.no (by omega) (Ev.now _)
  | succ d ih =>
    intro s hd hs
    refine Ev.succ ?_
    simp only [spec_l09Trim.l1]
    have hw : wrap64 ((s.size : Int) - 1) = ((s.size - 1 : Nat) : Int) := by rw [w64 (by omega) (by omega)]; omega
    rw [hw, bt_get s (s.size - 1) (by omega)]
    refine Ev.yes (by omega) (Ev.yes (by omega) (Ev.yes (by omega) ?_))
    have hl : s.data.toList = s.data.toList.take (s.size - 1) ++ [s.data.toList[s.size - 1]'(by rw [sizeL]; omega)] := by
      have h2 := List.take_succ_eq_append_getElem (l := s.data.toList) (i := s.size - 1) (by rw [sizeL]; omega)
      rw [← h2, List.take_of_length_le (by rw [sizeL]; omega)]
    have e := trimR_last (s.data.toList.take (s.size - 1)) (s.data.toList[s.size - 1]'(by rw [sizeL]; omega))
    rw [← hl] at e
    rw [e]
    by_cases c : s.data.toList[s.size - 1]'(by rw [sizeL]; omega) = 32
    · rw [if_pos c]
      refine Ev.yes ((b32 _).2 c) (Ev.yes (by omega) ?_)
      have e2 : (s.extract 0 (((s.size - 1 : Nat) : Int)).toNat) = ba (s.data.toList.take (s.size - 1)) := by rw [Int.toNat_natCast, ext_ba]; simp
      rw [e2]
      have := ih (ba (s.data.toList.take (s.size - 1))) (by rw [ba_size, List.length_take, sizeL]; omega) (by rw [ba_size, List.length_take, sizeL]; omega)
      rw [ba_toL] at this
      exact this
    · rw [if_neg c, ba_of]
      exact Ev.no (fun h => c ((b32 _).1 h)) (Ev.now _)
theorem trimS_l (d : Nat) : ∀ s : ByteArray, s.size = d → s.size ≤ 9223372036854775807 → Ev (fun k => spec_l09Trim.l0 k s) (ba (Lib.trimRightB (Lib.trimLeftB s.data.toList 32) 32)) := by
  have jt : ∀ s : ByteArray, s.size ≤ 9223372036854775807 → Ev (fun k => spec_l09Trim.j1 k s) (ba (Lib.trimRightB s.data.toList 32)) := fun s hs => by
    refine Ev.succ ?_
    simp only [spec_l09Trim.j1]; exact trimS_r s.size s rfl hs
  induction d with
  | zero =>
    intro s hd hs
    have : s.data.toList = [] := List.eq_nil_of_length_eq_zero (by rw [sizeL]; exact hd)
    have h := jt s hs
    refine Ev.succ ?_
    simp only [spec_l09Trim.l0]
    rw [this] at h ⊢
    exact Ev.no (by omega) h
  | succ d ih =>
    intro s hd hs
    refine Ev.succ ?_
    simp only [spec_l09Trim.l0]
    have eb := bt_get s 0 (by omega)
    rw [show ((0 : Nat) : Int) = 0 from rfl] at eb
    rw [eb]
    have hl := drop_get s.data.toList 0 (by rw [sizeL]; omega)
    rw [List.drop_zero] at hl
    refine Ev.yes (by omega) (Ev.yes (by omega) ?_)
    by_cases c : s.data.toList[0]'(by rw [sizeL]; omega) = 32
    · refine Ev.yes ((b32 _).2 c) (Ev.yes (by omega) ?_)
      have e2 : s.extract 1 s.size = ba (s.data.toList.drop 1) := by rw [ext_ba, List.take_of_length_le (by rw [List.length_drop, sizeL]; omega)]
      rw [e2]
      have h := ih (ba (s.data.toList.drop 1)) (by rw [ba_size, List.length_drop, sizeL]; omega) (by rw [ba_size, List.length_drop, sizeL]; omega)
      rw [ba_toL] at h
      have e3 : Lib.trimLeftB s.data.toList 32 = Lib.trimLeftB (s.data.toList.drop 1) 32 := by
        unfold Lib.trimLeftB
        conv => lhs; rw [hl]
        rw [List.dropWhile_cons_of_pos (by simp [c])]
      rw [e3]
      exact h
    · have e3 : Lib.trimLeftB s.data.toList 32 = s.data.toList := by
        unfold Lib.trimLeftB
        conv => lhs; rw [hl]
        rw [List.dropWhile_cons_of_neg (p := fun x => x == (32 : UInt8)) (fun h => c (beq_iff_eq.1 h))]
        exact hl.symm
      rw [e3]
      exact Ev.no (fun h => c ((b32 _).1 h)) (jt s hs)
theorem trimS_ev (s : ByteArray) (hs : s.size ≤ 9223372036854775807) : Ev (fun k => spec_l09Trim.f k s) (ba (Lib.trimB s.data.toList 32)) := by
  have := trimS_l s.size s rfl hs
  rw [trim_swap] at this
  exact this
theorem low_ba (l : List UInt8) : impl_lower.all (ba l) = ba (l.map impl_lower.one) := by
  apply ba_ext; rw [ba_toL]; unfold impl_lower.all ba; simp
theorem trim_len (l : List UInt8) : (Lib.trimB l 32).length ≤ l.length := by
  unfold Lib.trimB Lib.trimLeftB Lib.trimRightB
  have h1 := (List.dropWhile_sublist (l := (l.reverse.dropWhile (· == (32 : UInt8))).reverse) (· == (32 : UInt8))).length_le
  have h2 := (List.dropWhile_sublist (l := l.reverse) (· == (32 : UInt8))).length_le
  rw [List.length_reverse] at h1 h2
  omega
theorem ct_len {p t : List UInt8} : (ct p t).1.length ≤ t.length ∧ (ct p t).2.1.length ≤ t.length := by
  cases h : (ct p t).2.2 with
  | true =>
    have := congrArg List.length (ct_true h)
    simp only [List.length_append] at this
    omega
  | false =>
    refine ⟨by rw [ct_false h]; omega, ?_⟩
    cases t with
    | nil => simp [ct]
    | cons b t =>
      rw [ct] at h ⊢
      split at h
      · cases h
      · rename_i c
        rw [if_neg c]
        split at h
        · cases h
        · rename_i c2; rw [if_neg c2]; simp
theorem ct1 (c b : UInt8) (t : List UInt8) : ct [c] (b :: t) = if b = c then ([], t, true) else if (ct [c] t).2.2 = true then (b :: (ct [c] t).1, (ct [c] t).2.1, true) else (b :: t, [], false) := by
  rw [ct]
  by_cases h : b = c
  · subst h; simp [List.isPrefixOf]
  · rw [if_neg h, if_neg (by simp [List.isPrefixOf, Ne.symm h])]
end Go.Proofs.YthjigecaojaalaaGreatDoor.Q
namespace Go.Proofs.YthjigecaojaalaaGreatDoor.Q
open Go.RowKit Go.Proofs.YthjigecaojaalaaGreatDoorW.PrintWords Go.Proofs.YthjigecaojaalaaGreatDoorW.PrintLast Go.Proofs.YthjigecaojaalaaGreatDoorW.PrintMore
abbrev C4 := Bool × Bool × Int × Int
def numO (l : List UInt8) : Int × Bool := if 1 ≤ l.length ∧ l.length ≤ 6 ∧ inB 48 57 l = true then (numL 0 l, true) else (0, false)
def partP (t : List UInt8) : List UInt8 := (Lib.trimB t 32).map impl_lower.one
def nmAge : List UInt8 := [109, 97, 120, 45, 97, 103, 101]
def nmSh : List UInt8 := [115, 45, 109, 97, 120, 97, 103, 101]
def u1 (p : List UInt8) (c : C4) : C4 := if p = [110, 111, 45, 115, 116, 111, 114, 101] ∨ p = [112, 114, 105, 118, 97, 116, 101] then (true, c.2.1, c.2.2.1, c.2.2.2) else if p = [110, 111, 45, 99, 97, 99, 104, 101] then (c.1, true, c.2.2.1, c.2.2.2) else c
def u2 (p : List UInt8) (c : C4) : C4 := if (ct [61] p).1 = nmAge ∧ (numO (ct [61] p).2.1).2 = true then (c.1, c.2.1, (numO (ct [61] p).2.1).1, c.2.2.2) else c
def u3 (p : List UInt8) (c : C4) : C4 := if (ct [61] p).1 = nmSh ∧ (numO (ct [61] p).2.1).2 = true then (c.1, c.2.1, c.2.2.1, (numO (ct [61] p).2.1).1) else c
def upd (p : List UInt8) (c : C4) : C4 := u3 p (u2 p (u1 p c))
theorem ct_false2 {p t : List UInt8} (h : (ct p t).2.2 = false) : (ct p t).2.1 = [] := by
  cases t with
  | nil => simp [ct]
  | cons b t =>
    rw [ct] at h ⊢
    split at h
    · cases h
    · rename_i c
      rw [if_neg c]
      split at h
      · cases h
      · rename_i c2; rw [if_neg c2]
theorem numO_found {p : List UInt8} (h : (numO (ct [61] p).2.1).2 = true) : (ct [61] p).2.2 = true := by
  cases e : (ct [61] p).2.2 with
  | true => rfl
  | false => rw [ct_false2 e] at h; exact absurd h (by decide)
theorem ct_at1 {c : UInt8} {x : List UInt8} (h : ∀ b ∈ x, b ≠ c) (y : List UInt8) : ct [c] (x ++ c :: y) = (x, y, true) := by
  induction x with
  | nil => rw [List.nil_append, ct1, if_pos rfl]
  | cons b x ih =>
    rw [List.cons_append, ct1, if_neg (h b (by simp)), ih (fun d hd => h d (by simp [hd]))]
    simp
theorem begins_yes {nm p : List UInt8} (hn : ∀ b ∈ nm, b ≠ 61) (h : p.take (nm.length + 1) = nm ++ [61]) : ct [61] p = (nm, p.drop (nm.length + 1), true) := by
  have e : p = nm ++ 61 :: p.drop (nm.length + 1) := by
    have := List.take_append_drop (nm.length + 1) p
    rw [h] at this
    rw [← List.singleton_append, ← List.append_assoc]; exact this.symm
  conv => lhs; rw [e]
  exact ct_at1 hn _
theorem begins_no {nm p : List UInt8} (h : ¬ p.take (nm.length + 1) = nm ++ [61]) : ¬ ((ct [61] p).1 = nm ∧ (numO (ct [61] p).2.1).2 = true) := by
  rintro ⟨h1, h2⟩
  have e := ct_true (numO_found h2)
  rw [h1] at e
  apply h
  rw [e, List.take_left' (by simp)]
theorem number_ba (l : List UInt8) : Ev (fun k => spec_l10Number.f k (ba l)) (numO l) := by
  have := number_spec (ba l)
  rw [ba_toL, ba_size] at this
  exact this
theorem figures_ba (l : List UInt8) (h : l.length ≤ 9223372036854775807) : Ev (fun k => impl_figuresOf.f k (ba l) 6) (numO l) := by
  have := figures_ev (ba l) 6 (by omega) (by rw [ba_size]; omega)
  rw [ba_toL, ba_size] at this
  exact this
theorem begins_ev (p : List UInt8) (q : ByteArray) : spec_l10Begins.f (ba p) q = some (decide (p.take q.size = q.data.toList)) := by
  unfold spec_l10Begins.f
  rw [ba_size]
  by_cases c : (p.length : Int) ≥ (q.size : Int)
  · rw [if_pos c, if_pos (by omega), if_pos (by omega), Int.toNat_natCast, toL, toL, Lib.extract_data, ba_toL, List.drop_zero, Nat.sub_zero]
    congr 1
    rw [Bool.eq_iff_iff, beq_iff_eq, decide_eq_true_iff]
  · rw [if_neg c, decide_eq_false]
    intro h
    have := congrArg List.length h
    rw [List.length_take, sizeL] at this
    omega
theorem part_2 (p : List UInt8) (c : C4) : Ev (fun k => spec_l10Part.j2 k (ba p) c.1 c.2.1 c.2.2.1 c.2.2.2) (u3 p c) := by
  refine Ev.succ ?_
  simp only [spec_l10Part.j2]
  refine Ev.via (begins_ev p _) ?_
  by_cases h : p.take (nmSh.length + 1) = nmSh ++ [61]
  · have e := begins_yes (nm := nmSh) (by decide) h
    have hl : 9 ≤ p.length := by
      have := congrArg List.length h
      rw [List.length_take] at this
      simp [nmSh] at this
      omega
    refine Ev.yes (decide_eq_true h) (Ev.yes (by rw [ba_size]; omega) ?_)
    have e9 : (ba p).extract 9 (ba p).size = ba (p.drop 9) := by
      apply ba_ext; rw [Lib.extract_data, ba_toL, ba_size, ba_toL, List.take_of_length_le (by rw [List.length_drop]; omega)]
    rw [e9]
    refine Ev.bind (number_ba _) ?_
    by_cases g : (numO (p.drop 9)).2 = true
    · have : u3 p c = (c.1, c.2.1, c.2.2.1, (numO (p.drop 9)).1) := by unfold u3; rw [e]; exact if_pos ⟨rfl, g⟩
      rw [this]; exact Ev.yes g (Ev.now _)
    · have : u3 p c = c := by unfold u3; rw [e]; exact if_neg (fun h => g h.2)
      rw [this]; exact Ev.no g (Ev.now _)
  · have : u3 p c = c := if_neg (begins_no h)
    rw [this]
    exact Ev.no (fun q => h (of_decide_eq_true q)) (Ev.now _)
theorem part_1 (p : List UInt8) (c : C4) : Ev (fun k => spec_l10Part.j1 k (ba p) c.1 c.2.1 c.2.2.1 c.2.2.2) (u3 p (u2 p c)) := by
  refine Ev.succ ?_
  simp only [spec_l10Part.j1]
  refine Ev.via (begins_ev p _) ?_
  by_cases h : p.take (nmAge.length + 1) = nmAge ++ [61]
  · have e := begins_yes (nm := nmAge) (by decide) h
    have hl : 8 ≤ p.length := by
      have := congrArg List.length h
      rw [List.length_take] at this
      simp [nmAge] at this
      omega
    refine Ev.yes (decide_eq_true h) (Ev.yes (by rw [ba_size]; omega) ?_)
    have e8 : (ba p).extract 8 (ba p).size = ba (p.drop 8) := by
      apply ba_ext; rw [Lib.extract_data, ba_toL, ba_size, ba_toL, List.take_of_length_le (by rw [List.length_drop]; omega)]
    rw [e8]
    refine Ev.bind (number_ba _) ?_
    by_cases g : (numO (p.drop 8)).2 = true
    · have : u2 p c = (c.1, c.2.1, (numO (p.drop 8)).1, c.2.2.2) := by unfold u2; rw [e]; exact if_pos ⟨rfl, g⟩
      rw [this]; exact Ev.yes g (part_2 p (c.1, c.2.1, (numO (p.drop 8)).1, c.2.2.2))
    · have : u2 p c = c := by unfold u2; rw [e]; exact if_neg (fun h => g h.2)
      rw [this]; exact Ev.no g (part_2 p c)
  · have : u2 p c = c := if_neg (begins_no h)
    rw [this]
    exact Ev.no (fun q => h (of_decide_eq_true q)) (part_2 p c)
theorem part_0 (p : List UInt8) (c : C4) (b : Bool) (hb : b = true ↔ (p = [110, 111, 45, 115, 116, 111, 114, 101] ∨ p = [112, 114, 105, 118, 97, 116, 101])) : Ev (fun k => spec_l10Part.j0 k (ba p) (ba p) b c.1 c.2.1 c.2.2.1 c.2.2.2) (upd p c) := by
  refine Ev.succ ?_
  simp only [spec_l10Part.j0, ba_list]
  unfold upd
  by_cases h : b = true
  · have : u1 p c = (true, c.2.1, c.2.2.1, c.2.2.2) := if_pos (hb.1 h)
    rw [this]; exact Ev.yes h (part_1 p (true, c.2.1, c.2.2.1, c.2.2.2))
  · refine Ev.no h ?_
    by_cases g : p = [110, 111, 45, 99, 97, 99, 104, 101]
    · have : u1 p c = (c.1, true, c.2.2.1, c.2.2.2) := by unfold u1; rw [if_neg (fun q => h (hb.2 q)), if_pos g]
      rw [this]; exact Ev.yes g (part_1 p (c.1, true, c.2.2.1, c.2.2.2))
    · have : u1 p c = c := by unfold u1; rw [if_neg (fun q => h (hb.2 q)), if_neg g]
      rw [this]; exact Ev.no g (part_1 p c)
theorem part_ev (t : List UInt8) (ht : t.length ≤ 1048576) (c : C4) : Ev (fun k => spec_l10Part.f k c.1 c.2.1 c.2.2.1 c.2.2.2 (ba t)) (upd (partP t) c) := by
  simp only [spec_l10Part.f]
  have h1 := trimS_ev (ba t) (by rw [ba_size]; omega)
  rw [ba_toL] at h1
  have hl := trim_len t
  refine Ev.bind h1 (Ev.via (a := ba (partP t)) (by unfold spec_l09Low.f; rw [if_pos (by rw [ba_size]; omega), low_ba]; rfl) ?_)
  rw [ba_list]
  by_cases c1 : partP t = [110, 111, 45, 115, 116, 111, 114, 101]
  · exact Ev.yes c1 (part_0 _ c _ (by simp [c1]))
  · exact Ev.no c1 (part_0 _ c _ (by simp [c1]))
def foldC (l : List (List UInt8)) (c : C4) : C4 := l.foldl (fun c t => upd (partP t) c) c
def spA : List UInt8 → List UInt8 → List (List UInt8)
  | u, [] => [u]
  | u, b :: t => if b = 44 then u :: spA [] t else spA (u ++ [b]) t
def prep (u : List UInt8) : List (List UInt8) → List (List UInt8)
  | [] => [u]
  | h :: r => (u ++ h) :: r
theorem splitK_ne (n : Nat) (t : List UInt8) : Lib.splitK [44] 0 n t ≠ [] := by
  cases n with
  | zero => simp [Lib.splitK]
  | succ n => rw [Lib.splitK]; split <;> simp
theorem prep_nil {l : List (List UInt8)} (h : l ≠ []) : prep [] l = l := by
  cases l with
  | nil => exact absurd rfl h
  | cons a l => rfl
theorem prep_prep (u v : List UInt8) (l : List (List UInt8)) (h : l ≠ []) : prep u (prep v l) = prep (u ++ v) l := by
  cases l with
  | nil => exact absurd rfl h
  | cons a l => simp [prep]
theorem spA_split (t : List UInt8) : ∀ u, spA u t = prep u (Lib.splitK [44] 0 (Lib.count t [44]) t) := by
  induction t with
  | nil =>
    intro u
    rw [Lib.count_miss (by simp [Lib.index])]
    simp [spA, prep, Lib.splitK]
  | cons b t ih =>
    intro u
    rw [spA]
    by_cases c : b = 44
    · subst c
      rw [if_pos rfl, ih, prep_nil (splitK_ne _ _), Lib.count_cons_eq, Nat.add_comm 1, Lib.splitK]
      have hix : Lib.index ((44 : UInt8) :: t) [44] = 0 := by rw [Lib.index]; simp [List.isPrefixOf]
      rw [hix, if_neg (by decide)]
      simp [prep]
    · rw [if_neg c, ih, Lib.count_cons_ne b 44 t c, ← prep_prep u [b] _ (splitK_ne _ _)]
      congr 1
      have hp : ([44] : List UInt8).isPrefixOf (b :: t) = false := by simp [List.isPrefixOf, Ne.symm c]
      have hix : Lib.index (b :: t) [44] = if Lib.index t [44] == -1 then -1 else Lib.index t [44] + 1 := by rw [Lib.index, hp]; simp
      cases hn : Lib.count t [44] with
      | zero => simp [Lib.splitK, prep]
      | succ n =>
        have hge := Lib.index_ge t [44]
        by_cases hm : Lib.index t [44] = -1
        · rw [Lib.count_miss hm] at hn; cases hn
        · have e1 : (Lib.index t [44] == -1) = false := by simpa using hm
          rw [Lib.splitK, Lib.splitK, hix, e1]
          simp only [Bool.false_eq_true, if_false]
          have e2 : (Lib.index t [44] + 1 == -1) = false := by rw [beq_eq_false_iff_ne]; omega
          rw [e2]
          simp only [Bool.false_eq_true, if_false, Nat.add_zero, prep]
          rw [show (Lib.index t [44] + 1).toNat = (Lib.index t [44]).toNat + 1 by omega, List.take_succ_cons, show (Lib.index t [44]).toNat + 1 + ([44] : List UInt8).length = (Lib.index t [44]).toNat + ([44] : List UInt8).length + 1 by omega, List.drop_succ_cons]
          rfl
theorem split_ev (s : ByteArray) (hs : s.size ≤ 1048576) : strings_Split.f s (⟨#[44]⟩ : ByteArray) = some ((spA [] s.data.toList).map ba) := by
  unfold strings_Split.f
  have hc := Lib.countB_le (⟨#[44]⟩ : ByteArray) (by decide) s.size s (Nat.le_refl _)
  rw [if_pos ⟨by omega, by decide, by unfold maxLen; omega⟩]
  congr 1
  have h1 := Lib.splitB_data (⟨#[44]⟩ : ByteArray) 0 (Lib.countB s ⟨#[44]⟩) s
  have h2 := spA_split s.data.toList []
  rw [prep_nil (splitK_ne _ _)] at h2
  rw [h2]
  have e : Lib.countB s (⟨#[44]⟩ : ByteArray) = Lib.count s.data.toList [44] := rfl
  rw [e] at h1 ⊢
  have h3 : (Lib.splitB (⟨#[44]⟩ : ByteArray) 0 (Lib.count s.data.toList [44]) s).map (fun x => ba x.data.toList) = (Lib.splitK [44] 0 (Lib.count s.data.toList [44]) s.data.toList).map ba := by
    have := congrArg (List.map ba) h1
    rw [List.map_map] at this
    exact this
  rw [← h3]
  conv => lhs; rw [← List.map_id (Lib.splitB _ _ _ _)]
  exact List.map_congr_left fun x _ => (ba_of x).symm
theorem spA_mem (t : List UInt8) : ∀ u x, x ∈ spA u t → x.length ≤ u.length + t.length := by
  induction t with
  | nil => intro u x h; rw [spA, List.mem_singleton] at h; subst h; simp
  | cons b t ih =>
    intro u x h
    rw [spA] at h
    split at h
    · rcases List.mem_cons.1 h with rfl | h
      · simp
      · have := ih _ _ h; simp at this ⊢; omega
    · have := ih _ _ h; simp at this ⊢; omega
theorem spA_len (t : List UInt8) : ∀ u, (spA u t).length ≤ t.length + 1 := by
  induction t with
  | nil => intro u; simp [spA]
  | cons b t ih =>
    intro u
    rw [spA]
    split
    · have := ih []; simp; omega
    · have := ih (u ++ [b]); simp; omega
theorem ctl_spec_l (s : ByteArray) (hs : s.size ≤ 1048576) (d : Nat) : ∀ (i at_ : Nat) (c : C4), at_ ≤ i → i ≤ s.size → s.size - i = d → Ev (fun k => spec_ControlOf.l0 k s (at_ : Int) (i : Int) c.1 c.2.1 c.2.2.1 c.2.2.2) (foldC (spA ((s.data.toList.drop at_).take (i - at_)) (s.data.toList.drop i)) c) := by
  induction d with
  | zero =>
    intro i at_ c h0 hi hd
    obtain rfl : i = s.size := by omega
    refine Ev.succ ?_
    simp only [spec_ControlOf.l0]
    rw [show s.data.toList.drop s.size = [] from List.drop_eq_nil_of_le (by rw [sizeL]; omega), spA]
    have e := ext_ba s at_ s.size
    have hp := part_ev ((s.data.toList.drop at_).take (s.size - at_)) (by rw [List.length_take, List.length_drop, sizeL]; omega) c
    rw [← e] at hp
    refine Ev.yes (by omega) (Ev.yes trivial (Ev.yes (by omega) (Ev.yes (by omega) (Ev.yes (by omega) (Ev.bind (by simp only [Int.toNat_natCast]; exact hp) ?_)))))
    refine Ev.succ ?_
    simp only [spec_ControlOf.l0]
    rw [w64 (n := (s.size : Int) + 1) (by omega) (by omega)]
    exact Ev.no (by omega) (Ev.now _)
  | succ d ih =>
    intro i at_ c h0 hi hd
    have hlt : i < s.size := by omega
    refine Ev.succ ?_
    simp only [spec_ControlOf.l0]
    rw [wnat i s.size hlt (by omega), drop_get s.data.toList i (by rw [sizeL]; exact hlt), bt_get s i hlt, spA]
    have hz := ih (i + 1) at_ c (by omega) (by omega) (by omega)
    have hz2 := fun c' => ih (i + 1) (i + 1) c' (by omega) (by omega) (by omega)
    have ht : (s.data.toList.drop at_).take (i + 1 - at_) = (s.data.toList.drop at_).take (i - at_) ++ [s.data.toList[i]'(by rw [sizeL]; exact hlt)] := by
      rw [show i + 1 - at_ = (i - at_) + 1 by omega, List.take_succ_eq_append_getElem (by rw [List.length_drop, sizeL]; omega)]
      congr 2
      rw [List.getElem_drop]
      congr 1; omega
    rw [ht] at hz
    have e := ext_ba s at_ i
    have hp := part_ev ((s.data.toList.drop at_).take (i - at_)) (by rw [List.length_take, List.length_drop, sizeL]; omega) c
    rw [← e] at hp
    generalize s.data.toList[i]'(by rw [sizeL]; exact hlt) = b at *
    have b44 : ((b.toNat : Int) = 44) ↔ b = 44 := ⟨fun h => UInt8.toNat_inj.1 (by show b.toNat = 44; omega), fun h => by rw [h]; rfl⟩
    refine Ev.yes (by omega) (Ev.no (by omega) (Ev.yes (by omega) (Ev.yes (by omega) ?_)))
    by_cases q : b = 44
    · rw [if_pos q]
      refine Ev.yes (b44.2 q) (Ev.yes (by omega) (Ev.yes (by omega) (Ev.yes (by omega) (Ev.bind (by simp only [Int.toNat_natCast]; exact hp) ?_))))
      have := hz2 (upd (partP ((s.data.toList.drop at_).take (i - at_))) c)
      rw [Nat.sub_self, List.take_zero] at this
      exact this
    · rw [if_neg q]
      exact Ev.no (fun h => q (b44.1 h)) hz
theorem ctl_spec (s : ByteArray) (hs : s.size ≤ 1048576) : Ev (fun k => spec_ControlOf.f k s) (foldC (spA [] s.data.toList) (false, false, -1, -1)) := by
  simp only [spec_ControlOf.f]
  have := ctl_spec_l s hs s.size 0 0 (false, false, -1, -1) (by omega) (by omega) (by omega)
  rw [List.drop_zero, Nat.sub_zero, List.take_zero] at this
  exact this
theorem rdO_get (l : List ByteArray) (i : Nat) (h : i < l.length) : rdOf ByteArray.empty l (i : Int) = l[i] := by
  unfold rdOf
  rw [Int.toNat_natCast, List.getD_eq_getElem?_getD, List.getElem?_eq_getElem h, Option.getD_some]
theorem ctl_impl_l (l : List (List UInt8)) (hl : l.length ≤ 4194304) (hm : ∀ x ∈ l, x.length ≤ 1048576) (d : Nat) : ∀ (i : Nat) (c : C4), i ≤ l.length → l.length - i = d → Ev (fun k => impl_ControlOf.l0 k (l.map ba) (l.length : Int) (i : Int) c.1 c.2.1 c.2.2.1 c.2.2.2) (foldC (l.drop i) c) := by
  induction d with
  | zero =>
    intro i c hi hd
    refine Ev.succ ?_
    simp only [impl_ControlOf.l0]
    rw [show l.drop i = [] from List.drop_eq_nil_of_le (by omega)]
    exact Ev.no (by omega) (Ev.now _)
  | succ d ih =>
    intro i c hi hd
    have hlt : i < l.length := by omega
    have hx := hm _ (List.getElem_mem hlt)
    have ih' := fun c' => ih (i + 1) c' (by omega) (by omega)
    refine Ev.succ ?_
    simp only [impl_ControlOf.l0]
    have hg := rdO_get (l.map ba) i (by simpa using hlt)
    rw [List.getElem_map] at hg
    rw [hg, drop_get l i hlt]
    generalize l[i] = t at hx ⊢
    have htl := trim_len t
    have e1 : strings_Trim.f (ba t) (⟨#[32]⟩ : ByteArray) = some (ba (Lib.trimB t 32)) := by
      unfold strings_Trim.f; rw [if_pos ⟨rfl, by rw [ba_size]; omega⟩, ba_toL]; rfl
    have e2 : impl_lower.f (ba (Lib.trimB t 32)) = some (ba (partP t)) := by
      unfold impl_lower.f; rw [if_pos (by rw [ba_size]; omega), low_ba]; rfl
    have hpl : (partP t).length ≤ 1048576 := by unfold partP; rw [List.length_map]; omega
    refine Ev.yes (by omega) (Ev.yes (by omega) (Ev.yes (by rw [List.length_map]; omega) (Ev.via e1 (Ev.via e2 ?_))))
    rw [ba_list]
    show Ev _ (foldC (l.drop (i + 1)) (upd (partP t) c))
    generalize partP t = p at hpl ⊢
    have hc := @ct_len [61] p
    have j2 : ∀ c' : C4, Ev (fun k => impl_ControlOf.j2 k (ba p) (l.map ba) (l.length : Int) (i : Int) c'.1 c'.2.1 c'.2.2.1 c'.2.2.2) (foldC (l.drop (i + 1)) (u3 p (u2 p c'))) := by
      intro c'
      refine Ev.succ ?_
      simp only [impl_ControlOf.j2]
      have e3 := cut_ev (ba p) (⟨#[61]⟩ : ByteArray) (by simp) (by rw [ba_size]; omega)
      rw [ba_toL] at e3
      refine Ev.via e3 (Ev.bind (figures_ba (ct [61] p).2.1 (by omega)) ?_)
      have j3 : ∀ b : Bool, b = decide ((ct [61] p).1 = nmAge ∧ (numO (ct [61] p).2.1).2 = true) → Ev (fun k => impl_ControlOf.j3 k (ba (ct [61] p).1) (numO (ct [61] p).2.1).1 (numO (ct [61] p).2.1).2 (l.map ba) (l.length : Int) (i : Int) b c'.1 c'.2.1 c'.2.2.1 c'.2.2.2) (foldC (l.drop (i + 1)) (u3 p (u2 p c'))) := by
        rintro b rfl
        refine Ev.succ ?_
        simp only [impl_ControlOf.j3, ba_list]
        rw [wnat i l.length hlt (by omega)]
        by_cases g2 : (numO (ct [61] p).2.1).2 = true
        · by_cases g1 : (ct [61] p).1 = nmAge
          · have v2 : u2 p c' = (c'.1, c'.2.1, (numO (ct [61] p).2.1).1, c'.2.2.2) := if_pos ⟨g1, g2⟩
            have g3 : ¬ (ct [61] p).1 = nmSh := by rw [g1]; decide
            have v3 : u3 p (u2 p c') = u2 p c' := if_neg (fun h => g3 h.1)
            rw [v3, v2]
            exact Ev.yes (decide_eq_true ⟨g1, g2⟩) (Ev.yes g2 (Ev.no g3 (ih' (c'.1, c'.2.1, (numO (ct [61] p).2.1).1, c'.2.2.2))))
          · have v2 : u2 p c' = c' := if_neg (fun h => g1 h.1)
            rw [v2]
            refine Ev.no (by simp [g1]) (Ev.yes g2 ?_)
            by_cases g3 : (ct [61] p).1 = nmSh
            · have v3 : u3 p c' = (c'.1, c'.2.1, c'.2.2.1, (numO (ct [61] p).2.1).1) := if_pos ⟨g3, g2⟩
              rw [v3]; exact Ev.yes g3 (ih' (c'.1, c'.2.1, c'.2.2.1, (numO (ct [61] p).2.1).1))
            · have v3 : u3 p c' = c' := if_neg (fun h => g3 h.1)
              rw [v3]; exact Ev.no g3 (ih' _)
        · have v2 : u2 p c' = c' := if_neg (fun h => g2 h.2)
          have v3 : u3 p c' = c' := if_neg (fun h => g2 h.2)
          rw [v2, v3]
          exact Ev.no (by simp [g2]) (Ev.no g2 (ih' _))
      rw [ba_list]
      by_cases g2 : (numO (ct [61] p).2.1).2 = true
      · exact Ev.yes g2 (j3 _ (by rw [Bool.eq_iff_iff]; simp [g2, nmAge]))
      · exact Ev.no g2 (j3 _ (by simp [g2]))
    have j1 : ∀ b : Bool, (b = true ↔ (p = [110, 111, 45, 115, 116, 111, 114, 101] ∨ p = [112, 114, 105, 118, 97, 116, 101])) → Ev (fun k => impl_ControlOf.j1 k (ba p) (l.map ba) (l.length : Int) (i : Int) (ba p) b c.1 c.2.1 c.2.2.1 c.2.2.2) (foldC (l.drop (i + 1)) (upd p c)) := by
      intro b hb
      refine Ev.succ ?_
      simp only [impl_ControlOf.j1, ba_list]
      unfold upd
      by_cases h : b = true
      · have v1 : u1 p c = (true, c.2.1, c.2.2.1, c.2.2.2) := if_pos (hb.1 h)
        rw [v1]; exact Ev.yes h (j2 (true, c.2.1, c.2.2.1, c.2.2.2))
      · refine Ev.no h ?_
        by_cases g : p = [110, 111, 45, 99, 97, 99, 104, 101]
        · have v1 : u1 p c = (c.1, true, c.2.2.1, c.2.2.2) := by unfold u1; rw [if_neg (fun q => h (hb.2 q)), if_pos g]
          rw [v1]; exact Ev.yes g (j2 (c.1, true, c.2.2.1, c.2.2.2))
        · have v1 : u1 p c = c := by unfold u1; rw [if_neg (fun q => h (hb.2 q)), if_neg g]
          rw [v1]; exact Ev.no g (j2 c)
    by_cases c1 : p = [110, 111, 45, 115, 116, 111, 114, 101]
    · exact Ev.yes c1 (j1 _ (by simp [c1]))
    · exact Ev.no c1 (j1 _ (by simp [c1]))
theorem ctl_impl (s : ByteArray) (hs : s.size ≤ 1048576) : Ev (fun k => impl_ControlOf.f k s) (foldC (spA [] s.data.toList) (false, false, -1, -1)) := by
  simp only [impl_ControlOf.f]
  refine Ev.via (split_ev s hs) ?_
  have hl := spA_len s.data.toList []
  have hL := sizeL s
  have := ctl_impl_l (spA [] s.data.toList) (by omega) (fun x hx => by have := spA_mem _ _ _ hx; simp at this; omega) _ 0 (false, false, -1, -1) (by omega) rfl
  rw [List.drop_zero] at this
  rw [List.length_map]
  exact this
end Go.Proofs.YthjigecaojaalaaGreatDoor.Q
namespace Go.Proofs.YthjigecaojaalaaGreatDoor.Q
open Go.RowKit Go.Proofs.YthjigecaojaalaaGreatDoorW.PrintWords Go.Proofs.YthjigecaojaalaaGreatDoorW.PrintLast Go.Proofs.YthjigecaojaalaaGreatDoorW.PrintMore
def lifeF (a b : Bool) (m n : Int) : Int := if a = true then 0 else if b = true then 0 else if n ≥ 0 then n else if m ≥ 0 then m else 0
theorem life_impl (a b : Bool) (m n : Int) : Ev (fun k => impl_Lifetime.f k a b m n) (lifeF a b m n) := by
  have mz : mx m 0 = if m ≥ 0 then m else 0 := by unfold mx; split <;> split <;> omega
  refine Ev.succ ?_
  simp only [impl_Lifetime.f, impl_Lifetime.j0, mz]
  refine ⟨0, fun k _ => ?_⟩
  unfold lifeF
  cases a <;> cases b <;> simp
  split
  · rfl
  · rfl
theorem life_spec (a b : Bool) (m n : Int) : Ev (fun k => spec_Lifetime.f k a b m n) (lifeF a b m n) := by
  refine Ev.succ ?_
  simp only [spec_Lifetime.f, spec_Lifetime.j0]
  refine ⟨0, fun k _ => ?_⟩
  unfold lifeF
  cases a <;> cases b <;> simp
  split
  · rfl
  · split <;> rfl
end Go.Proofs.YthjigecaojaalaaGreatDoor.Q
namespace Go.Proofs.YthjigecaojaalaaGreatDoor.Q
open Go.RowKit Go.Proofs.YthjigecaojaalaaGreatDoorW.PrintWords Go.Proofs.YthjigecaojaalaaGreatDoorW.PrintLast Go.Proofs.YthjigecaojaalaaGreatDoorW.PrintMore
theorem rdF_get (l : List S33) (i : Nat) (h : i < l.length) : rd_T33 l i = l[i] := by simp [rd_T33, h]
end Go.Proofs.YthjigecaojaalaaGreatDoor.Q
namespace Go.Proofs.YthjigecaojaalaaGreatDoor.Q
open Go.RowKit Go.Proofs.YthjigecaojaalaaGreatDoorW.PrintWords Go.Proofs.YthjigecaojaalaaGreatDoorW.PrintLast Go.Proofs.YthjigecaojaalaaGreatDoorW.PrintMore
def fieldF (name : ByteArray) : List S33 → ByteArray × Bool
  | [] => ((⟨#[]⟩ : ByteArray), false)
  | f :: r => if f.f0.toList = name.toList then (f.f1, true) else fieldF name r
theorem fieldOf_spec_l (name a : ByteArray) (l : List S33) (hl : l.length ≤ 9223372036854775807) (d : Nat) : ∀ i : Nat, i ≤ l.length → l.length - i = d → Ev (fun k => spec_FieldOf.l0 k name (i : Int) a l) (fieldF name (l.drop i)) := by
  induction d with
  | zero => intro i hi hd; refine Ev.succ ?_; simp only [spec_FieldOf.l0]; rw [List.drop_eq_nil_of_le (by omega)]; exact Ev.no (by omega) (Ev.now _)
  | succ d ih =>
    intro i hi hd
    have hlt : i < l.length := by omega
    refine Ev.succ ?_
    simp only [spec_FieldOf.l0]
    rw [rdF_get l i hlt, wnat i _ hlt hl, drop_get l i hlt]
    refine Ev.yes (by omega) (Ev.yes (by omega) ?_)
    by_cases c : l[i].f0.toList = name.toList
    · rw [fieldF, if_pos c]; exact Ev.yes c (Ev.now _)
    · rw [fieldF, if_neg c]; exact Ev.no c (ih (i + 1) (by omega) (by omega))
theorem fieldOf_spec (a : ByteArray) (l : List S33) (name : ByteArray) (hl : l.length ≤ 9223372036854775807) : Ev (fun k => spec_FieldOf.f k a l name) (fieldF name l) := fieldOf_spec_l name a l hl l.length 0 (by omega) (by omega)
theorem fieldOf_impl_l (name : ByteArray) (l : List S33) (hl : l.length ≤ 9223372036854775807) (d : Nat) : ∀ i : Nat, i ≤ l.length → l.length - i = d → Ev (fun k => impl_FieldOf.l0 k name l (l.length : Int) (i : Int)) (fieldF name (l.drop i)) := by
  induction d with
  | zero => intro i hi hd; refine Ev.succ ?_; simp only [impl_FieldOf.l0]; rw [List.drop_eq_nil_of_le (by omega)]; exact Ev.no (by omega) (Ev.now _)
  | succ d ih =>
    intro i hi hd
    have hlt : i < l.length := by omega
    refine Ev.succ ?_
    simp only [impl_FieldOf.l0]
    rw [rdF_get l i hlt, wnat i _ hlt hl, drop_get l i hlt]
    refine Ev.yes (by omega) (Ev.yes (by omega) (Ev.yes (by omega) ?_))
    by_cases c : l[i].f0.toList = name.toList
    · rw [fieldF, if_pos c]; exact Ev.yes c (Ev.now _)
    · rw [fieldF, if_neg c]; exact Ev.no c (ih (i + 1) (by omega) (by omega))
theorem fieldOf_impl (a : ByteArray) (l : List S33) (name : ByteArray) (hl : l.length ≤ 9223372036854775807) : Ev (fun k => impl_FieldOf.f k a l name) (fieldF name l) := fieldOf_impl_l name l hl l.length 0 (by omega) (by omega)
end Go.Proofs.YthjigecaojaalaaGreatDoor.Q
namespace Go.Proofs.YthjigecaojaalaaGreatDoor.Q
open Go.RowKit Go.Proofs.YthjigecaojaalaaGreatDoorW.PrintWords Go.Proofs.YthjigecaojaalaaGreatDoorW.PrintLast Go.Proofs.YthjigecaojaalaaGreatDoorW.PrintMore
def pre (s p : ByteArray) : Bool := decide (p.size ≤ s.size) && ((s.extract 0 p.size).toList == p.toList)
def suf (s p : ByteArray) : Bool := decide (p.size ≤ s.size) && ((s.extract (s.size - p.size) s.size).toList == p.toList)
theorem cutPrefix_eq (s p : ByteArray) : strings_CutPrefix.f s p = some (if pre s p = true then (s.extract p.size s.size, true) else (s, false)) := by
  simp only [strings_CutPrefix.f, stringslite_CutPrefix.f, stringslite_HasPrefix.f, Int.toNat_natCast]
  by_cases c : (s.size : Int) ≥ (p.size : Int)
  · rw [if_pos c, if_pos (by omega), if_pos (by omega)]
    simp only [Option.bind_some]
    have e : pre s p = ((s.extract 0 p.size).toList == p.toList) := by rw [pre, decide_eq_true (by omega), Bool.true_and]
    rw [e]
    by_cases c2 : ((s.extract 0 p.size).toList == p.toList) = true
    · rw [if_pos c2, if_pos (by omega), if_pos (by omega), if_pos c2]; rfl
    · rw [if_neg c2, if_neg c2]; rfl
  · rw [if_neg c]
    have e : pre s p = false := by rw [pre, decide_eq_false (by omega), Bool.false_and]
    simp only [Option.bind_some, e]
    rw [if_neg (by simp), if_neg (by simp)]; rfl
theorem cutSuffix_eq (s p : ByteArray) (hs : s.size ≤ 9223372036854775807) : strings_CutSuffix.f s p = some (if suf s p = true then (s.extract 0 (s.size - p.size), true) else (s, false)) := by
  simp only [strings_CutSuffix.f, stringslite_CutSuffix.f, stringslite_HasSuffix.f]
  by_cases c : (s.size : Int) ≥ (p.size : Int)
  · have hw : wrap64 ((s.size : Int) - (p.size : Int)) = ((s.size - p.size : Nat) : Int) := by rw [w64 (by omega) (by omega)]; omega
    rw [if_pos c, hw, if_pos (by omega), if_pos (by omega)]
    simp only [Option.bind_some, Int.toNat_natCast]
    have e : suf s p = ((s.extract (s.size - p.size) s.size).toList == p.toList) := by rw [suf, decide_eq_true (by omega), Bool.true_and]
    rw [e]
    by_cases c2 : ((s.extract (s.size - p.size) s.size).toList == p.toList) = true
    · rw [if_pos c2, if_pos (by omega), if_pos (by omega), if_pos c2]; rfl
    · rw [if_neg c2, if_neg c2]; rfl
  · rw [if_neg c]
    have e : suf s p = false := by rw [suf, decide_eq_false (by omega), Bool.false_and]
    simp only [Option.bind_some, e]
    rw [if_neg (by simp), if_neg (by simp)]; rfl
theorem ext_ext (s : ByteArray) (a b c d : Nat) (_ : b ≤ s.size) (h2 : d ≤ b - a) : (s.extract a b).extract c d = s.extract (a + c) (a + d) := by
  apply ba_ext
  simp only [Lib.extract_data]
  rw [List.drop_take, List.take_take, List.drop_drop, Nat.min_eq_left (by omega), show a + d - (a + c) = d - c by omega]
end Go.Proofs.YthjigecaojaalaaGreatDoor.Q
namespace Go.Proofs.YthjigecaojaalaaGreatDoor.Q
open Go.RowKit Go.Proofs.YthjigecaojaalaaGreatDoorW.PrintWords Go.Proofs.YthjigecaojaalaaGreatDoorW.PrintLast Go.Proofs.YthjigecaojaalaaGreatDoorW.PrintMore
def ans (b : Bool) (t : ByteArray) : ByteArray × Bool := if b = true then (t, true) else ((⟨#[]⟩ : ByteArray), false)
/-- Is it a target. -/
def tgtB (t : ByteArray) : Bool := inB 33 126 t.data.toList && (decide (t.size ≤ 20) && decide (bt t 0 = 47))
def tgtF (s : ByteArray) : ByteArray × Bool :=
  ans (pre s (⟨#[71, 69, 84, 32]⟩ : ByteArray) && (decide (14 ≤ s.size) && (decide ((s.extract (s.size - 9) s.size).toList = ([32, 72, 84, 84, 80, 47, 49, 46, 49] : List UInt8)) && tgtB (s.extract 4 (s.size - 9))))) (s.extract 4 (s.size - 9))
theorem getL : (⟨#[71, 69, 84, 32]⟩ : ByteArray).toList = ([71, 69, 84, 32] : List UInt8) := by rw [toL]
theorem httpL : (⟨#[32, 72, 84, 84, 80, 47, 49, 46, 49]⟩ : ByteArray).toList = ([32, 72, 84, 84, 80, 47, 49, 46, 49] : List UInt8) := by rw [toL]
theorem tgt_spec_l (t : ByteArray) (ht : 1 ≤ t.size) (hs : t.size ≤ 9223372036854775807) (d : Nat) : ∀ i : Nat, i ≤ t.size → t.size - i = d → Ev (fun k => spec_TargetOf.l0 k t (i : Int)) (ans (inB 33 126 (t.data.toList.drop i) && (decide (t.size ≤ 20) && decide (bt t 0 = 47))) t) := by
  induction d with
  | zero =>
    intro i hi hd
    refine Ev.succ ?_
    simp only [spec_TargetOf.l0]
    rw [List.drop_eq_nil_of_le (by rw [sizeL]; omega), show inB 33 126 [] = true from rfl, Bool.true_and]
    simp only [in_spec, Option.bind_some]
    refine Ev.no (by omega) ?_
    by_cases c : t.size ≤ 20
    · refine Ev.yes (decide_eq_true ⟨by omega, by omega⟩) (Ev.yes (by omega) ?_)
      rw [decide_eq_true c, Bool.true_and]
      by_cases c2 : bt t 0 = 47
      · rw [decide_eq_true c2]; exact Ev.yes c2 (Ev.now _)
      · rw [decide_eq_false c2]; exact Ev.no c2 (Ev.now _)
    · rw [decide_eq_false c, Bool.false_and]
      exact Ev.no (by simp; omega) (Ev.now _)
  | succ d ih =>
    intro i hi hd
    have hlt : i < t.size := by omega
    have hb := bt_get t i hlt
    refine Ev.succ ?_
    simp only [spec_TargetOf.l0]
    rw [wnat i _ hlt hs, drop_get _ i (by rw [sizeL]; exact hlt)]
    have e : inB 33 126 (t.data.toList[i]'(by rw [sizeL]; exact hlt) :: t.data.toList.drop (i + 1)) = (decide (33 ≤ bt t i ∧ bt t i ≤ 126) && inB 33 126 (t.data.toList.drop (i + 1))) := by rw [hb]; rfl
    rw [e]
    refine Ev.yes (by omega) (Ev.yes (by omega) ?_)
    by_cases c1 : bt t i < 33
    · rw [decide_eq_false (show ¬ (33 ≤ bt t i ∧ bt t i ≤ 126) by omega), Bool.false_and, Bool.false_and]; exact Ev.yes c1 (Ev.now _)
    · refine Ev.no c1 ?_
      by_cases c2 : bt t i > 126
      · rw [decide_eq_false (show ¬ (33 ≤ bt t i ∧ bt t i ≤ 126) by omega), Bool.false_and, Bool.false_and]; exact Ev.yes c2 (Ev.now _)
      · rw [decide_eq_true (show 33 ≤ bt t i ∧ bt t i ≤ 126 from ⟨by omega, by omega⟩), Bool.true_and]
        exact Ev.no c2 (ih (i + 1) (by omega) (by omega))
theorem target_spec (s : ByteArray) (l : List S33) (hs : s.size ≤ 1048576) : Ev (fun k => spec_TargetOf.f k s l) (tgtF s) := by
  have jt : Ev (fun k => spec_TargetOf.j0 k s true) ((⟨#[]⟩ : ByteArray), false) := by
    refine Ev.succ ?_
    simp only [spec_TargetOf.j0]; exact Ev.yes trivial (Ev.now _)
  simp only [spec_TargetOf.f, tgtF]
  by_cases c : (s.size : Int) < 14
  · refine Ev.yes c ?_
    rw [decide_eq_false (show ¬ 14 ≤ s.size by omega), Bool.false_and, Bool.and_false]; exact jt
  · have hw : wrap64 ((s.size : Int) - 9) = ((s.size - 9 : Nat) : Int) := by rw [w64 (by omega) (by omega)]; omega
    refine Ev.no c (Ev.yes (by omega) ?_)
    have ep : pre s (⟨#[71, 69, 84, 32]⟩ : ByteArray) = decide ((s.extract 0 4).toList = ([71, 69, 84, 32] : List UInt8)) := by
      rw [pre, getL, show (⟨#[71, 69, 84, 32]⟩ : ByteArray).size = 4 from rfl, decide_eq_true (by omega), Bool.true_and, Bool.eq_iff_iff, beq_iff_eq, decide_eq_true_eq]
    rw [ep, decide_eq_true (show 14 ≤ s.size by omega), Bool.true_and]
    by_cases c1 : (s.extract 0 4).toList = ([71, 69, 84, 32] : List UInt8)
    · refine Ev.yes c1 ?_
      rw [hw, decide_eq_true c1, Bool.true_and]
      simp only [Int.toNat_natCast]
      refine Ev.yes (by omega) (Ev.yes (by omega) ?_)
      by_cases c2 : (s.extract (s.size - 9) s.size).toList = ([32, 72, 84, 84, 80, 47, 49, 46, 49] : List UInt8)
      · rw [show ((s.extract (s.size - 9) s.size).toList != ([32, 72, 84, 84, 80, 47, 49, 46, 49] : List UInt8)) = false from by rw [c2]; rfl, decide_eq_true c2, Bool.true_and]
        refine Ev.succ ?_
        simp only [spec_TargetOf.j0]
        rw [hw]
        simp only [Int.toNat_natCast]
        refine Ev.no (by simp) (Ev.yes (by omega) (Ev.yes (by omega) ?_))
        have hz := ext_size s 4 (s.size - 9) (by omega)
        have := tgt_spec_l (s.extract 4 (s.size - 9)) (by omega) (by omega) _ 0 (by omega) rfl
        rw [List.drop_zero] at this
        exact this
      · rw [show ((s.extract (s.size - 9) s.size).toList != ([32, 72, 84, 84, 80, 47, 49, 46, 49] : List UInt8)) = true from by simpa using c2, decide_eq_false c2, Bool.false_and]
        exact jt
    · refine Ev.no c1 ?_
      rw [decide_eq_false c1, Bool.false_and]; exact jt
theorem target_impl (s : ByteArray) (l : List S33) (hs : s.size ≤ 1048576) : Ev (fun k => impl_TargetOf.f k s l) (tgtF s) := by
  simp only [impl_TargetOf.f, cutPrefix_eq, Option.bind_some, tgtF]
  by_cases c1 : pre s (⟨#[71, 69, 84, 32]⟩ : ByteArray) = true
  · have hp4 : 4 ≤ s.size := by
      simp only [pre, Bool.and_eq_true, decide_eq_true_eq] at c1; exact c1.1
    simp only [if_pos c1]
    rw [c1, Bool.true_and, show (⟨#[71, 69, 84, 32]⟩ : ByteArray).size = 4 from rfl]
    have hz := ext_size s 4 s.size (by omega)
    rw [cutSuffix_eq _ _ (by omega)]
    simp only [Option.bind_some]
    refine Ev.yes trivial ?_
    have es : suf (s.extract 4 s.size) (⟨#[32, 72, 84, 84, 80, 47, 49, 46, 49]⟩ : ByteArray) = (decide (13 ≤ s.size) && decide ((s.extract (s.size - 9) s.size).toList = ([32, 72, 84, 84, 80, 47, 49, 46, 49] : List UInt8))) := by
      rw [suf, show (⟨#[32, 72, 84, 84, 80, 47, 49, 46, 49]⟩ : ByteArray).size = 9 from rfl, hz, httpL]
      by_cases c13 : 13 ≤ s.size
      · rw [ext_ext s 4 s.size _ _ (by omega) (by omega), show 4 + (s.size - 4 - 9) = s.size - 9 by omega, show 4 + (s.size - 4) = s.size by omega, decide_eq_true c13, decide_eq_true (by omega), Bool.true_and, Bool.true_and, Bool.eq_iff_iff, beq_iff_eq, decide_eq_true_eq]
      · rw [decide_eq_false c13, decide_eq_false (by omega), Bool.false_and, Bool.false_and]
    by_cases c2 : suf (s.extract 4 s.size) (⟨#[32, 72, 84, 84, 80, 47, 49, 46, 49]⟩ : ByteArray) = true
    · simp only [if_pos c2]
      rw [es] at c2
      simp only [Bool.and_eq_true, decide_eq_true_eq] at c2
      rw [decide_eq_true c2.2, Bool.true_and, show (⟨#[32, 72, 84, 84, 80, 47, 49, 46, 49]⟩ : ByteArray).size = 9 from rfl, hz, ext_ext s 4 s.size _ _ (by omega) (by omega), show 4 + (s.size - 4 - 9) = s.size - 9 by omega, Nat.add_zero]
      have hz2 := ext_size s 4 (s.size - 9) (by omega)
      simp only [in_impl, Option.bind_some]
      refine Ev.yes trivial ?_
      by_cases c3 : (1 : Int) ≤ ((s.extract 4 (s.size - 9)).size : Int) ∧ ((s.extract 4 (s.size - 9)).size : Int) ≤ 20
      · rw [decide_eq_true (show 14 ≤ s.size by omega), Bool.true_and, tgtB, decide_eq_true (show (s.extract 4 (s.size - 9)).size ≤ 20 by omega), Bool.true_and]
        refine Ev.yes (decide_eq_true c3) (Ev.bind (bytesIn_ev _ 33 126 (by omega)) ?_)
        by_cases c4 : inB 33 126 (s.extract 4 (s.size - 9)).data.toList = true
        · rw [c4, Bool.true_and]
          refine Ev.yes rfl (Ev.yes (by omega) ?_)
          by_cases c5 : bt (s.extract 4 (s.size - 9)) 0 = 47
          · rw [decide_eq_true c5]; exact Ev.yes c5 (Ev.now _)
          · rw [decide_eq_false c5]; exact Ev.no c5 (Ev.now _)
        · rw [Bool.eq_false_iff.mpr c4, Bool.false_and]; exact Ev.no (by simp) (Ev.now _)
      · refine Ev.no (by simpa using c3) ?_
        by_cases c14 : 14 ≤ s.size
        · rw [decide_eq_true c14, tgtB, decide_eq_false (show ¬ (s.extract 4 (s.size - 9)).size ≤ 20 by omega), Bool.false_and, Bool.and_false, Bool.and_false]; exact Ev.now _
        · rw [decide_eq_false c14, Bool.false_and]; exact Ev.now _
    · simp only [if_neg c2]
      rw [es] at c2
      have e2 : (decide (14 ≤ s.size) && (decide ((s.extract (s.size - 9) s.size).toList = ([32, 72, 84, 84, 80, 47, 49, 46, 49] : List UInt8)) && tgtB (s.extract 4 (s.size - 9)))) = false := by
        by_cases c14 : 14 ≤ s.size
        · rw [decide_eq_true (show 13 ≤ s.size by omega), Bool.true_and] at c2
          rw [Bool.eq_false_iff.mpr c2, Bool.false_and, Bool.and_false]
        · rw [decide_eq_false c14, Bool.false_and]
      rw [e2]
      exact Ev.no (by simp) (Ev.now _)
  · simp only [if_neg c1]
    rw [cutSuffix_eq _ _ (by omega), Bool.eq_false_iff.mpr c1, Bool.false_and]
    simp only [Option.bind_some]
    exact Ev.no (by simp) (Ev.now _)
end Go.Proofs.YthjigecaojaalaaGreatDoor.Q
namespace Go.Proofs.YthjigecaojaalaaGreatDoor.Q
open Go.RowKit Go.Proofs.YthjigecaojaalaaGreatDoorW.PrintWords Go.Proofs.YthjigecaojaalaaGreatDoorW.PrintLast Go.Proofs.YthjigecaojaalaaGreatDoorW.PrintMore
def p9 : ByteArray := ⟨#[72, 84, 84, 80, 47, 49, 46, 49, 32]⟩
theorem p9L : p9.toList = ([72, 84, 84, 80, 47, 49, 46, 49, 32] : List UInt8) := by rw [p9, toL]
theorem p9_size : p9.size = 9 := rfl
def Dig (s : ByteArray) (i : Int) : Prop := 48 ≤ bt s i ∧ bt s i ≤ 57
instance (s : ByteArray) (i : Int) : Decidable (Dig s i) := by unfold Dig; infer_instance
def num3 (s : ByteArray) : Int := 100 * (bt s 9 - 48) + 10 * (bt s 10 - 48) + (bt s 11 - 48)
def statB (s : ByteArray) : Bool := pre s p9 && (decide (13 ≤ s.size) && (decide (bt s 12 = 32) && decide (((Dig s 9 ∧ Dig s 10) ∧ Dig s 11) ∧ (100 ≤ num3 s ∧ num3 s ≤ 599))))
def statF (s : ByteArray) : Int × Bool := if statB s = true then (num3 s, true) else (0, false)
theorem stat_round (s : ByteArray) (n i : Int) (r : Int × Bool) (hs : 13 ≤ s.size) (h0 : 0 ≤ i) (h1 : i < 12) (hn : 0 ≤ n ∧ n ≤ 1000) (yes : Dig s i → Ev (fun k => spec_StatusOf.l0 k s (10 * n + bt s i - 48) (i + 1)) r) (no : ¬ Dig s i → r = (0, false)) : Ev (fun k => spec_StatusOf.l0 k s n i) r := by
  have hb := bt_rng s i
  refine Ev.succ ?_
  simp only [spec_StatusOf.l0]
  refine Ev.yes h1 (Ev.yes h0 (Ev.yes (by omega) ?_))
  by_cases c1 : bt s i < 48
  · rw [no (fun h => by unfold Dig at h; omega)]; exact Ev.yes c1 (Ev.now _)
  · refine Ev.no c1 ?_
    by_cases c2 : bt s i > 57
    · rw [no (fun h => by unfold Dig at h; omega)]; exact Ev.yes c2 (Ev.now _)
    · rw [w64 (n := 10 * n) (by omega) (by omega), w64 (n := bt s i) (by omega) (by omega), w64 (n := 10 * n + bt s i) (by omega) (by omega), w64 (n := 10 * n + bt s i - 48) (by omega) (by omega), w64 (n := i + 1) (by omega) (by omega)]
      exact Ev.no c2 (yes ⟨by omega, by omega⟩)
theorem status_spec (s : ByteArray) (l : List S33) : Ev (fun k => spec_StatusOf.f k s l) (statF s) := by
  have jt : Ev (fun k => spec_StatusOf.j0 k s true) ((0 : Int), false) := by
    refine Ev.succ ?_
    simp only [spec_StatusOf.j0]; exact Ev.yes (by simp) (Ev.now _)
  have no : statB s = false → statF s = (0, false) := fun h => by unfold statF; rw [if_neg (by rw [h]; simp)]
  simp only [spec_StatusOf.f]
  by_cases c : (s.size : Int) < 13
  · rw [no (by unfold statB; rw [decide_eq_false (show ¬ 13 ≤ s.size by omega), Bool.false_and, Bool.and_false])]
    exact Ev.yes c jt
  · refine Ev.no c (Ev.yes (by omega) ?_)
    have hs : 13 ≤ s.size := by omega
    have ep : pre s p9 = decide ((s.extract 0 9).toList = ([72, 84, 84, 80, 47, 49, 46, 49, 32] : List UInt8)) := by
      rw [pre, p9L, p9_size, decide_eq_true (by omega), Bool.true_and, Bool.eq_iff_iff, beq_iff_eq, decide_eq_true_eq]
    by_cases c1 : (s.extract 0 9).toList = ([72, 84, 84, 80, 47, 49, 46, 49, 32] : List UInt8)
    · refine Ev.yes c1 (Ev.yes (by omega) ?_)
      by_cases c2 : bt s 12 = 32
      · rw [show (bt s 12 != 32) = false from bne_eq_false_iff_eq.2 c2]
        refine Ev.succ ?_
        simp only [spec_StatusOf.j0]
        refine Ev.no (by simp) ?_
        have hB : statB s = decide (((Dig s 9 ∧ Dig s 10) ∧ Dig s 11) ∧ (100 ≤ num3 s ∧ num3 s ≤ 599)) := by
          unfold statB
          rw [ep, decide_eq_true c1, decide_eq_true hs, decide_eq_true c2, Bool.true_and, Bool.true_and, Bool.true_and]
        have fl : ¬ ((Dig s 9 ∧ Dig s 10) ∧ Dig s 11) → statF s = (0, false) := fun h => no (by rw [hB]; exact decide_eq_false (fun q => h q.1))
        refine stat_round s 0 9 _ hs (by omega) (by omega) (by omega) (fun d9 => ?_) (fun h => fl (fun q => h q.1.1))
        have b9 := d9; unfold Dig at b9
        refine stat_round s _ _ _ hs (by omega) (by omega) (by omega) (fun d10 => ?_) (fun h => fl (fun q => h q.1.2))
        have b10 := d10; unfold Dig at b10
        refine stat_round s _ _ _ hs (by omega) (by omega) (by omega) (fun d11 => ?_) (fun h => fl (fun q => h q.2))
        have b11 := d11; unfold Dig at b11
        refine Ev.succ ?_
        simp only [spec_StatusOf.l0]
        have en : 10 * (10 * (10 * 0 + bt s 9 - 48) + bt s (9 + 1) - 48) + bt s (9 + 1 + 1) - 48 = num3 s := by
          unfold num3
          rw [show (9 : Int) + 1 = 10 from rfl, show (10 : Int) + 1 = 11 from rfl]
          omega
        rw [en]
        refine Ev.no (by omega) (Ev.via (in_spec _ _ _) ?_)
        by_cases q : 100 ≤ num3 s ∧ num3 s ≤ 599
        · rw [show statF s = (num3 s, true) from by unfold statF; rw [if_pos (by rw [hB]; exact decide_eq_true ⟨⟨⟨d9, d10⟩, d11⟩, q⟩)]]
          exact Ev.yes (decide_eq_true q) (Ev.now _)
        · rw [no (by rw [hB]; exact decide_eq_false (fun h => q h.2))]
          exact Ev.no (by rw [decide_eq_false q]; simp) (Ev.now _)
      · rw [show (bt s 12 != 32) = true from bne_iff_ne.2 c2]
        rw [no (by unfold statB; rw [decide_eq_false c2, Bool.false_and, Bool.and_false, Bool.and_false])]
        exact jt
    · rw [no (by unfold statB; rw [ep, decide_eq_false c1, Bool.false_and])]
      exact Ev.no c1 jt
theorem bt_ext (s : ByteArray) (a b i : Nat) (h : i < b - a) (hb : b ≤ s.size) : bt (s.extract a b) (i : Int) = bt s ((a + i : Nat) : Int) := by
  rw [bt_get _ i (by rw [ext_size s a b hb]; exact h), bt_get s (a + i) (by omega)]
  congr 2
  simp
theorem three (s : ByteArray) (hs : 12 ≤ s.size) : (s.extract 9 12).data.toList = [s.data.toList[9]'(by rw [sizeL]; omega), s.data.toList[10]'(by rw [sizeL]; omega), s.data.toList[11]'(by rw [sizeL]; omega)] := by
  rw [Lib.extract_data, drop_get _ 9 (by rw [sizeL]; omega), drop_get _ 10 (by rw [sizeL]; omega), drop_get _ 11 (by rw [sizeL]; omega)]
  rfl
theorem atoi3 (a b c : UInt8) (ha : 48 ≤ a.toNat ∧ a.toNat ≤ 57) (hb : 48 ≤ b.toNat ∧ b.toNat ≤ 57) (hc : 48 ≤ c.toNat ∧ c.toNat ≤ 57) : Lib.atoiAll [a, b, c] = .ok (((100 * (a.toNat - 48) + 10 * (b.toNat - 48) + (c.toNat - 48) : Nat)) : Int) := by
  have e : Lib.parseMag [a, b, c] = .ok (100 * (a.toNat - 48) + 10 * (b.toNat - 48) + (c.toNat - 48)) := by
    unfold Lib.parseMag
    rw [if_neg (by simp)]
    simp only [Lib.parseUint10]
    rw [if_pos ha, if_neg (by omega), if_neg (by omega), if_pos hb, if_neg (by omega), if_neg (by omega), if_pos hc, if_neg (by omega), if_neg (by omega)]
    congr 1
    omega
  simp only [Lib.atoiAll]
  rw [if_neg (by omega), e]
  simp only
  rw [if_neg (by omega), if_neg (by omega), if_neg (by omega)]
theorem u8_back (a : UInt8) (x : Nat) (h : x = a.toNat) : UInt8.ofNat x = a := by rw [h]; exact UInt8.ofNat_toNat
theorem itoa3 (a b c : UInt8) (ha : 49 ≤ a.toNat ∧ a.toNat ≤ 57) (hb : 48 ≤ b.toNat ∧ b.toNat ≤ 57) (hc : 48 ≤ c.toNat ∧ c.toNat ≤ 57) : Lib.itoa (((100 * (a.toNat - 48) + 10 * (b.toNat - 48) + (c.toNat - 48) : Nat)) : Int) = [a, b, c] := by
  unfold Lib.itoa
  rw [if_neg (by omega), Int.toNat_natCast, Lib.decDigits, dif_neg (by omega), Lib.decDigits_two (by omega) (by omega)]
  simp only [List.cons_append, List.nil_append]
  rw [u8_back a _ (by omega), u8_back b _ (by omega), u8_back c _ (by omega)]
theorem read3 (s : ByteArray) (hs : 12 ≤ s.size) (d9 : Dig s 9) (d10 : Dig s 10) (d11 : Dig s 11) : ∃ v ok, impl_ReadDecimal.f (s.extract 9 12) = some (v, ok) ∧ (100 ≤ num3 s → v = num3 s) ∧ (num3 s < 100 → v < 100) := by
  have h3 := three s hs
  have e9 := bt_get s 9 (by omega)
  have e10 := bt_get s 10 (by omega)
  have e11 := bt_get s 11 (by omega)
  rw [show ((9 : Nat) : Int) = 9 from rfl] at e9
  rw [show ((10 : Nat) : Int) = 10 from rfl] at e10
  rw [show ((11 : Nat) : Int) = 11 from rfl] at e11
  unfold Dig at d9 d10 d11
  unfold num3
  rw [e9] at d9 ⊢
  rw [e10] at d10 ⊢
  rw [e11] at d11 ⊢
  generalize s.data.toList[9]'(by rw [sizeL]; omega) = a at *
  generalize s.data.toList[10]'(by rw [sizeL]; omega) = b at *
  generalize s.data.toList[11]'(by rw [sizeL]; omega) = c at *
  have ev : 100 * ((a.toNat : Int) - 48) + 10 * ((b.toNat : Int) - 48) + ((c.toNat : Int) - 48) = ((100 * (a.toNat - 48) + 10 * (b.toNat - 48) + (c.toNat - 48) : Nat) : Int) := by omega
  rw [ev]
  have ea := atoi3 a b c (by omega) (by omega) (by omega)
  have hz := ext_size s 9 12 hs
  refine ⟨(impl_ReadDecimal.at (s.extract 9 12) ((100 * (a.toNat - 48) + 10 * (b.toNat - 48) + (c.toNat - 48) : Nat) : Int)).1, (impl_ReadDecimal.at (s.extract 9 12) ((100 * (a.toNat - 48) + 10 * (b.toNat - 48) + (c.toNat - 48) : Nat) : Int)).2, ?_, ?_, ?_⟩
  · unfold impl_ReadDecimal.f
    rw [if_pos (by omega), h3, ea]
    simp only
    rw [if_pos (by omega)]
  · intro hv
    unfold impl_ReadDecimal.at
    rw [if_pos (by omega), itoa3 a b c (by omega) (by omega) (by omega), if_pos (by rw [toL, toL, h3])]
  · intro hv
    unfold impl_ReadDecimal.at
    rw [if_pos (by omega)]
    split
    · exact hv
    · show (0 : Int) < 100; omega
theorem status_impl (s : ByteArray) (l : List S33) (hs : s.size ≤ 1048576) : Ev (fun k => impl_StatusOf.f k s l) (statF s) := by
  have no : statB s = false → statF s = (0, false) := fun h => by unfold statF; rw [if_neg (by rw [h]; simp)]
  have jt : ∀ t, Ev (fun k => impl_StatusOf.j0 k t true) ((0 : Int), false) := fun t => by
    refine Ev.succ ?_
    simp only [impl_StatusOf.j0]; exact Ev.yes (by simp) (Ev.now _)
  simp only [impl_StatusOf.f]
  refine Ev.via (cutPrefix_eq s p9) ?_
  by_cases c1 : pre s p9 = true
  · simp only [if_pos c1]
    have h9 : 9 ≤ s.size := by
      simp only [pre, Bool.and_eq_true, p9_size] at c1; exact of_decide_eq_true c1.1
    have hz := ext_size s 9 s.size (by omega)
    simp only [p9_size]
    refine Ev.yes (by simp) ?_
    by_cases c2 : ((s.extract 9 s.size).size : Int) < 4
    · rw [no (by unfold statB; rw [decide_eq_false (show ¬ 13 ≤ s.size by omega), Bool.false_and, Bool.and_false])]
      exact Ev.yes c2 (jt _)
    · refine Ev.no c2 (Ev.yes (by omega) ?_)
      have h13 : 13 ≤ s.size := by omega
      have eb := bt_ext s 9 s.size 3 (by omega) (by omega)
      rw [show ((3 : Nat) : Int) = 3 from rfl, show ((9 + 3 : Nat) : Int) = 12 from rfl] at eb
      by_cases c3 : bt s 12 = 32
      · refine Ev.yes (eb.trans c3) (Ev.yes (by omega) ?_)
        have ee : (s.extract 9 s.size).extract 0 3 = s.extract 9 12 := by
          rw [ext_ext s 9 s.size 0 3 (by omega) (by omega)]
        rw [ee]
        refine Ev.bind (bytesIn_ev _ 48 57 (by rw [ext_size s 9 12 (by omega)]; omega)) ?_
        have hB : statB s = decide (((Dig s 9 ∧ Dig s 10) ∧ Dig s 11) ∧ (100 ≤ num3 s ∧ num3 s ≤ 599)) := by
          unfold statB
          rw [c1, decide_eq_true h13, decide_eq_true c3, Bool.true_and, Bool.true_and, Bool.true_and]
        have ei : inB 48 57 (s.extract 9 12).data.toList = decide ((Dig s 9 ∧ Dig s 10) ∧ Dig s 11) := by
          have e9 := bt_get s 9 (by omega)
          have e10 := bt_get s 10 (by omega)
          have e11 := bt_get s 11 (by omega)
          rw [show ((9 : Nat) : Int) = 9 from rfl] at e9
          rw [show ((10 : Nat) : Int) = 10 from rfl] at e10
          rw [show ((11 : Nat) : Int) = 11 from rfl] at e11
          rw [three s (by omega), Bool.eq_iff_iff, decide_eq_true_eq]
          unfold Dig
          rw [e9, e10, e11]
          simp only [inB, List.all_cons, List.all_nil, Bool.and_true, Bool.and_eq_true, decide_eq_true_eq]
          constructor
          · rintro ⟨h1, h2, h3⟩; exact ⟨⟨h1, h2⟩, h3⟩
          · rintro ⟨⟨h1, h2⟩, h3⟩; exact ⟨h1, h2, h3⟩
        rw [ei]
        by_cases q : (Dig s 9 ∧ Dig s 10) ∧ Dig s 11
        · rw [decide_eq_true q]
          refine Ev.succ ?_
          simp only [impl_StatusOf.j0]
          obtain ⟨v, ok, er, hv1, hv2⟩ := read3 s (by omega) q.1.1 q.1.2 q.2
          rw [ee]
          refine Ev.no (by simp) (Ev.yes (by omega) (Ev.via er (Ev.via (in_impl _ _ _) ?_)))
          by_cases r : 100 ≤ num3 s ∧ num3 s ≤ 599
          · have e := hv1 r.1
            subst e
            rw [show statF s = (num3 s, true) from by unfold statF; rw [if_pos (by rw [hB]; exact decide_eq_true ⟨q, r⟩)]]
            exact Ev.yes (decide_eq_true r) (Ev.now _)
          · rw [no (by rw [hB]; exact decide_eq_false (fun h => r h.2))]
            refine Ev.no ?_ (Ev.now _)
            rw [decide_eq_false ?_]
            · simp
            · intro h
              show False
              by_cases g : 100 ≤ num3 s
              · have := hv1 g; simp only at h; omega
              · have := hv2 (by omega); simp only at h; omega
        · rw [decide_eq_false q, no (by rw [hB]; exact decide_eq_false (fun h => q h.1))]
          exact jt _
      · rw [no (by unfold statB; rw [decide_eq_false c3, Bool.false_and, Bool.and_false, Bool.and_false])]
        exact Ev.no (fun h => c3 (eb.symm.trans h)) (jt _)
  · rw [if_neg c1, no (by unfold statB; rw [Bool.eq_false_iff.2 c1, Bool.false_and])]
    exact Ev.no (by simp) (jt _)
end Go.Proofs.YthjigecaojaalaaGreatDoor.Q
namespace Go.Proofs.YthjigecaojaalaaGreatDoor.Q
open Go.RowKit Go.Proofs.YthjigecaojaalaaGreatDoorW.PrintWords Go.Proofs.YthjigecaojaalaaGreatDoorW.PrintLast Go.Proofs.YthjigecaojaalaaGreatDoorW.PrintMore
def ccN : ByteArray := ⟨#[99, 97, 99, 104, 101, 45, 99, 111, 110, 116, 114, 111, 108]⟩
def auN : ByteArray := ⟨#[97, 117, 116, 104, 111, 114, 105, 122, 97, 116, 105, 111, 110]⟩
def ctlH (l : List S33) : C4 := foldC (spA [] (fieldF ccN l).1.data.toList) (false, false, -1, -1)
def lifeH (m : List S33) : Int := lifeF (ctlH m).1 (ctlH m).2.1 (ctlH m).2.2.1 (ctlH m).2.2.2
def storF (a : ByteArray) (l : List S33) (b : ByteArray) (m : List S33) : Bool :=
  (tgtF a).2 && (decide ((statF b).1 = 200) && (!(fieldF auN l).2 && (!(ctlH l).1 && (!(ctlH m).1 && decide (lifeH m > 0)))))
theorem Ev.ite2 {α : Type} {f g : Nat → Option α} {r : α} {c : Prop} [Decidable c] (h1 : Ev f r) (h2 : Ev g r) : Ev (fun k => if c then f k else g k) r := by
  by_cases hc : c
  · exact Ev.yes hc h1
  · exact Ev.no hc h2
theorem Ev.ite3 {α : Type} {f g : Nat → Option α} {r : α} {c : Prop} [Decidable c] (h1 : c → Ev f r) (h2 : ¬ c → Ev g r) : Ev (fun k => if c then f k else g k) r := by
  by_cases hc : c
  · exact Ev.yes hc (h1 hc)
  · exact Ev.no hc (h2 hc)
theorem field_size (nm : ByteArray) (l : List S33) (n : Nat) (h : ∀ f ∈ l, f.f1.size ≤ n) : (fieldF nm l).1.size ≤ n := by
  induction l with
  | nil => exact Nat.zero_le _
  | cons f r ih =>
    rw [fieldF]
    split
    · exact h f (by simp)
    · exact ih fun g hg => h g (by simp [hg])
theorem stat_200 (s : ByteArray) (h : (statF s).1 = 200) : (statF s).2 = true := by
  unfold statF at h ⊢
  split at h
  · rename_i c; rw [if_pos c]
  · exact absurd h (by decide)
theorem ctlOf_impl (a : ByteArray) (l : List S33) (hl : l.length ≤ 1048576) (hf : ∀ f ∈ l, f.f1.size ≤ 1048576) : Ev (fun k => impl_controlOf.f k a l) (ctlH l) := by
  simp only [impl_controlOf.f]
  exact Ev.bind (fieldOf_impl a l ccN (by omega)) (Ev.bind (ctl_impl _ (field_size ccN l _ hf)) (Ev.now _))
theorem stor_impl (a : ByteArray) (l : List S33) (b : ByteArray) (m : List S33) (ha : a.size ≤ 1048576) (hb : b.size ≤ 1048576) (hl : l.length ≤ 1048576) (hm : m.length ≤ 1048576) (fl : ∀ f ∈ l, f.f1.size ≤ 1048576) (fm : ∀ f ∈ m, f.f1.size ≤ 1048576) : Ev (fun k => impl_Storable.f k a l b m) (storF a l b m) := by
  simp only [impl_Storable.f]
  refine Ev.bind (target_impl a l ha) (Ev.bind (status_impl b m hb) (Ev.bind (fieldOf_impl a l auN (by omega)) ?_))
  unfold storF
  have no : ∀ a l b m, Ev (fun k => impl_Storable.j0 k true a l b m) false := fun a l b m => Ev.succ (by simp only [impl_Storable.j0]; exact Ev.yes trivial (Ev.now _))
  by_cases c1 : (tgtF a).2 = true
  · rw [c1, Bool.true_and]
    refine Ev.yes rfl ?_
    by_cases c2 : (statF b).1 = 200
    · rw [decide_eq_true c2, Bool.true_and]
      refine Ev.yes c2 (Ev.succ ?_)
      simp only [impl_Storable.j0]
      cases c3 : (fieldF auN l).2 with
      | true => exact Ev.yes rfl (Ev.now _)
      | false =>
        refine Ev.no (by simp) (Ev.bind (ctlOf_impl b m hm fm) (Ev.bind (ctlOf_impl a l hl fl) ?_))
        cases c4 : (ctlH l).1 with
        | true => exact Ev.yes rfl (Ev.now _)
        | false =>
          refine Ev.no (by simp) ?_
          cases c5 : (ctlH m).1 with
          | true => exact Ev.yes rfl (Ev.now _)
          | false =>
            have := life_impl (ctlH m).1 (ctlH m).2.1 (ctlH m).2.2.1 (ctlH m).2.2.2
            rw [c5] at this
            refine Ev.no (by simp) (Ev.bind this ?_)
            unfold lifeH
            rw [c5]
            exact Ev.now _
    · rw [decide_eq_false c2]
      exact Ev.no c2 (no ..)
  · rw [Bool.eq_false_iff.2 c1]
    exact Ev.no (by simp) (no ..)
theorem stor_spec (a : ByteArray) (l : List S33) (b : ByteArray) (m : List S33) (ha : a.size ≤ 1048576) (_ : b.size ≤ 1048576) (hl : l.length ≤ 1048576) (hm : m.length ≤ 1048576) (fl : ∀ f ∈ l, f.f1.size ≤ 1048576) (fm : ∀ f ∈ m, f.f1.size ≤ 1048576) : Ev (fun k => spec_Storable.f k a l b m) (storF a l b m) := by
  simp only [spec_Storable.f]
  refine Ev.bind (target_spec a l ha) (Ev.bind (status_spec b m) (Ev.bind (fieldOf_spec a l ccN (by omega)) (Ev.bind (fieldOf_spec b m ccN (by omega)) (Ev.bind (fieldOf_spec a l auN (by omega)) ?_))))
  unfold storF
  have el := ctl_spec (fieldF ccN l).1 (field_size ccN l _ fl)
  have em := ctl_spec (fieldF ccN m).1 (field_size ccN m _ fm)
  by_cases c1 : (tgtF a).2 = true
  · rw [c1, Bool.true_and]
    refine Ev.yes rfl ?_
    by_cases c2 : (statF b).1 = 200
    · rw [decide_eq_true c2, Bool.true_and]
      refine Ev.yes (stat_200 b c2) (Ev.yes c2 (Ev.bind el ?_))
      change Ev (fun k => if (ctlH l).1 = true then some false else _) _
      cases c4 : (ctlH l).1 with
      | true => exact Ev.yes rfl (by rw [Bool.not_true, Bool.false_and, Bool.and_false]; exact Ev.now _)
      | false =>
        refine Ev.no (by simp) (Ev.bind em ?_)
        change Ev (fun k => if (ctlH m).1 = true then some false else _) _
        cases c5 : (ctlH m).1 with
        | true => exact Ev.yes rfl (by rw [Bool.not_true, Bool.false_and, Bool.and_false, Bool.and_false]; exact Ev.now _)
        | false =>
          refine Ev.no (by simp) ?_
          cases c3 : (fieldF auN l).2 with
          | true => exact Ev.yes rfl (Ev.now _)
          | false => exact Ev.no (by simp) (Ev.bind em (Ev.bind (life_spec _ _ _ _) (Ev.now _)))
    · rw [decide_eq_false c2]
      refine Ev.ite2 ?_ ?_
      · exact Ev.no c2 (Ev.now _)
      · exact Ev.now _
  · rw [Bool.eq_false_iff.2 c1]
    exact Ev.no (by simp) (Ev.now _)
end Go.Proofs.YthjigecaojaalaaGreatDoor.Q
namespace Go.Proofs.YthjigecaojaalaaGreatDoor.Q
open Go.RowKit Go.Proofs.YthjigecaojaalaaGreatDoorW.PrintWords Go.Proofs.YthjigecaojaalaaGreatDoorW.PrintLast Go.Proofs.YthjigecaojaalaaGreatDoorW.PrintMore
theorem and255v (a : Int) : Go.bits .and .i64 a 255 = a % 256 := by
  unfold Go.bits
  simp only [IntKind.wrap_i64]
  have e1 : (BitVec.ofInt IntKind.i64.bits a).toNat = (a % 18446744073709551616).toNat := by rw [BitVec.toNat_ofInt]; rfl
  have e2 : (BitVec.ofInt IntKind.i64.bits 255).toNat = 2 ^ 8 - 1 := by decide
  rw [BitVec.toNat_and, e1, e2, Nat.and_two_pow_sub_one_eq_mod]
  omega
/-- A place in the code that is drawn from. -/
def cu (l : List Int) (i : Int) : Prop := (0 ≤ i ∧ i ≤ l.length) ∧ l.length ≤ 4611686018427387904
theorem byte_ok (l : List Int) (i h : Int) (hc : cu l i) : ∃ x i' h', spec_l01Byte.f l i h = some (x, i', h') ∧ 0 ≤ x ∧ x ≤ 255 ∧ cu l i' := by
  obtain ⟨⟨h0, h1⟩, hl⟩ := hc
  unfold spec_l01Byte.f
  by_cases c : i < (l.length : Int)
  · rw [if_pos c, if_pos h0, w64 (n := i + 1) (by omega) (by omega), and255v]
    exact ⟨_, _, _, rfl, by omega, by omega, ⟨by omega, by omega⟩, hl⟩
  · rw [if_neg c, and255v]
    exact ⟨_, _, _, rfl, by omega, by omega, ⟨by omega, by omega⟩, hl⟩
theorem below_ok (l : List Int) (i h n : Int) (hn : 1 ≤ n) (hc : cu l i) : ∃ x i' h', spec_l01Below.f l i h n = some (x, i', h') ∧ 0 ≤ x ∧ x < n ∧ cu l i' := by
  unfold spec_l01Below.f
  obtain ⟨x1, i1, g1, e1, a1, b1, c1⟩ := byte_ok l i h hc
  rw [if_neg (by omega), e1]
  simp only [Option.bind_some]
  by_cases c : n ≤ 256
  · rw [if_pos c, if_neg (by omega), Int.tmod_eq_emod_of_nonneg a1]
    exact ⟨_, _, _, rfl, Int.emod_nonneg _ (by omega), Int.emod_lt_of_pos _ (by omega), c1⟩
  · obtain ⟨x2, i2, g2, e2, a2, b2, c2⟩ := byte_ok l i1 g1 c1
    obtain ⟨x3, i3, g3, e3, a3, b3, c3⟩ := byte_ok l i2 g2 c2
    obtain ⟨x4, i4, g4, e4, a4, b4, c4⟩ := byte_ok l i3 g3 c3
    rw [if_neg c, e2]
    simp only [Option.bind_some]
    rw [e3]
    simp only [Option.bind_some]
    rw [e4]
    simp only [Option.bind_some]
    rw [w64 (n := x1 * 16777216) (by omega) (by omega), w64 (n := x2 * 65536) (by omega) (by omega), w64 (n := x3 * 256) (by omega) (by omega), w64 (n := x1 * 16777216 + x2 * 65536) (by omega) (by omega), w64 (n := x1 * 16777216 + x2 * 65536 + x3 * 256) (by omega) (by omega),
      w64 (n := x1 * 16777216 + x2 * 65536 + x3 * 256 + x4) (by omega) (by omega), if_neg (by omega), Int.tmod_eq_emod_of_nonneg (by omega)]
    exact ⟨_, _, _, rfl, Int.emod_nonneg _ (by omega), Int.emod_lt_of_pos _ (by omega), c4⟩
theorem byteP (l : List Int) (i h : Int) (hc : cu l i) : EvP (fun _ => spec_l01Byte.f l i h) (fun r => (0 ≤ r.1 ∧ r.1 ≤ 255) ∧ cu l r.2.1) := by
  obtain ⟨x, i', h', e, a, b, c⟩ := byte_ok l i h hc
  exact EvP.const e ⟨⟨a, b⟩, c⟩
theorem belowP (l : List Int) (i h n : Int) (hn : 1 ≤ n) (hc : cu l i) : EvP (fun _ => spec_l01Below.f l i h n) (fun r => (0 ≤ r.1 ∧ r.1 < n) ∧ cu l r.2.1) := by
  obtain ⟨x, i', h', e, a, b, c⟩ := below_ok l i h n hn hc
  exact EvP.const e ⟨⟨a, b⟩, c⟩
theorem cu_zero {l : List Int} (hl : l.length ≤ 4611686018427387904) : cu l 0 := ⟨⟨by omega, by omega⟩, hl⟩
theorem newP_l (l : List Int) (hl : l.length ≤ 4611686018427387904) (d : Nat) : ∀ (h : Int) (i : Nat), i ≤ l.length → l.length - i = d → EvP (fun k => spec_l01New.l0 k l h (i : Int)) (fun r => r.1 = l ∧ cu l r.2.1) := by
  induction d with
  | zero => intro h i hi hd; refine EvP.succ ?_; simp only [spec_l01New.l0]; exact EvP.no (by omega) (EvP.ret ⟨rfl, cu_zero hl⟩)
  | succ d ih =>
    intro h i hi hd
    have hlt : i < l.length := by omega
    refine EvP.succ ?_
    simp only [spec_l01New.l0]
    refine EvP.yes (by omega) (EvP.ite (fun c => EvP.yes (by omega) ?_) (fun c => EvP.ret ⟨rfl, cu_zero hl⟩))
    rw [wnat i _ hlt (by omega)]
    exact ih _ (i + 1) (by omega) (by omega)
theorem newP (l : List Int) (hl : l.length ≤ 4611686018427387904) : EvP (fun k => spec_l01New.f k l) (fun r => r.1 = l ∧ cu l r.2.1) := newP_l l hl l.length _ 0 (by omega) (by omega)
end Go.Proofs.YthjigecaojaalaaGreatDoor.Q
namespace Go.Proofs.YthjigecaojaalaaGreatDoor.Q
open Go.RowKit Go.Proofs.YthjigecaojaalaaGreatDoorW.PrintWords Go.Proofs.YthjigecaojaalaaGreatDoorW.PrintLast Go.Proofs.YthjigecaojaalaaGreatDoorW.PrintMore
theorem pickM (l : List Int) (i h : Int) (x : List ByteArray) (hx : 1 ≤ x.length) (hm : x.length ≤ 1000) (hc : cu l i) : EvP (fun _ => spec_l01Pick.f l i h x) (fun r => r.1 ∈ x ∧ cu l r.2.1) := by
  simp only [spec_l01Pick.f]
  refine EvP.bind (belowP l i h _ (by omega) hc) fun r hr => EvP.yes hr.1.1 (EvP.yes hr.1.2 (EvP.ret ⟨?_, hr.2⟩))
  unfold rdOf
  have hlt : r.1.toNat < x.length := by omega
  simp only [List.getD_eq_getElem?_getD, List.getElem?_eq_getElem hlt, Option.getD_some]
  exact List.getElem_mem hlt
end Go.Proofs.YthjigecaojaalaaGreatDoor.Q
namespace Go.Proofs.YthjigecaojaalaaGreatDoor.Q
open Go.RowKit Go.Proofs.YthjigecaojaalaaGreatDoorW.PrintWords Go.Proofs.YthjigecaojaalaaGreatDoorW.PrintLast Go.Proofs.YthjigecaojaalaaGreatDoorW.PrintMore
def names6 : List ByteArray := [(⟨#[99, 97, 99, 104, 101, 45, 99, 111, 110, 116, 114, 111, 108]⟩ : ByteArray), (⟨#[104, 111, 115, 116]⟩ : ByteArray), (⟨#[99, 111, 110, 116, 101, 110, 116, 45, 108, 101, 110, 103, 116, 104]⟩ : ByteArray), (⟨#[120]⟩ : ByteArray), (⟨#[97, 117, 116, 104, 111, 114, 105, 122, 97, 116, 105, 111, 110]⟩ : ByteArray), (⟨#[116, 114, 97, 110, 115, 102, 101, 114, 45, 101, 110, 99, 111, 100, 105, 110, 103]⟩ : ByteArray)]
def values10 : List ByteArray := [(⟨#[]⟩ : ByteArray), (⟨#[97]⟩ : ByteArray), (⟨#[110, 111, 45, 115, 116, 111, 114, 101]⟩ : ByteArray), (⟨#[109, 97, 120, 45, 97, 103, 101, 61, 54, 48]⟩ : ByteArray), (⟨#[109, 97, 120, 45, 97, 103, 101, 61, 53, 44, 32, 112, 114, 105, 118, 97, 116, 101]⟩ : ByteArray), (⟨#[115, 45, 109, 97, 120, 97, 103, 101, 61, 57]⟩ : ByteArray), (⟨#[49, 50]⟩ : ByteArray), (⟨#[99, 104, 117, 110, 107, 101, 100]⟩ : ByteArray), (⟨#[98, 32, 32, 99]⟩ : ByteArray), (⟨#[51]⟩ : ByteArray)]
def lines6 : List ByteArray := [(⟨#[71, 69, 84, 32, 47, 97, 32, 72, 84, 84, 80, 47, 49, 46, 49]⟩ : ByteArray), (⟨#[71, 69, 84, 32, 47, 98, 32, 72, 84, 84, 80, 47, 49, 46, 49]⟩ : ByteArray), (⟨#[72, 84, 84, 80, 47, 49, 46, 49, 32, 50, 48, 48, 32, 111, 107]⟩ : ByteArray), (⟨#[72, 84, 84, 80, 47, 49, 46, 49, 32, 52, 48, 52, 32, 110, 111]⟩ : ByteArray), (⟨#[80, 79, 83, 84, 32, 47, 97, 32, 72, 84, 84, 80, 47, 49, 46, 49]⟩ : ByteArray), (⟨#[120]⟩ : ByteArray)]
def dF (f : S33) : Prop := f.f0 ∈ names6 ∧ f.f1 ∈ values10
theorem fieldM (l : List Int) (i h : Int) (hc : cu l i) : EvP (fun _ => spec_l09FieldOf.f l i h) (fun r => dF ⟨r.1, r.2.1⟩ ∧ cu l r.2.2.1) := by
  simp only [spec_l09FieldOf.f]
  refine EvP.bind (pickM l _ _ _ (by decide) (by decide) hc) fun a ha => EvP.bind (pickM l _ _ _ (by decide) (by decide) ha.2) fun b hb => EvP.ret ⟨⟨ha.1, hb.1⟩, hb.2⟩
def dFs (l : List S33) : Prop := l.length ≤ 3 ∧ ∀ f ∈ l, dF f
theorem headM_l (l : List Int) (a : ByteArray) (d : Nat) : ∀ (x : List S33) (j : Nat) (i h : Int), x.length = j → j ≤ 3 → 4 - j = d → dFs x → cu l i → EvP (fun k => spec_l09Head.l0 k (j : Int) l i h a x) (fun r => r.1 = a ∧ dFs r.2.1 ∧ cu l r.2.2.1) := by
  induction d with
  | zero => intro x j i h h0 h1 h2; omega
  | succ d ih =>
    intro x j i h h0 h1 h2 hf hc
    refine EvP.succ ?_
    simp only [spec_l09Head.l0]
    refine EvP.bind (belowP l _ _ 4 (by omega) hc) fun y hy => EvP.ite (fun c => ?_) (fun _ => EvP.ret ⟨rfl, hf, hy.2⟩)
    rw [wnat j 4 (by omega) (by omega)]
    refine EvP.bind (fieldM l _ _ hy.2) fun q hq => EvP.yes (by omega) (ih _ (j + 1) _ _ (by simp; omega) (by omega) (by omega) ⟨by simp; omega, fun f hm => ?_⟩ hq.2)
    rcases List.mem_append.mp hm with hm | hm
    · exact hf.2 f hm
    · rw [List.mem_singleton.mp hm]; exact hq.1
theorem headM (l : List Int) (i h : Int) (hc : cu l i) : EvP (fun k => spec_l09Head.f k l i h) (fun r => r.1 ∈ lines6 ∧ dFs r.2.1 ∧ cu l r.2.2.1) := by
  simp only [spec_l09Head.f]
  refine EvP.bind (pickM l _ _ _ (by decide) (by decide) hc) fun a ha => ?_
  refine (headM_l l a.1 4 [] 0 _ _ rfl (by omega) (by omega) ⟨by simp, fun f hf => absurd hf (by simp)⟩ ha.2).imp fun r hr => ?_
  exact ⟨by rw [hr.1]; exact ha.1, hr.2⟩
end Go.Proofs.YthjigecaojaalaaGreatDoor.Q
namespace Go.Proofs.YthjigecaojaalaaGreatDoor.Q
open Go.RowKit Go.Proofs.YthjigecaojaalaaGreatDoorW.PrintWords Go.Proofs.YthjigecaojaalaaGreatDoorW.PrintLast Go.Proofs.YthjigecaojaalaaGreatDoorW.PrintMore
def Pl (r : List Int) : Prop := r.length = 12 ∧ ∀ p ∈ r, 0 ≤ p ∧ p < 10000
theorem placesP_l (l : List Int) (d : Nat) : ∀ (i : Nat) (x : List Int) (ci ch : Int), i ≤ 12 → 12 - i = d → x.length = i → (∀ p ∈ x, 0 ≤ p ∧ p < 10000) → cu l ci → EvP (fun k => spec_DrawPlaces.l0 k x (i : Int) l ci ch) Pl := by
  induction d with
  | zero =>
    intro i x ci ch hi hd hx hp hc
    refine EvP.succ ?_
    simp only [spec_DrawPlaces.l0]
    exact EvP.no (by omega) (EvP.ret ⟨by omega, hp⟩)
  | succ d ih =>
    intro i x ci ch hi hd hx hp hc
    refine EvP.succ ?_
    simp only [spec_DrawPlaces.l0]
    rw [wnat i 12 (by omega) (by omega)]
    refine EvP.yes (by omega) (EvP.bind (belowP l _ _ 10000 (by omega) hc) fun y hy => EvP.yes (by omega) ?_)
    refine ih (i + 1) _ _ _ (by omega) (by omega) (by simp; omega) (fun p h => ?_) hy.2
    rcases List.mem_append.mp h with h | h
    · exact hp p h
    · rw [List.mem_singleton.mp h]; exact hy.1
theorem placesP (l : List Int) (hl : l.length ≤ 4611686018427387904) : EvP (fun k => spec_DrawPlaces.f k l) Pl := by
  simp only [spec_DrawPlaces.f]
  refine EvP.bind (newP l hl) fun c hc => ?_
  rw [hc.1]
  exact EvP.bind (byteP l _ _ hc.2) fun y hy => placesP_l l 12 0 [] _ _ (by omega) (by omega) rfl (fun p h => absurd h (by simp)) hy.2
end Go.Proofs.YthjigecaojaalaaGreatDoor.Q
namespace Go.Proofs.YthjigecaojaalaaGreatDoor.Q
open Go.RowKit Go.Proofs.YthjigecaojaalaaGreatDoorW.PrintWords Go.Proofs.YthjigecaojaalaaGreatDoorW.PrintLast Go.Proofs.YthjigecaojaalaaGreatDoorW.PrintMore
def gA : ByteArray := ⟨#[71, 69, 84, 32, 47, 97, 32, 72, 84, 84, 80, 47, 49, 46, 49]⟩
def okA : ByteArray := ⟨#[72, 84, 84, 80, 47, 49, 46, 49, 32, 50, 48, 48, 32, 111, 107]⟩
def ccF : S33 := ⟨ccN, (⟨#[109, 97, 120, 45, 97, 103, 101, 61, 57]⟩ : ByteArray)⟩
def Dr (r : ByteArray × List S33 × ByteArray × List S33) : Prop := r.1.size ≤ 20 ∧ (r.2.1.length ≤ 4 ∧ ∀ f ∈ r.2.1, f.f1.size ≤ 20) ∧ r.2.2.1.size ≤ 20 ∧ (r.2.2.2.length ≤ 4 ∧ ∀ f ∈ r.2.2.2, f.f1.size ≤ 20)
theorem lines_20 : ∀ a ∈ lines6, a.size ≤ 20 := by decide +kernel
theorem values_20 : ∀ a ∈ values10, a.size ≤ 20 := by decide +kernel
theorem dFs_20 {l : List S33} (h : dFs l) : l.length ≤ 4 ∧ ∀ f ∈ l, f.f1.size ≤ 20 := ⟨by have := h.1; omega, fun f hf => values_20 _ (h.2 f hf).2⟩
theorem ccF_20 {l : List S33} (h : dFs l) : ([ccF] ++ l).length ≤ 4 ∧ ∀ f ∈ [ccF] ++ l, f.f1.size ≤ 20 := by
  refine ⟨by have := h.1; simp; omega, fun f hf => ?_⟩
  rcases List.mem_append.1 hf with hf | hf
  · rw [List.mem_singleton.1 hf]; decide
  · exact (dFs_20 h).2 f hf
theorem drawStor (l0 : List Int) (hl : l0.length ≤ 4611686018427387904) : EvP (fun k => spec_DrawStorable.f k l0) Dr := by
  simp only [spec_DrawStorable.f, Option.bind_some]
  refine EvP.bind (newP l0 hl) fun c hc => ?_
  rw [hc.1]
  refine EvP.bind (belowP l0 _ _ 4 (by omega) hc.2) fun y hy => EvP.bind (headM l0 _ _ hy.2) fun p hp => EvP.bind (headM l0 _ _ hp.2.2) fun q hq => ?_
  have hn := hq.2.1.1
  have a1 := lines_20 _ hp.1
  have b1 := lines_20 _ hq.1
  have g1 : gA.size ≤ 20 := by decide
  have o1 : okA.size ≤ 20 := by decide
  refine EvP.ite (fun _ => EvP.ite (fun _ => EvP.yes (by simp; omega) (EvP.ret ⟨g1, dFs_20 hp.2.1, o1, ccF_20 hq.2.1⟩)) (fun _ => EvP.ret ⟨g1, dFs_20 hp.2.1, o1, dFs_20 hq.2.1⟩)) (fun _ => EvP.ite (fun _ => EvP.yes (by simp; omega) (EvP.ret ⟨a1, dFs_20 hp.2.1, b1, ccF_20 hq.2.1⟩)) (fun _ => EvP.ret ⟨a1, dFs_20 hp.2.1, b1, dFs_20 hq.2.1⟩))
theorem stor_small (a : ByteArray) (l : List S33) (b : ByteArray) (m : List S33) (h : Dr (a, l, b, m)) : Ev (fun k => impl_Storable.f k a l b m) (storF a l b m) ∧ Ev (fun k => spec_Storable.f k a l b m) (storF a l b m) := by
  obtain ⟨h1, h2, h3, h4⟩ := h
  simp only at h1 h2 h3 h4
  exact ⟨stor_impl a l b m (by omega) (by omega) (by omega) (by omega) (fun f hf => by have := h2.2 f hf; omega) (fun f hf => by have := h4.2 f hf; omega), stor_spec a l b m (by omega) (by omega) (by omega) (by omega) (fun f hf => by have := h2.2 f hf; omega) (fun f hf => by have := h4.2 f hf; omega)⟩
theorem law_j0 (a : ByteArray) (l : List S33) (b : ByteArray) (m : List S33) (h : Dr (a, l, b, m)) (c : ByteArray) (p : List S33) (d : ByteArray) (q : List S33) (h2 : Dr (c, p, d, q)) (hn : storF c p d q = false) : Ev (fun k => laws_FnStorable.j0 k true a l b m c p d q) true := by
  refine Ev.succ ?_
  simp only [laws_FnStorable.j0, laws_first.f]
  have e2 := (stor_small c p d q h2).1
  rw [hn] at e2
  have e1 := (stor_small a l b m h).1
  refine Ev.yes trivial (Ev.bind e2 (Ev.no (by simp) (Ev.bind e1 ?_)))
  cases cs : storF a l b m with
  | false => exact Ev.no (by simp) (Ev.now _)
  | true =>
    have hm := h.2.2.2
    simp only at hm
    have hs := field_size ccN m 20 hm.2
    have hp : lifeH m > 0 := by
      unfold storF at cs
      simp only [Bool.and_eq_true, decide_eq_true_eq] at cs
      exact cs.2.2.2.2.2
    refine Ev.yes rfl (Ev.bind (Ev.bind (fieldOf_spec b m ccN (by omega)) (Ev.now _)) (Ev.bind (ctl_spec (fieldF ccN m).1 (by omega)) (Ev.bind (life_impl _ _ _ _) ?_)))
    change Ev (fun _ => some (decide (lifeH m > 0))) true
    rw [decide_eq_true hp]
    exact Ev.now _
theorem pureFnStorable (l0 : List Int) (_ : l0.length ≤ maxLen) (_ : ∀ x ∈ l0, (Lit.int .u8 x).wf = true) : ∃ k, laws_FnStorable.f k l0 = some true := by
  refine Ev.rounds (g := fun k => laws_FnStorable.f k l0) ?_
  simp only [laws_FnStorable.f, laws_big.f, Option.bind_some]
  by_cases c : (l0.length : Int) > 1048576
  · exact Ev.yes (decide_eq_true c) (Ev.now _)
  refine Ev.no (by simpa using c) ?_
  obtain ⟨⟨a, l, b, m⟩, ed, hd⟩ := drawStor l0 (by omega)
  obtain ⟨e1, e2⟩ := stor_small a l b m hd
  obtain ⟨p, ep, hp, hq⟩ := placesP l0 (by omega)
  have k0 : Dr (gA, [], okA, [ccF]) := by refine ⟨by decide, ⟨by decide, fun f hf => absurd hf (by simp)⟩, by decide, by decide, fun f hf => ?_⟩; rw [List.mem_singleton.1 hf]; decide
  have e3 := (stor_small gA [] okA [ccF] k0).1
  rw [show storF gA [] okA [ccF] = true from by decide +kernel] at e3
  refine Ev.bind ed (Ev.bind e1 (Ev.bind e2 (Ev.no (by simp) (Ev.bind ep (Ev.bind e3 (Ev.yes (by omega) ?_))))))
  have one : ∀ f : S33, f.f1.size ≤ 20 → ∀ g ∈ [f], g.f1.size ≤ 20 := fun f hf g hg => by rw [List.mem_singleton.1 hg]; exact hf
  refine Ev.ite3 (fun _ => ?_) (fun _ => Ev.ite3 (fun _ => ?_) (fun _ => Ev.ite3 (fun _ => ?_) (fun _ => Ev.yes (by simp) ?_)))
  · exact law_j0 a l b m hd gA [⟨auN, (⟨#[120]⟩ : ByteArray)⟩] okA [ccF] ⟨by decide, ⟨by decide, one _ (by decide)⟩, by decide, by decide, one _ (by decide)⟩ (by decide +kernel)
  · exact law_j0 a l b m hd gA [⟨ccN, (⟨#[110, 111, 45, 115, 116, 111, 114, 101]⟩ : ByteArray)⟩] okA [ccF] ⟨by decide, ⟨by decide, one _ (by decide)⟩, by decide, by decide, one _ (by decide)⟩ (by decide +kernel)
  · exact law_j0 a l b m hd gA [] (⟨#[72, 84, 84, 80, 47, 49, 46, 49, 32, 52, 48, 52, 32, 110, 111]⟩ : ByteArray) [ccF] ⟨by decide, ⟨by decide, fun f hf => absurd hf (by simp)⟩, by decide, by decide, one _ (by decide)⟩ (by decide +kernel)
  · exact law_j0 a l b m hd gA [] okA [⟨ccN, (⟨#[109, 97, 120, 45, 97, 103, 101, 61, 57, 44, 32, 112, 114, 105, 118, 97, 116, 101]⟩ : ByteArray)⟩] ⟨by decide, ⟨by decide, fun f hf => absurd hf (by simp)⟩, by decide, by decide, one _ (by decide)⟩ (by decide +kernel)
end Go.Proofs.YthjigecaojaalaaGreatDoor.Q
