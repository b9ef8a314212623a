import Derived.Test.YthjigecaojaalaaDoorKcWords
import Derived.Lib.Strings
import Derived.Test.YthjigecaojaalaaDoorKcG29
import Derived.Test.YthjigecaojaalaaDoorKcG30
import Derived.Test.YthjigecaojaalaaDoorKcG35
import Derived.Test.YthjigecaojaalaaDoorKcG64
import Derived.Lib.IndexAny
import Derived.Test.YthjigecaojaalaaDoorKcG85
import Derived.Test.YthjigecaojaalaaDoorKcG22
import Derived.Test.YthjigecaojaalaaDoorKcG34
import Derived.Lib.ItoaNum
import Derived.Test.YthjigecaojaalaaDoorKcG60
import Derived.Test.YthjigecaojaalaaDoorKcG43
import Derived.Lib.Join
import Derived.Test.YthjigecaojaalaaDoorKcG8
import Derived.Test.YthjigecaojaalaaDoorKcG14
import Derived.Test.YthjigecaojaalaaDoorKcG16
import Derived.Test.YthjigecaojaalaaDoorKcG46
import Derived.Test.YthjigecaojaalaaDoorKcG44
import Derived.Test.YthjigecaojaalaaDoorKcG20
namespace Go.Proofs.YthjigecaojaalaaDoor.Q
open Go.RowKit Go.Proofs.YthjigecaojaalaaDoorW.PrintWords Go.Proofs.YthjigecaojaalaaDoorW.PrintLast Go.Proofs.YthjigecaojaalaaDoorW.PrintMore
/-- With enough rounds g tells something of which P holds. -/
def EvP {α : Type} (g : Nat → Option α) (P : α → Prop) : Prop := ∃ r, Ev g r ∧ P r
theorem Ev.succ {α : Type} {g : Nat → Option α} {r : α} (h : Ev (fun k => g (k + 1)) r) : Ev g r := Ev.step (fun _ => rfl) h
theorem Ev.yes {α : Type} {f g : Nat → Option α} {r : α} {c : Prop} [Decidable c] (hc : c) (h : Ev f r) : Ev (fun k => if c then f k else g k) r := Ev.congr (fun _ => if_pos hc) h
theorem Ev.no {α : Type} {f g : Nat → Option α} {r : α} {c : Prop} [Decidable c] (hc : ¬ c) (h : Ev g r) : Ev (fun k => if c then f k else g k) r := Ev.congr (fun _ => if_neg hc) h
theorem Ev.via {α β : Type} {g : Option α} {f : Nat → α → Option β} {a : α} {r : β} (h : g = some a) (k : Ev (fun n => f n a) r) : Ev (fun n => g.bind (f n)) r := Ev.congr (fun _ => by rw [h]; rfl) k
theorem Ev.const {α : Type} {g : Option α} {a : α} (h : g = some a) : Ev (fun _ => g) a := ⟨0, fun _ _ => h⟩
theorem EvP.bind {α β : Type} {g : Nat → Option α} {f : Nat → α → Option β} {P : α → Prop} {Q : β → Prop} (h : EvP g P) (k : ∀ a, P a → EvP (fun n => f n a) Q) : EvP (fun n => (g n).bind (f n)) Q := by
  obtain ⟨a, ha, hp⟩ := h
  obtain ⟨r, hr, hq⟩ := k a hp
  exact ⟨r, Ev.bind ha hr, hq⟩
theorem EvP.ite {α : Type} {f g : Nat → Option α} {P : α → Prop} {c : Prop} [Decidable c] (h1 : c → EvP f P) (h2 : ¬ c → EvP g P) : EvP (fun k => if c then f k else g k) P := by
  by_cases hc : c
  · obtain ⟨r, hr, hp⟩ := h1 hc; exact ⟨r, Ev.yes hc hr, hp⟩
  · obtain ⟨r, hr, hp⟩ := h2 hc; exact ⟨r, Ev.no hc hr, hp⟩
theorem EvP.yes {α : Type} {f g : Nat → Option α} {P : α → Prop} {c : Prop} [Decidable c] (hc : c) (h : EvP f P) : EvP (fun k => if c then f k else g k) P := EvP.ite (fun _ => h) (fun hn => absurd hc hn)
theorem EvP.no {α : Type} {f g : Nat → Option α} {P : α → Prop} {c : Prop} [Decidable c] (hc : ¬ c) (h : EvP g P) : EvP (fun k => if c then f k else g k) P := EvP.ite (fun hn => absurd hn hc) (fun _ => h)
theorem EvP.ret {α : Type} {a : α} {P : α → Prop} (h : P a) : EvP (fun _ => some a) P := ⟨a, Ev.now a, h⟩
theorem EvP.ev {α : Type} {g : Nat → Option α} {r : α} {P : α → Prop} (h : Ev g r) (hp : P r) : EvP g P := ⟨r, h, hp⟩
theorem EvP.const {α : Type} {g : Option α} {a : α} {P : α → Prop} (h : g = some a) (hp : P a) : EvP (fun _ => g) P := ⟨a, Ev.const h, hp⟩
theorem EvP.succ {α : Type} {g : Nat → Option α} {P : α → Prop} (h : EvP (fun k => g (k + 1)) P) : EvP g P := by
  obtain ⟨r, hr, hp⟩ := h
  exact ⟨r, Ev.succ hr, hp⟩
theorem EvP.is {α : Type} {g : Nat → Option α} {r : α} (h : EvP g (fun x => x = r)) : Ev g r := by
  obtain ⟨_, hr, rfl⟩ := h
  exact hr
end Go.Proofs.YthjigecaojaalaaDoor.Q
namespace Go.Proofs.YthjigecaojaalaaDoor.Q
open Go.RowKit Go.Proofs.YthjigecaojaalaaDoorW.PrintWords Go.Proofs.YthjigecaojaalaaDoorW.PrintLast Go.Proofs.YthjigecaojaalaaDoorW.PrintMore
theorem w64 {n : Int} (h0 : -9223372036854775808 ≤ n) (h1 : n < 9223372036854775808) : wrap64 n = n := by unfold wrap64; omega
theorem wnat (i n : Nat) (h : i < n) (hn : n ≤ 9223372036854775807) : wrap64 ((i : Int) + 1) = ((i + 1 : Nat) : Int) := by rw [w64 (by omega) (by omega)]; rfl
theorem rd_get (l : List Int) (i : Nat) (h : i < l.length) : rd l i = l[i] := by simp [rd, h]
theorem drop_get {α : Type} (l : List α) (i : Nat) (h : i < l.length) : l.drop i = l[i] :: l.drop (i + 1) := List.drop_eq_getElem_cons h
theorem toL (s : ByteArray) : s.toList = s.data.toList := Lib.toList_data s
theorem sizeL (s : ByteArray) : s.data.toList.length = s.size := (Lib.size_eq s).symm
theorem ba_ext {s t : ByteArray} (h : s.data.toList = t.data.toList) : s = t := ByteArray.ext (Array.toList_inj.1 h)
theorem bt_get (s : ByteArray) (i : Nat) (h : i < s.size) : bt s (i : Int) = ((s.data.toList[i]'(by rw [sizeL]; exact h)).toNat : Int) := by simp [bt, h]; rfl
theorem bt_rng (s : ByteArray) (i : Int) : 0 ≤ bt s i ∧ bt s i ≤ 255 := bt_range s i
/-- Are all bytes in lo .. hi. -/
def inB (lo hi : Int) (l : List UInt8) : Bool := l.all fun b => decide (lo ≤ (b.toNat : Int) ∧ (b.toNat : Int) ≤ hi)
end Go.Proofs.YthjigecaojaalaaDoor.Q
namespace Go.Proofs.YthjigecaojaalaaDoor.Q
open Go.RowKit Go.Proofs.YthjigecaojaalaaDoorW.PrintWords Go.Proofs.YthjigecaojaalaaDoorW.PrintLast Go.Proofs.YthjigecaojaalaaDoorW.PrintMore
theorem in_spec (a b c : Int) : spec_l01In.f a b c = some (decide (b ≤ a ∧ a ≤ c)) := by
  unfold spec_l01In.f
  by_cases h : a ≥ b
  · rw [if_pos h]; simp [show b ≤ a from h]
  · rw [if_neg h]; simp [show ¬ b ≤ a from h]
theorem in_impl (a b c : Int) : impl_within.f a b c = some (decide (b ≤ a ∧ a ≤ c)) := by
  unfold impl_within.f
  by_cases h : a ≥ b
  · rw [if_pos h]; simp [show b ≤ a from h]
  · rw [if_neg h]; simp [show ¬ b ≤ a from h]
end Go.Proofs.YthjigecaojaalaaDoor.Q
namespace Go.Proofs.YthjigecaojaalaaDoor.Q
open Go.RowKit Go.Proofs.YthjigecaojaalaaDoorW.PrintWords Go.Proofs.YthjigecaojaalaaDoorW.PrintLast Go.Proofs.YthjigecaojaalaaDoorW.PrintMore
theorem bytesIn_l (s : ByteArray) (lo hi : Int) (hs : s.size ≤ 9223372036854775807) (d : Nat) : ∀ i : Nat, i ≤ s.size → s.size - i = d → Ev (fun k => impl_bytesIn.l0 k s lo hi (s.size : Int) (i : Int)) (inB lo hi (s.data.toList.drop i)) := by
  induction d with
  | zero =>
    intro i hi_ hd
    refine Ev.succ ?_
    simp only [impl_bytesIn.l0]
    rw [List.drop_eq_nil_of_le (by rw [sizeL]; omega)]
    exact Ev.no (by omega) (Ev.now _)
  | succ d ih =>
    intro i hi_ hd
    have hlt : i < s.size := by omega
    have hb := bt_rng s i
    refine Ev.succ ?_
    simp only [impl_bytesIn.l0]
    rw [w64 (n := bt s i) (by omega) (by omega), wnat i _ hlt hs, drop_get _ i (by rw [sizeL]; exact hlt)]
    simp only [in_impl, Option.bind_some]
    refine Ev.yes (by omega) (Ev.yes (by omega) (Ev.yes (by omega) ?_))
    rw [bt_get s i hlt]
    by_cases c : lo ≤ ((s.data.toList[i]'(by rw [sizeL]; exact hlt)).toNat : Int) ∧ ((s.data.toList[i]'(by rw [sizeL]; exact hlt)).toNat : Int) ≤ hi
    · refine Ev.yes (decide_eq_true c) ?_
      rw [show inB lo hi (s.data.toList[i]'(by rw [sizeL]; exact hlt) :: s.data.toList.drop (i + 1)) = inB lo hi (s.data.toList.drop (i + 1)) from by simp only [inB, List.all_cons]; rw [decide_eq_true c, Bool.true_and]]
      exact ih (i + 1) (by omega) (by omega)
    · refine Ev.no (by simpa using c) ?_
      rw [show inB lo hi (s.data.toList[i]'(by rw [sizeL]; exact hlt) :: s.data.toList.drop (i + 1)) = false from by simp only [inB, List.all_cons]; rw [decide_eq_false c, Bool.false_and]]
      exact Ev.now _
theorem bytesIn_ev (s : ByteArray) (lo hi : Int) (hs : s.size ≤ 9223372036854775807) : Ev (fun k => impl_bytesIn.f k s lo hi) (inB lo hi s.data.toList) := bytesIn_l s lo hi hs s.size 0 (by omega) (by omega)
end Go.Proofs.YthjigecaojaalaaDoor.Q
namespace Go.Proofs.YthjigecaojaalaaDoor.Q
open Go.RowKit Go.Proofs.YthjigecaojaalaaDoorW.PrintWords Go.Proofs.YthjigecaojaalaaDoorW.PrintLast Go.Proofs.YthjigecaojaalaaDoorW.PrintMore
def numL : Int → List UInt8 → Int
  | acc, [] => acc
  | acc, b :: r => numL (10 * acc + ((b.toNat : Int) - 48)) r
theorem inB_cons (lo hi : Int) (b : UInt8) (r : List UInt8) : inB lo hi (b :: r) = (decide (lo ≤ (b.toNat : Int) ∧ (b.toNat : Int) ≤ hi) && inB lo hi r) := by simp [inB]
theorem pow_le6 (i : Nat) (h : i ≤ 6) : 10 ^ i ≤ 1000000 := Nat.pow_le_pow_right (by omega) h
theorem number_spec_l (s : ByteArray) (hs : s.size ≤ 6) (d : Nat) : ∀ (i : Nat) (acc : Int), i ≤ s.size → s.size - i = d → 0 ≤ acc → acc < ((10 ^ i : Nat) : Int) → Ev (fun k => spec_l10Number.l0 k s acc (i : Int)) (if inB 48 57 (s.data.toList.drop i) = true then (numL acc (s.data.toList.drop i), true) else (0, false)) := by
  induction d with
  | zero =>
    intro i acc hi hd h0 h1
    refine Ev.succ ?_
    simp only [spec_l10Number.l0]
    rw [List.drop_eq_nil_of_le (by rw [sizeL]; omega)]
    exact Ev.no (by omega) (Ev.now _)
  | succ d ih =>
    intro i acc hi hd h0 h1
    have hlt : i < s.size := by omega
    have hp := pow_le6 i (by omega)
    have hl : i < s.data.toList.length := by rw [sizeL]; exact hlt
    refine Ev.succ ?_
    simp only [spec_l10Number.l0]
    rw [bt_get s i hlt, wnat i _ hlt (by omega), drop_get _ i hl, inB_cons, numL]
    have hb := (s.data.toList[i]'hl).toNat_lt
    generalize s.data.toList[i]'hl = b at hb ⊢
    refine Ev.yes (by omega) (Ev.yes (by omega) ?_)
    by_cases c1 : ((b.toNat : Nat) : Int) < 48
    · rw [decide_eq_false (by omega), Bool.false_and]
      exact Ev.yes c1 (Ev.now _)
    · refine Ev.no c1 ?_
      by_cases c2 : ((b.toNat : Nat) : Int) > 57
      · rw [decide_eq_false (by omega), Bool.false_and]
        exact Ev.yes c2 (Ev.now _)
      · rw [decide_eq_true (by omega), Bool.true_and]
        refine Ev.no c2 ?_
        rw [w64 (n := (10 : Int) * acc) (by omega) (by omega), w64 (n := ((b.toNat : Nat) : Int)) (by omega) (by omega), w64 (n := (10 : Int) * acc + ((b.toNat : Nat) : Int)) (by omega) (by omega), w64 (n := (10 : Int) * acc + ((b.toNat : Nat) : Int) - 48) (by omega) (by omega), show (10 : Int) * acc + ((b.toNat : Nat) : Int) - 48 = 10 * acc + (((b.toNat : Nat) : Int) - 48) by omega]
        exact ih (i + 1) _ (by omega) (by omega) (by omega) (by rw [Nat.pow_succ]; omega)
theorem number_spec (s : ByteArray) : Ev (fun k => spec_l10Number.f k s) (if 1 ≤ s.size ∧ s.size ≤ 6 ∧ inB 48 57 s.data.toList = true then (numL 0 s.data.toList, true) else (0, false)) := by
  simp only [spec_l10Number.f, in_spec, Option.bind_some]
  by_cases c : 1 ≤ s.size ∧ s.size ≤ 6
  · refine Ev.yes (decide_eq_true (by omega)) ?_
    have h := number_spec_l s c.2 s.size 0 0 (by omega) (by omega) (by omega) (by decide)
    rw [List.drop_zero] at h
    by_cases c2 : inB 48 57 s.data.toList = true
    · rw [if_pos c2] at h; rw [if_pos ⟨c.1, c.2, c2⟩]; exact h
    · rw [if_neg c2] at h; rw [if_neg (fun q => c2 q.2.2)]; exact h
  · rw [if_neg (fun q => c ⟨q.1, q.2.1⟩)]
    exact Ev.no (by simp; omega) (Ev.now _)
theorem figures_l (s : ByteArray) (hs : s.size ≤ 6) (d : Nat) : ∀ (i : Nat) (acc : Int), i ≤ s.size → s.size - i = d → inB 48 57 (s.data.toList.drop i) = true → 0 ≤ acc → acc < ((10 ^ i : Nat) : Int) → Ev (fun k => impl_figuresOf.l0 k s acc (s.size : Int) (i : Int)) (numL acc (s.data.toList.drop i), true) := by
  induction d with
  | zero =>
    intro i acc hi hd hb h0 h1
    refine Ev.succ ?_
    simp only [impl_figuresOf.l0]
    rw [List.drop_eq_nil_of_le (by rw [sizeL]; omega)]
    exact Ev.no (by omega) (Ev.now _)
  | succ d ih =>
    intro i acc hi hd hb h0 h1
    have hlt : i < s.size := by omega
    have hp := pow_le6 i (by omega)
    have hl : i < s.data.toList.length := by rw [sizeL]; exact hlt
    refine Ev.succ ?_
    simp only [impl_figuresOf.l0]
    rw [bt_get s i hlt, wnat i _ hlt (by omega), drop_get _ i hl, numL]
    rw [drop_get _ i hl, inB_cons, Bool.and_eq_true, decide_eq_true_eq] at hb
    generalize s.data.toList[i]'hl = b at hb ⊢
    rw [show (((b.toNat : Nat) : Int) - 48) % 256 = ((b.toNat : Nat) : Int) - 48 by omega, w64 (n := (10 : Int) * acc) (by omega) (by omega), w64 (n := (10 : Int) * acc + (((b.toNat : Nat) : Int) - 48)) (by omega) (by omega)]
    refine Ev.yes (by omega) (Ev.yes (by omega) (Ev.yes (by omega) ?_))
    exact ih (i + 1) _ (by omega) (by omega) hb.2 (by omega) (by rw [Nat.pow_succ]; omega)
theorem figures_ev (s : ByteArray) (m : Nat) (hm : m ≤ 6) (hs : s.size ≤ 9223372036854775807) : Ev (fun k => impl_figuresOf.f k s (m : Int)) (if 1 ≤ s.size ∧ s.size ≤ m ∧ inB 48 57 s.data.toList = true then (numL 0 s.data.toList, true) else (0, false)) := by
  simp only [impl_figuresOf.f, in_impl, Option.bind_some]
  by_cases c : 1 ≤ s.size ∧ s.size ≤ m
  · refine Ev.yes (decide_eq_true (by omega)) (Ev.bind (bytesIn_ev s 48 57 hs) (Ev.succ ?_))
    simp only [impl_figuresOf.j0]
    by_cases c2 : inB 48 57 s.data.toList = true
    · rw [if_pos ⟨c.1, c.2, c2⟩, c2]
      have h := figures_l s (by omega) s.size 0 0 (by omega) (by omega) (by rw [List.drop_zero]; exact c2) (by omega) (by decide)
      rw [List.drop_zero] at h
      exact Ev.no (by decide) h
    · rw [if_neg (fun q => c2 q.2.2)]
      exact Ev.yes (by simpa using c2) (Ev.now _)
  · rw [if_neg (fun q => c ⟨q.1, q.2.1⟩)]
    refine Ev.no (by simp; omega) (Ev.succ ?_)
    simp only [impl_figuresOf.j0]
    exact Ev.yes trivial (Ev.now _)
end Go.Proofs.YthjigecaojaalaaDoor.Q
namespace Go.Proofs.YthjigecaojaalaaDoor.Q
open Go.RowKit Go.Proofs.YthjigecaojaalaaDoorW.PrintWords Go.Proofs.YthjigecaojaalaaDoorW.PrintLast Go.Proofs.YthjigecaojaalaaDoorW.PrintMore
set_option linter.unusedSimpArgs false
def ba (l : List UInt8) : ByteArray := ⟨l.toArray⟩
theorem ba_toL (l : List UInt8) : (ba l).data.toList = l := by simp [ba]
theorem ba_list (l : List UInt8) : (ba l).toList = l := by rw [toL, ba_toL]
theorem ba_size (l : List UInt8) : (ba l).size = l.length := by rw [← sizeL, ba_toL]
theorem ba_of (s : ByteArray) : ba s.data.toList = s := by apply ba_ext; rw [ba_toL]
def ct (p : List UInt8) : List UInt8 → List UInt8 × List UInt8 × Bool
  | [] => ([], [], false)
  | b :: t => if p.isPrefixOf (b :: t) then ([], (b :: t).drop p.length, true) else if (ct p t).2.2 = true then (b :: (ct p t).1, (ct p t).2.1, true) else (b :: t, [], false)
theorem cut_ct (p : List UInt8) (hp : p ≠ []) (t : List UInt8) : Lib.cut t p = ct p t := by
  induction t with
  | nil =>
    cases p with
    | nil => exact absurd rfl hp
    | cons a p => rfl
  | cons b t ih =>
    rw [ct]
    unfold Lib.cut at ih ⊢
    rw [Lib.index]
    by_cases c : p.isPrefixOf (b :: t) = true
    · rw [if_pos c, if_pos c]; simp
    · rw [if_neg c, if_neg c, ← ih]
      have g : -1 ≤ Lib.index t p := by
        clear ih c
        induction t with
        | nil => rw [Lib.index]; split <;> decide
        | cons a t ih => rw [Lib.index]; split; decide; split; decide; omega
      by_cases c2 : Lib.index t p = -1
      · rw [c2]; simp
      · have h0 : 0 ≤ Lib.index t p := by omega
        have e1 : (Lib.index t p == -1) = false := by simpa using c2
        rw [e1]
        simp only [if_pos h0, Bool.false_eq_true, if_false, if_true]
        rw [if_pos (by omega)]
        have e2 : (Lib.index t p + 1).toNat = (Lib.index t p).toNat + 1 := by omega
        rw [e2, List.take_succ_cons, show (Lib.index t p).toNat + 1 + p.length = (Lib.index t p).toNat + p.length + 1 by omega, List.drop_succ_cons]
theorem ct_true {p t : List UInt8} (h : (ct p t).2.2 = true) : t = (ct p t).1 ++ p ++ (ct p t).2.1 := by
  induction t with
  | nil => simp [ct] at h
  | cons b t ih =>
    rw [ct] at h ⊢
    by_cases c : p.isPrefixOf (b :: t) = true
    · rw [if_pos c]
      obtain ⟨r, hr⟩ := List.isPrefixOf_iff_prefix.1 c
      simp only [List.nil_append]
      rw [← hr, List.drop_left]
    · rw [if_neg c] at h ⊢
      by_cases c2 : (ct p t).2.2 = true
      · rw [if_pos c2]
        have := ih c2
        simp only [List.cons_append]
        rw [← this]
      · rw [if_neg c2] at h; simp at h
theorem ct_false {p t : List UInt8} (h : (ct p t).2.2 = false) : (ct p t).1 = t := by
  cases t with
  | nil => rfl
  | cons b t =>
    rw [ct] at h ⊢
    by_cases c : p.isPrefixOf (b :: t) = true
    · rw [if_pos c] at h; simp at h
    · rw [if_neg c] at h ⊢
      by_cases c2 : (ct p t).2.2 = true
      · rw [if_pos c2] at h; simp at h
      · rw [if_neg c2]
theorem cut_ev (s : ByteArray) (p : ByteArray) (hp : p.data.toList ≠ []) (hs : s.size ≤ 4000000000) : strings_Cut.f s p = some (ba (ct p.data.toList s.data.toList).1, ba (ct p.data.toList s.data.toList).2.1, (ct p.data.toList s.data.toList).2.2) := by
  unfold strings_Cut.f
  rw [if_pos (by omega), cut_ct _ hp]; rfl
theorem ext_ba (s : ByteArray) (a b : Nat) : s.extract a b = ba ((s.data.toList.drop a).take (b - a)) := by
  apply ba_ext; rw [ba_toL, Lib.extract_data]
end Go.Proofs.YthjigecaojaalaaDoor.Q
namespace Go.Proofs.YthjigecaojaalaaDoor.Q
open Go.RowKit Go.Proofs.YthjigecaojaalaaDoorW.PrintWords Go.Proofs.YthjigecaojaalaaDoorW.PrintLast Go.Proofs.YthjigecaojaalaaDoorW.PrintMore
theorem b32 (b : UInt8) : (b.toNat : Int) = 32 ↔ b = 32 := by
  constructor
  · intro h
    exact UInt8.toNat_inj.1 (by show b.toNat = 32; omega)
  · rintro rfl; rfl
end Go.Proofs.YthjigecaojaalaaDoor.Q
namespace Go.Proofs.YthjigecaojaalaaDoor.Q
open Go.RowKit Go.Proofs.YthjigecaojaalaaDoorW.PrintWords Go.Proofs.YthjigecaojaalaaDoorW.PrintLast Go.Proofs.YthjigecaojaalaaDoorW.PrintMore
set_option linter.unusedSimpArgs false
theorem trimR_last (l : List UInt8) (b : UInt8) : Lib.trimRightB (l ++ [b]) 32 = if b = 32 then Lib.trimRightB l 32 else l ++ [b] := by
  unfold Lib.trimRightB
  rw [List.reverse_append]
  simp only [List.reverse_cons, List.reverse_nil, List.nil_append, List.singleton_append]
  by_cases c : b = 32
  · subst c; simp
  · simp [c]
theorem trimR_cons (b : UInt8) (t : List UInt8) : Lib.trimRightB (b :: t) 32 = if Lib.trimRightB t 32 = [] ∧ b = 32 then [] else b :: Lib.trimRightB t 32 := by
  unfold Lib.trimRightB
  rw [List.reverse_cons, List.dropWhile_append]
  by_cases c : (t.reverse.dropWhile (· == (32 : UInt8))) = []
  · rw [c]
    by_cases d : b = 32
    · subst d; simp
    · simp [d]
  · have : (t.reverse.dropWhile (· == (32 : UInt8))).isEmpty = false := by simpa using c
    rw [this, if_neg (by simp)]
    rw [if_neg (fun h => c (by simpa using h.1))]
    simp
theorem trim_swap (l : List UInt8) : Lib.trimRightB (Lib.trimLeftB l 32) 32 = Lib.trimB l 32 := by
  unfold Lib.trimB
  induction l with
  | nil => rfl
  | cons b t ih =>
    rw [trimR_cons]
    unfold Lib.trimLeftB at *
    by_cases c : b = 32
    · subst c
      rw [List.dropWhile_cons_of_pos (by simp), ih]
      by_cases d : Lib.trimRightB t 32 = []
      · rw [if_pos ⟨d, rfl⟩, d]
      · rw [if_neg (fun h => d h.1), List.dropWhile_cons_of_pos (by simp)]
    · rw [List.dropWhile_cons_of_neg (by simp [c]), if_neg (fun h => c h.2), List.dropWhile_cons_of_neg (by simp [c]), trimR_cons, if_neg (fun h => c h.2)]
theorem trimS_r (d : Nat) : ∀ s : ByteArray, s.size = d → s.size ≤ 9223372036854775807 → Ev (fun k => spec_l09Trim.l1 k s) (ba (Lib.trimRightB s.data.toList 32)) := by
  induction d with
  | zero =>
    intro s hd hs
    have : s.data.toList = [] := List.eq_nil_of_length_eq_zero (by rw [sizeL]; exact hd)
    refine Ev.succ ?_
    simp only [spec_l09Trim.l1]
    rw [this, show ba (Lib.trimRightB [] 32) = s from by rw [← ba_of s, this]; rfl]
    exact Ev.no (by omega) (Ev.now _)
  | succ d ih =>
    intro s hd hs
    refine Ev.succ ?_
    simp only [spec_l09Trim.l1]
    have hw : wrap64 ((s.size : Int) - 1) = ((s.size - 1 : Nat) : Int) := by rw [w64 (by omega) (by omega)]; omega
    rw [hw, bt_get s (s.size - 1) (by omega)]
    refine Ev.yes (by omega) (Ev.yes (by omega) (Ev.yes (by omega) ?_))
    have hl : s.data.toList = s.data.toList.take (s.size - 1) ++ [s.data.toList[s.size - 1]'(by rw [sizeL]; omega)] := by
      have h2 := List.take_succ_eq_append_getElem (l := s.data.toList) (i := s.size - 1) (by rw [sizeL]; omega)
      rw [← h2, List.take_of_length_le (by rw [sizeL]; omega)]
    have e := trimR_last (s.data.toList.take (s.size - 1)) (s.data.toList[s.size - 1]'(by rw [sizeL]; omega))
    rw [← hl] at e
    rw [e]
    by_cases c : s.data.toList[s.size - 1]'(by rw [sizeL]; omega) = 32
    · rw [if_pos c]
      refine Ev.yes ((b32 _).2 c) (Ev.yes (by omega) ?_)
      have e2 : (s.extract 0 (((s.size - 1 : Nat) : Int)).toNat) = ba (s.data.toList.take (s.size - 1)) := by rw [Int.toNat_natCast, ext_ba]; simp
      rw [e2]
      have := ih (ba (s.data.toList.take (s.size - 1))) (by rw [ba_size, List.length_take, sizeL]; omega) (by rw [ba_size, List.length_take, sizeL]; omega)
      rw [ba_toL] at this
      exact this
    · rw [if_neg c, ba_of]
      exact Ev.no (fun h => c ((b32 _).1 h)) (Ev.now _)
theorem trimS_l (d : Nat) : ∀ s : ByteArray, s.size = d → s.size ≤ 9223372036854775807 → Ev (fun k => spec_l09Trim.l0 k s) (ba (Lib.trimRightB (Lib.trimLeftB s.data.toList 32) 32)) := by
  have jt : ∀ s : ByteArray, s.size ≤ 9223372036854775807 → Ev (fun k => spec_l09Trim.j1 k s) (ba (Lib.trimRightB s.data.toList 32)) := fun s hs => by
    refine Ev.succ ?_
    simp only [spec_l09Trim.j1]; exact trimS_r s.size s rfl hs
  induction d with
  | zero =>
    intro s hd hs
    have : s.data.toList = [] := List.eq_nil_of_length_eq_zero (by rw [sizeL]; exact hd)
    have h := jt s hs
    refine Ev.succ ?_
    simp only [spec_l09Trim.l0]
    rw [this] at h ⊢
    exact Ev.no (by omega) h
  | succ d ih =>
    intro s hd hs
    refine Ev.succ ?_
    simp only [spec_l09Trim.l0]
    have eb := bt_get s 0 (by omega)
    rw [show ((0 : Nat) : Int) = 0 from rfl] at eb
    rw [eb]
    have hl := drop_get s.data.toList 0 (by rw [sizeL]; omega)
    rw [List.drop_zero] at hl
    refine Ev.yes (by omega) (Ev.yes (by omega) ?_)
    by_cases c : s.data.toList[0]'(by rw [sizeL]; omega) = 32
    · refine Ev.yes ((b32 _).2 c) (Ev.yes (by omega) ?_)
      have e2 : s.extract 1 s.size = ba (s.data.toList.drop 1) := by rw [ext_ba, List.take_of_length_le (by rw [List.length_drop, sizeL]; omega)]
      rw [e2]
      have h := ih (ba (s.data.toList.drop 1)) (by rw [ba_size, List.length_drop, sizeL]; omega) (by rw [ba_size, List.length_drop, sizeL]; omega)
      rw [ba_toL] at h
      have e3 : Lib.trimLeftB s.data.toList 32 = Lib.trimLeftB (s.data.toList.drop 1) 32 := by
        unfold Lib.trimLeftB
        conv => lhs; rw [hl]
        rw [List.dropWhile_cons_of_pos (by simp [c])]
      rw [e3]
      exact h
    · have e3 : Lib.trimLeftB s.data.toList 32 = s.data.toList := by
        unfold Lib.trimLeftB
        conv => lhs; rw [hl]
        rw [List.dropWhile_cons_of_neg (p := fun x => x == (32 : UInt8)) (fun h => c (beq_iff_eq.1 h))]
        exact hl.symm
      rw [e3]
      exact Ev.no (fun h => c ((b32 _).1 h)) (jt s hs)
theorem trimS_ev (s : ByteArray) (hs : s.size ≤ 9223372036854775807) : Ev (fun k => spec_l09Trim.f k s) (ba (Lib.trimB s.data.toList 32)) := by
  have := trimS_l s.size s rfl hs
  rw [trim_swap] at this
  exact this
theorem low_ba (l : List UInt8) : impl_lower.all (ba l) = ba (l.map impl_lower.one) := by
  apply ba_ext; rw [ba_toL]; unfold impl_lower.all ba; simp
theorem trim_len (l : List UInt8) : (Lib.trimB l 32).length ≤ l.length := by
  unfold Lib.trimB Lib.trimLeftB Lib.trimRightB
  have h1 := (List.dropWhile_sublist (l := (l.reverse.dropWhile (· == (32 : UInt8))).reverse) (· == (32 : UInt8))).length_le
  have h2 := (List.dropWhile_sublist (l := l.reverse) (· == (32 : UInt8))).length_le
  rw [List.length_reverse] at h1 h2
  omega
theorem ct_len {p t : List UInt8} : (ct p t).1.length ≤ t.length ∧ (ct p t).2.1.length ≤ t.length := by
  cases h : (ct p t).2.2 with
  | true =>
    have := congrArg List.length (ct_true h)
    simp only [List.length_append] at this
    omega
  | false =>
    refine ⟨by rw [ct_false h]; omega, ?_⟩
    cases t with
    | nil => simp [ct]
    | cons b t =>
      rw [ct] at h ⊢
      split at h
      · cases h
      · rename_i c
        rw [if_neg c]
        split at h
        · cases h
        · rename_i c2; rw [if_neg c2]; simp
theorem ct1 (c b : UInt8) (t : List UInt8) : ct [c] (b :: t) = if b = c then ([], t, true) else if (ct [c] t).2.2 = true then (b :: (ct [c] t).1, (ct [c] t).2.1, true) else (b :: t, [], false) := by
  rw [ct]
  by_cases h : b = c
  · subst h; simp [List.isPrefixOf]
  · rw [if_neg h, if_neg (by simp [List.isPrefixOf, Ne.symm h])]
end Go.Proofs.YthjigecaojaalaaDoor.Q
namespace Go.Proofs.YthjigecaojaalaaDoor.Q
open Go.RowKit Go.Proofs.YthjigecaojaalaaDoorW.PrintWords Go.Proofs.YthjigecaojaalaaDoorW.PrintLast Go.Proofs.YthjigecaojaalaaDoorW.PrintMore
abbrev C4 := Bool × Bool × Int × Int
def numO (l : List UInt8) : Int × Bool := if 1 ≤ l.length ∧ l.length ≤ 6 ∧ inB 48 57 l = true then (numL 0 l, true) else (0, false)
def partP (t : List UInt8) : List UInt8 := (Lib.trimB t 32).map impl_lower.one
def nmAge : List UInt8 := [109, 97, 120, 45, 97, 103, 101]
def nmSh : List UInt8 := [115, 45, 109, 97, 120, 97, 103, 101]
def u1 (p : List UInt8) (c : C4) : C4 := if p = [110, 111, 45, 115, 116, 111, 114, 101] ∨ p = [112, 114, 105, 118, 97, 116, 101] then (true, c.2.1, c.2.2.1, c.2.2.2) else if p = [110, 111, 45, 99, 97, 99, 104, 101] then (c.1, true, c.2.2.1, c.2.2.2) else c
def u2 (p : List UInt8) (c : C4) : C4 := if (ct [61] p).1 = nmAge ∧ (numO (ct [61] p).2.1).2 = true then (c.1, c.2.1, (numO (ct [61] p).2.1).1, c.2.2.2) else c
def u3 (p : List UInt8) (c : C4) : C4 := if (ct [61] p).1 = nmSh ∧ (numO (ct [61] p).2.1).2 = true then (c.1, c.2.1, c.2.2.1, (numO (ct [61] p).2.1).1) else c
def upd (p : List UInt8) (c : C4) : C4 := u3 p (u2 p (u1 p c))
theorem ct_false2 {p t : List UInt8} (h : (ct p t).2.2 = false) : (ct p t).2.1 = [] := by
  cases t with
  | nil => simp [ct]
  | cons b t =>
    rw [ct] at h ⊢
    split at h
    · cases h
    · rename_i c
      rw [if_neg c]
      split at h
      · cases h
      · rename_i c2; rw [if_neg c2]
theorem numO_found {p : List UInt8} (h : (numO (ct [61] p).2.1).2 = true) : (ct [61] p).2.2 = true := by
  cases e : (ct [61] p).2.2 with
  | true => rfl
  | false => rw [ct_false2 e] at h; exact absurd h (by decide)
theorem ct_at1 {c : UInt8} {x : List UInt8} (h : ∀ b ∈ x, b ≠ c) (y : List UInt8) : ct [c] (x ++ c :: y) = (x, y, true) := by
  induction x with
  | nil => rw [List.nil_append, ct1, if_pos rfl]
  | cons b x ih =>
    rw [List.cons_append, ct1, if_neg (h b (by simp)), ih (fun d hd => h d (by simp [hd]))]
    simp
theorem begins_yes {nm p : List UInt8} (hn : ∀ b ∈ nm, b ≠ 61) (h : p.take (nm.length + 1) = nm ++ [61]) : ct [61] p = (nm, p.drop (nm.length + 1), true) := by
  have e : p = nm ++ 61 :: p.drop (nm.length + 1) := by
    have := List.take_append_drop (nm.length + 1) p
    rw [h] at this
    rw [← List.singleton_append, ← List.append_assoc]; exact this.symm
  conv => lhs; rw [e]
  exact ct_at1 hn _
theorem begins_no {nm p : List UInt8} (h : ¬ p.take (nm.length + 1) = nm ++ [61]) : ¬ ((ct [61] p).1 = nm ∧ (numO (ct [61] p).2.1).2 = true) := by
  rintro ⟨h1, h2⟩
  have e := ct_true (numO_found h2)
  rw [h1] at e
  apply h
  rw [e, List.take_left' (by simp)]
theorem number_ba (l : List UInt8) : Ev (fun k => spec_l10Number.f k (ba l)) (numO l) := by
  have := number_spec (ba l)
  rw [ba_toL, ba_size] at this
  exact this
theorem figures_ba (l : List UInt8) (h : l.length ≤ 9223372036854775807) : Ev (fun k => impl_figuresOf.f k (ba l) 6) (numO l) := by
  have := figures_ev (ba l) 6 (by omega) (by rw [ba_size]; omega)
  rw [ba_toL, ba_size] at this
  exact this
theorem begins_ev (p : List UInt8) (q : ByteArray) : spec_l10Begins.f (ba p) q = some (decide (p.take q.size = q.data.toList)) := by
  unfold spec_l10Begins.f
  rw [ba_size]
  by_cases c : (p.length : Int) ≥ (q.size : Int)
  · rw [if_pos c, if_pos (by omega), if_pos (by omega), Int.toNat_natCast, toL, toL, Lib.extract_data, ba_toL, List.drop_zero, Nat.sub_zero]
    congr 1
    rw [Bool.eq_iff_iff, beq_iff_eq, decide_eq_true_iff]
  · rw [if_neg c, decide_eq_false]
    intro h
    have := congrArg List.length h
    rw [List.length_take, sizeL] at this
    omega
theorem part_2 (p : List UInt8) (c : C4) : Ev (fun k => spec_l10Part.j2 k (ba p) c.1 c.2.1 c.2.2.1 c.2.2.2) (u3 p c) := by
  refine Ev.succ ?_
  simp only [spec_l10Part.j2]
  refine Ev.via (begins_ev p _) ?_
  by_cases h : p.take (nmSh.length + 1) = nmSh ++ [61]
  · have e := begins_yes (nm := nmSh) (by decide) h
    have hl : 9 ≤ p.length := by
      have := congrArg List.length h
      rw [List.length_take] at this
      simp [nmSh] at this
      omega
    refine Ev.yes (decide_eq_true h) (Ev.yes (by rw [ba_size]; omega) ?_)
    have e9 : (ba p).extract 9 (ba p).size = ba (p.drop 9) := by
      apply ba_ext; rw [Lib.extract_data, ba_toL, ba_size, ba_toL, List.take_of_length_le (by rw [List.length_drop]; omega)]
    rw [e9]
    refine Ev.bind (number_ba _) ?_
    by_cases g : (numO (p.drop 9)).2 = true
    · have : u3 p c = (c.1, c.2.1, c.2.2.1, (numO (p.drop 9)).1) := by unfold u3; rw [e]; exact if_pos ⟨rfl, g⟩
      rw [this]; exact Ev.yes g (Ev.now _)
    · have : u3 p c = c := by unfold u3; rw [e]; exact if_neg (fun h => g h.2)
      rw [this]; exact Ev.no g (Ev.now _)
  · have : u3 p c = c := if_neg (begins_no h)
    rw [this]
    exact Ev.no (fun q => h (of_decide_eq_true q)) (Ev.now _)
theorem part_1 (p : List UInt8) (c : C4) : Ev (fun k => spec_l10Part.j1 k (ba p) c.1 c.2.1 c.2.2.1 c.2.2.2) (u3 p (u2 p c)) := by
  refine Ev.succ ?_
  simp only [spec_l10Part.j1]
  refine Ev.via (begins_ev p _) ?_
  by_cases h : p.take (nmAge.length + 1) = nmAge ++ [61]
  · have e := begins_yes (nm := nmAge) (by decide) h
    have hl : 8 ≤ p.length := by
      have := congrArg List.length h
      rw [List.length_take] at this
      simp [nmAge] at this
      omega
    refine Ev.yes (decide_eq_true h) (Ev.yes (by rw [ba_size]; omega) ?_)
    have e8 : (ba p).extract 8 (ba p).size = ba (p.drop 8) := by
      apply ba_ext; rw [Lib.extract_data, ba_toL, ba_size, ba_toL, List.take_of_length_le (by rw [List.length_drop]; omega)]
    rw [e8]
    refine Ev.bind (number_ba _) ?_
    by_cases g : (numO (p.drop 8)).2 = true
    · have : u2 p c = (c.1, c.2.1, (numO (p.drop 8)).1, c.2.2.2) := by unfold u2; rw [e]; exact if_pos ⟨rfl, g⟩
      rw [this]; exact Ev.yes g (part_2 p (c.1, c.2.1, (numO (p.drop 8)).1, c.2.2.2))
    · have : u2 p c = c := by unfold u2; rw [e]; exact if_neg (fun h => g h.2)
      rw [this]; exact Ev.no g (part_2 p c)
  · have : u2 p c = c := if_neg (begins_no h)
    rw [this]
    exact Ev.no (fun q => h (of_decide_eq_true q)) (part_2 p c)
theorem part_0 (p : List UInt8) (c : C4) (b : Bool) (hb : b = true ↔ (p = [110, 111, 45, 115, 116, 111, 114, 101] ∨ p = [112, 114, 105, 118, 97, 116, 101])) : Ev (fun k => spec_l10Part.j0 k (ba p) (ba p) b c.1 c.2.1 c.2.2.1 c.2.2.2) (upd p c) := by
  refine Ev.succ ?_
  simp only [spec_l10Part.j0, ba_list]
  unfold upd
  by_cases h : b = true
  · have : u1 p c = (true, c.2.1, c.2.2.1, c.2.2.2) := if_pos (hb.1 h)
    rw [this]; exact Ev.yes h (part_1 p (true, c.2.1, c.2.2.1, c.2.2.2))
  · refine Ev.no h ?_
    by_cases g : p = [110, 111, 45, 99, 97, 99, 104, 101]
    · have : u1 p c = (c.1, true, c.2.2.1, c.2.2.2) := by unfold u1; rw [if_neg (fun q => h (hb.2 q)), if_pos g]
      rw [this]; exact Ev.yes g (part_1 p (c.1, true, c.2.2.1, c.2.2.2))
    · have : u1 p c = c := by unfold u1; rw [if_neg (fun q => h (hb.2 q)), if_neg g]
      rw [this]; exact Ev.no g (part_1 p c)
theorem part_ev (t : List UInt8) (ht : t.length ≤ 1048576) (c : C4) : Ev (fun k => spec_l10Part.f k c.1 c.2.1 c.2.2.1 c.2.2.2 (ba t)) (upd (partP t) c) := by
  simp only [spec_l10Part.f]
  have h1 := trimS_ev (ba t) (by rw [ba_size]; omega)
  rw [ba_toL] at h1
  have hl := trim_len t
  refine Ev.bind h1 (Ev.via (a := ba (partP t)) (by unfold spec_l09Low.f; rw [if_pos (by rw [ba_size]; omega), low_ba]; rfl) ?_)
  rw [ba_list]
  by_cases c1 : partP t = [110, 111, 45, 115, 116, 111, 114, 101]
  · exact Ev.yes c1 (part_0 _ c _ (by simp [c1]))
  · exact Ev.no c1 (part_0 _ c _ (by simp [c1]))
def foldC (l : List (List UInt8)) (c : C4) : C4 := l.foldl (fun c t => upd (partP t) c) c
def spA : List UInt8 → List UInt8 → List (List UInt8)
  | u, [] => [u]
  | u, b :: t => if b = 44 then u :: spA [] t else spA (u ++ [b]) t
def prep (u : List UInt8) : List (List UInt8) → List (List UInt8)
  | [] => [u]
  | h :: r => (u ++ h) :: r
theorem splitK_ne (n : Nat) (t : List UInt8) : Lib.splitK [44] 0 n t ≠ [] := by
  cases n with
  | zero => simp [Lib.splitK]
  | succ n => rw [Lib.splitK]; split <;> simp
theorem prep_nil {l : List (List UInt8)} (h : l ≠ []) : prep [] l = l := by
  cases l with
  | nil => exact absurd rfl h
  | cons a l => rfl
theorem prep_prep (u v : List UInt8) (l : List (List UInt8)) (h : l ≠ []) : prep u (prep v l) = prep (u ++ v) l := by
  cases l with
  | nil => exact absurd rfl h
  | cons a l => simp [prep]
theorem spA_split (t : List UInt8) : ∀ u, spA u t = prep u (Lib.splitK [44] 0 (Lib.count t [44]) t) := by
  induction t with
  | nil =>
    intro u
    rw [Lib.count_miss (by simp [Lib.index])]
    simp [spA, prep, Lib.splitK]
  | cons b t ih =>
    intro u
    rw [spA]
    by_cases c : b = 44
    · subst c
      rw [if_pos rfl, ih, prep_nil (splitK_ne _ _), Lib.count_cons_eq, Nat.add_comm 1, Lib.splitK]
      have hix : Lib.index ((44 : UInt8) :: t) [44] = 0 := by rw [Lib.index]; simp [List.isPrefixOf]
      rw [hix, if_neg (by decide)]
      simp [prep]
    · rw [if_neg c, ih, Lib.count_cons_ne b 44 t c, ← prep_prep u [b] _ (splitK_ne _ _)]
      congr 1
      have hp : ([44] : List UInt8).isPrefixOf (b :: t) = false := by simp [List.isPrefixOf, Ne.symm c]
      have hix : Lib.index (b :: t) [44] = if Lib.index t [44] == -1 then -1 else Lib.index t [44] + 1 := by rw [Lib.index, hp]; simp
      cases hn : Lib.count t [44] with
      | zero => simp [Lib.splitK, prep]
      | succ n =>
        have hge := Lib.index_ge t [44]
        by_cases hm : Lib.index t [44] = -1
        · rw [Lib.count_miss hm] at hn; cases hn
        · have e1 : (Lib.index t [44] == -1) = false := by simpa using hm
          rw [Lib.splitK, Lib.splitK, hix, e1]
          simp only [Bool.false_eq_true, if_false]
          have e2 : (Lib.index t [44] + 1 == -1) = false := by rw [beq_eq_false_iff_ne]; omega
          rw [e2]
          simp only [Bool.false_eq_true, if_false, Nat.add_zero, prep]
          rw [show (Lib.index t [44] + 1).toNat = (Lib.index t [44]).toNat + 1 by omega, List.take_succ_cons, show (Lib.index t [44]).toNat + 1 + ([44] : List UInt8).length = (Lib.index t [44]).toNat + ([44] : List UInt8).length + 1 by omega, List.drop_succ_cons]
          rfl
theorem split_ev (s : ByteArray) (hs : s.size ≤ 1048576) : strings_Split.f s (⟨#[44]⟩ : ByteArray) = some ((spA [] s.data.toList).map ba) := by
  unfold strings_Split.f
  have hc := Lib.countB_le (⟨#[44]⟩ : ByteArray) (by decide) s.size s (Nat.le_refl _)
  rw [if_pos ⟨by omega, by decide, by unfold maxLen; omega⟩]
  congr 1
  have h1 := Lib.splitB_data (⟨#[44]⟩ : ByteArray) 0 (Lib.countB s ⟨#[44]⟩) s
  have h2 := spA_split s.data.toList []
  rw [prep_nil (splitK_ne _ _)] at h2
  rw [h2]
  have e : Lib.countB s (⟨#[44]⟩ : ByteArray) = Lib.count s.data.toList [44] := rfl
  rw [e] at h1 ⊢
  have h3 : (Lib.splitB (⟨#[44]⟩ : ByteArray) 0 (Lib.count s.data.toList [44]) s).map (fun x => ba x.data.toList) = (Lib.splitK [44] 0 (Lib.count s.data.toList [44]) s.data.toList).map ba := by
    have := congrArg (List.map ba) h1
    rw [List.map_map] at this
    exact this
  rw [← h3]
  conv => lhs; rw [← List.map_id (Lib.splitB _ _ _ _)]
  exact List.map_congr_left fun x _ => (ba_of x).symm
theorem spA_mem (t : List UInt8) : ∀ u x, x ∈ spA u t → x.length ≤ u.length + t.length := by
  induction t with
  | nil => intro u x h; rw [spA, List.mem_singleton] at h; subst h; simp
  | cons b t ih =>
    intro u x h
    rw [spA] at h
    split at h
    · rcases List.mem_cons.1 h with rfl | h
      · simp
      · have := ih _ _ h; simp at this ⊢; omega
    · have := ih _ _ h; simp at this ⊢; omega
theorem spA_len (t : List UInt8) : ∀ u, (spA u t).length ≤ t.length + 1 := by
  induction t with
  | nil => intro u; simp [spA]
  | cons b t ih =>
    intro u
    rw [spA]
    split
    · have := ih []; simp; omega
    · have := ih (u ++ [b]); simp; omega
theorem ctl_spec_l (s : ByteArray) (hs : s.size ≤ 1048576) (d : Nat) : ∀ (i at_ : Nat) (c : C4), at_ ≤ i → i ≤ s.size → s.size - i = d → Ev (fun k => spec_ControlOf.l0 k s (at_ : Int) (i : Int) c.1 c.2.1 c.2.2.1 c.2.2.2) (foldC (spA ((s.data.toList.drop at_).take (i - at_)) (s.data.toList.drop i)) c) := by
  induction d with
  | zero =>
    intro i at_ c h0 hi hd
    obtain rfl : i = s.size := by omega
    refine Ev.succ ?_
    simp only [spec_ControlOf.l0]
    rw [show s.data.toList.drop s.size = [] from List.drop_eq_nil_of_le (by rw [sizeL]; omega), spA]
    have e := ext_ba s at_ s.size
    have hp := part_ev ((s.data.toList.drop at_).take (s.size - at_)) (by rw [List.length_take, List.length_drop, sizeL]; omega) c
    rw [← e] at hp
    refine Ev.yes (by omega) (Ev.yes trivial (Ev.yes (by omega) (Ev.yes (by omega) (Ev.yes (by omega) (Ev.bind (by simp only [Int.toNat_natCast]; exact hp) ?_)))))
    refine Ev.succ ?_
    simp only [spec_ControlOf.l0]
    rw [w64 (n := (s.size : Int) + 1) (by omega) (by omega)]
    exact Ev.no (by omega) (Ev.now _)
  | succ d ih =>
    intro i at_ c h0 hi hd
    have hlt : i < s.size := by omega
    refine Ev.succ ?_
    simp only [spec_ControlOf.l0]
    rw [wnat i s.size hlt (by omega), drop_get s.data.toList i (by rw [sizeL]; exact hlt), bt_get s i hlt, spA]
    have hz := ih (i + 1) at_ c (by omega) (by omega) (by omega)
    have hz2 := fun c' => ih (i + 1) (i + 1) c' (by omega) (by omega) (by omega)
    have ht : (s.data.toList.drop at_).take (i + 1 - at_) = (s.data.toList.drop at_).take (i - at_) ++ [s.data.toList[i]'(by rw [sizeL]; exact hlt)] := by
      rw [show i + 1 - at_ = (i - at_) + 1 by omega, List.take_succ_eq_append_getElem (by rw [List.length_drop, sizeL]; omega)]
      congr 2
      rw [List.getElem_drop]
      congr 1; omega
    rw [ht] at hz
    have e := ext_ba s at_ i
    have hp := part_ev ((s.data.toList.drop at_).take (i - at_)) (by rw [List.length_take, List.length_drop, sizeL]; omega) c
    rw [← e] at hp
    generalize s.data.toList[i]'(by rw [sizeL]; exact hlt) = b at *
    have b44 : ((b.toNat : Int) = 44) ↔ b = 44 := ⟨fun h => UInt8.toNat_inj.1 (by show b.toNat = 44; omega), fun h => by rw [h]; rfl⟩
    refine Ev.yes (by omega) (Ev.no (by omega) (Ev.yes (by omega) (Ev.yes (by omega) ?_)))
    by_cases q : b = 44
    · rw [if_pos q]
      refine Ev.yes (b44.2 q) (Ev.yes (by omega) (Ev.yes (by omega) (Ev.yes (by omega) (Ev.bind (by simp only [Int.toNat_natCast]; exact hp) ?_))))
      have := hz2 (upd (partP ((s.data.toList.drop at_).take (i - at_))) c)
      rw [Nat.sub_self, List.take_zero] at this
      exact this
    · rw [if_neg q]
      exact Ev.no (fun h => q (b44.1 h)) hz
theorem ctl_spec (s : ByteArray) (hs : s.size ≤ 1048576) : Ev (fun k => spec_ControlOf.f k s) (foldC (spA [] s.data.toList) (false, false, -1, -1)) := by
  simp only [spec_ControlOf.f]
  have := ctl_spec_l s hs s.size 0 0 (false, false, -1, -1) (by omega) (by omega) (by omega)
  rw [List.drop_zero, Nat.sub_zero, List.take_zero] at this
  exact this
theorem rdO_get (l : List ByteArray) (i : Nat) (h : i < l.length) : rdOf ByteArray.empty l (i : Int) = l[i] := by
  unfold rdOf
  rw [Int.toNat_natCast, List.getD_eq_getElem?_getD, List.getElem?_eq_getElem h, Option.getD_some]
theorem ctl_impl_l (l : List (List UInt8)) (hl : l.length ≤ 4194304) (hm : ∀ x ∈ l, x.length ≤ 1048576) (d : Nat) : ∀ (i : Nat) (c : C4), i ≤ l.length → l.length - i = d → Ev (fun k => impl_ControlOf.l0 k (l.map ba) (l.length : Int) (i : Int) c.1 c.2.1 c.2.2.1 c.2.2.2) (foldC (l.drop i) c) := by
  induction d with
  | zero =>
    intro i c hi hd
    refine Ev.succ ?_
    simp only [impl_ControlOf.l0]
    rw [show l.drop i = [] from List.drop_eq_nil_of_le (by omega)]
    exact Ev.no (by omega) (Ev.now _)
  | succ d ih =>
    intro i c hi hd
    have hlt : i < l.length := by omega
    have hx := hm _ (List.getElem_mem hlt)
    have ih' := fun c' => ih (i + 1) c' (by omega) (by omega)
    refine Ev.succ ?_
    simp only [impl_ControlOf.l0]
    have hg := rdO_get (l.map ba) i (by simpa using hlt)
    rw [List.getElem_map] at hg
    rw [hg, drop_get l i hlt]
    generalize l[i] = t at hx ⊢
    have htl := trim_len t
    have e1 : strings_Trim.f (ba t) (⟨#[32]⟩ : ByteArray) = some (ba (Lib.trimB t 32)) := by
      unfold strings_Trim.f; rw [if_pos ⟨rfl, by rw [ba_size]; omega⟩, ba_toL]; rfl
    have e2 : impl_lower.f (ba (Lib.trimB t 32)) = some (ba (partP t)) := by
      unfold impl_lower.f; rw [if_pos (by rw [ba_size]; omega), low_ba]; rfl
    have hpl : (partP t).length ≤ 1048576 := by unfold partP; rw [List.length_map]; omega
    refine Ev.yes (by omega) (Ev.yes (by omega) (Ev.yes (by rw [List.length_map]; omega) (Ev.via e1 (Ev.via e2 ?_))))
    rw [ba_list]
    show Ev _ (foldC (l.drop (i + 1)) (upd (partP t) c))
    generalize partP t = p at hpl ⊢
    have hc := @ct_len [61] p
    have j2 : ∀ c' : C4, Ev (fun k => impl_ControlOf.j2 k (ba p) (l.map ba) (l.length : Int) (i : Int) c'.1 c'.2.1 c'.2.2.1 c'.2.2.2) (foldC (l.drop (i + 1)) (u3 p (u2 p c'))) := by
      intro c'
      refine Ev.succ ?_
      simp only [impl_ControlOf.j2]
      have e3 := cut_ev (ba p) (⟨#[61]⟩ : ByteArray) (by simp) (by rw [ba_size]; omega)
      rw [ba_toL] at e3
      refine Ev.via e3 (Ev.bind (figures_ba (ct [61] p).2.1 (by omega)) ?_)
      have j3 : ∀ b : Bool, b = decide ((ct [61] p).1 = nmAge ∧ (numO (ct [61] p).2.1).2 = true) → Ev (fun k => impl_ControlOf.j3 k (ba (ct [61] p).1) (numO (ct [61] p).2.1).1 (numO (ct [61] p).2.1).2 (l.map ba) (l.length : Int) (i : Int) b c'.1 c'.2.1 c'.2.2.1 c'.2.2.2) (foldC (l.drop (i + 1)) (u3 p (u2 p c'))) := by
        rintro b rfl
        refine Ev.succ ?_
        simp only [impl_ControlOf.j3, ba_list]
        rw [wnat i l.length hlt (by omega)]
        by_cases g2 : (numO (ct [61] p).2.1).2 = true
        · by_cases g1 : (ct [61] p).1 = nmAge
          · have v2 : u2 p c' = (c'.1, c'.2.1, (numO (ct [61] p).2.1).1, c'.2.2.2) := if_pos ⟨g1, g2⟩
            have g3 : ¬ (ct [61] p).1 = nmSh := by rw [g1]; decide
            have v3 : u3 p (u2 p c') = u2 p c' := if_neg (fun h => g3 h.1)
            rw [v3, v2]
            exact Ev.yes (decide_eq_true ⟨g1, g2⟩) (Ev.yes g2 (Ev.no g3 (ih' (c'.1, c'.2.1, (numO (ct [61] p).2.1).1, c'.2.2.2))))
          · have v2 : u2 p c' = c' := if_neg (fun h => g1 h.1)
            rw [v2]
            refine Ev.no (by simp [g1]) (Ev.yes g2 ?_)
            by_cases g3 : (ct [61] p).1 = nmSh
            · have v3 : u3 p c' = (c'.1, c'.2.1, c'.2.2.1, (numO (ct [61] p).2.1).1) := if_pos ⟨g3, g2⟩
              rw [v3]; exact Ev.yes g3 (ih' (c'.1, c'.2.1, c'.2.2.1, (numO (ct [61] p).2.1).1))
            · have v3 : u3 p c' = c' := if_neg (fun h => g3 h.1)
              rw [v3]; exact Ev.no g3 (ih' _)
        · have v2 : u2 p c' = c' := if_neg (fun h => g2 h.2)
          have v3 : u3 p c' = c' := if_neg (fun h => g2 h.2)
          rw [v2, v3]
          exact Ev.no (by simp [g2]) (Ev.no g2 (ih' _))
      rw [ba_list]
      by_cases g2 : (numO (ct [61] p).2.1).2 = true
      · exact Ev.yes g2 (j3 _ (by rw [Bool.eq_iff_iff]; simp [g2, nmAge]))
      · exact Ev.no g2 (j3 _ (by simp [g2]))
    have j1 : ∀ b : Bool, (b = true ↔ (p = [110, 111, 45, 115, 116, 111, 114, 101] ∨ p = [112, 114, 105, 118, 97, 116, 101])) → Ev (fun k => impl_ControlOf.j1 k (ba p) (l.map ba) (l.length : Int) (i : Int) (ba p) b c.1 c.2.1 c.2.2.1 c.2.2.2) (foldC (l.drop (i + 1)) (upd p c)) := by
      intro b hb
      refine Ev.succ ?_
      simp only [impl_ControlOf.j1, ba_list]
      unfold upd
      by_cases h : b = true
      · have v1 : u1 p c = (true, c.2.1, c.2.2.1, c.2.2.2) := if_pos (hb.1 h)
        rw [v1]; exact Ev.yes h (j2 (true, c.2.1, c.2.2.1, c.2.2.2))
      · refine Ev.no h ?_
        by_cases g : p = [110, 111, 45, 99, 97, 99, 104, 101]
        · have v1 : u1 p c = (c.1, true, c.2.2.1, c.2.2.2) := by unfold u1; rw [if_neg (fun q => h (hb.2 q)), if_pos g]
          rw [v1]; exact Ev.yes g (j2 (c.1, true, c.2.2.1, c.2.2.2))
        · have v1 : u1 p c = c := by unfold u1; rw [if_neg (fun q => h (hb.2 q)), if_neg g]
          rw [v1]; exact Ev.no g (j2 c)
    by_cases c1 : p = [110, 111, 45, 115, 116, 111, 114, 101]
    · exact Ev.yes c1 (j1 _ (by simp [c1]))
    · exact Ev.no c1 (j1 _ (by simp [c1]))
theorem ctl_impl (s : ByteArray) (hs : s.size ≤ 1048576) : Ev (fun k => impl_ControlOf.f k s) (foldC (spA [] s.data.toList) (false, false, -1, -1)) := by
  simp only [impl_ControlOf.f]
  refine Ev.via (split_ev s hs) ?_
  have hl := spA_len s.data.toList []
  have hL := sizeL s
  have := ctl_impl_l (spA [] s.data.toList) (by omega) (fun x hx => by have := spA_mem _ _ _ hx; simp at this; omega) _ 0 (false, false, -1, -1) (by omega) rfl
  rw [List.drop_zero] at this
  rw [List.length_map]
  exact this
end Go.Proofs.YthjigecaojaalaaDoor.Q
namespace Go.Proofs.YthjigecaojaalaaDoor.Q
open Go.RowKit Go.Proofs.YthjigecaojaalaaDoorW.PrintWords Go.Proofs.YthjigecaojaalaaDoorW.PrintLast Go.Proofs.YthjigecaojaalaaDoorW.PrintMore
def dd (n : Nat) : List UInt8 := if n = 0 then [] else Lib.decDigits n
theorem dd_pos {n : Nat} (h : n ≠ 0) : dd n = dd (n / 10) ++ [UInt8.ofNat (48 + n % 10)] := by
  unfold dd
  rw [if_neg h]
  by_cases c : n < 10
  · rw [if_pos (by omega), Lib.decDigits_one c, List.nil_append, Nat.mod_eq_of_lt c]
  · rw [if_neg (by omega), Lib.decDigits, dif_neg c]
theorem dd_len (n : Nat) : (dd n).length ≤ n := by
  induction n using Nat.strongRecOn with
  | _ n ih =>
    by_cases h : n = 0
    · subst h; simp [dd]
    · rw [dd_pos h, List.length_append, List.length_singleton]
      have := ih (n / 10) (by omega)
      omega
theorem dd_app (x : List UInt8) (c : UInt8) (acc : ByteArray) : (⟨(x ++ [c]).toArray⟩ : ByteArray) ++ acc = (⟨x.toArray⟩ : ByteArray) ++ ((⟨#[c]⟩ : ByteArray) ++ acc) := by
  apply ba_ext
  simp
theorem figure_eq (d : Int) (h0 : 0 ≤ d) (h1 : d < 10) : spec_l01Figure.f d = some (48 + d) := by
  unfold spec_l01Figure.f
  rw [if_pos h1, w64 (by omega) (by omega), Int.emod_eq_of_lt (by omega) (by omega)]
theorem dec_spec_l (n : Nat) : ∀ (acc : ByteArray), n ≤ 4611686018427387904 → acc.size + n ≤ 4611686018427387904 → Ev (fun k => spec_Decimal.l0 k (n : Int) false acc) ((⟨(dd n).toArray⟩ : ByteArray) ++ acc) := by
  induction n using Nat.strongRecOn with
  | _ n ih =>
    intro acc hn hs
    refine Ev.succ ?_
    simp only [spec_Decimal.l0]
    by_cases h : n = 0
    · subst h
      rw [show (⟨(dd 0).toArray⟩ : ByteArray) ++ acc = acc from by apply ba_ext; simp [dd]]
      exact Ev.yes rfl (Ev.no (by simp) (Ev.now _))
    · have hm : Int.tmod (n : Int) 10 = ((n % 10 : Nat) : Int) := by rw [Int.tmod_eq_emod_of_nonneg (by omega)]; rfl
      have hd : Int.tdiv (n : Int) 10 = ((n / 10 : Nat) : Int) := by rw [Int.tdiv_eq_ediv_of_nonneg (by omega)]; rfl
      rw [hm, hd, w64 (n := ((n / 10 : Nat) : Int)) (by omega) (by omega)]
      refine Ev.no (by omega) (Ev.no (by omega) (Ev.via (figure_eq _ (by omega) (by omega)) ?_))
      simp only [Option.bind_some]
      have e1 : strOfNums [48 + ((n % 10 : Nat) : Int)] = (⟨#[UInt8.ofNat (48 + n % 10)]⟩ : ByteArray) := by
        unfold strOfNums
        have : (48 + ((n % 10 : Nat) : Int)).toNat = 48 + n % 10 := by omega
        simp only [List.map_cons, List.map_nil, this]
      rw [e1, dd_pos h, dd_app]
      refine Ev.yes (by show 1 + acc.size ≤ _; omega) (ih (n / 10) (by omega) _ (by omega) (by rw [ByteArray.size_append]; show 1 + acc.size + n / 10 ≤ _; omega))
def decB (n : Nat) : ByteArray := ⟨(Lib.decDigits n).toArray⟩
theorem decB_size (n : Nat) : (decB n).size ≤ n + 1 := by
  unfold decB
  show (Lib.decDigits n).toArray.size ≤ n + 1
  rw [List.size_toArray]
  by_cases h : n = 0
  · subst h; rw [Lib.decDigits_one (by omega)]; simp
  · have := dd_len n
    unfold dd at this
    rw [if_neg h] at this
    omega
theorem dec_spec (n : Nat) (hn : n ≤ 4611686018427387904) : Ev (fun k => spec_Decimal.f k (n : Int)) (decB n) := by
  simp only [spec_Decimal.f]
  by_cases h : n = 0
  · subst h
    rw [show decB 0 = (⟨#[48]⟩ : ByteArray) from by unfold decB; rw [Lib.decDigits_one (by omega)]; rfl]
    exact Ev.yes rfl (Ev.now _)
  · refine Ev.no (by omega) ?_
    rw [decide_eq_false (show ¬ ((n : Int) < 0) by omega)]
    have := dec_spec_l n ⟨#[]⟩ hn (by show 0 + n ≤ _; omega)
    rw [show (⟨(dd n).toArray⟩ : ByteArray) ++ (⟨#[]⟩ : ByteArray) = decB n from by apply ba_ext; unfold decB dd; rw [if_neg h]; simp] at this
    exact this
theorem dec_impl (n : Nat) (hn : n ≤ 4611686018427387904) : impl_Decimal.f (n : Int) = some (decB n) := by
  unfold impl_Decimal.f strconv_Itoa.f
  rw [if_pos (by omega)]
  unfold Lib.itoa decB
  rw [if_neg (by omega), Int.toNat_natCast]
  rfl
end Go.Proofs.YthjigecaojaalaaDoor.Q
namespace Go.Proofs.YthjigecaojaalaaDoor.Q
open Go.RowKit Go.Proofs.YthjigecaojaalaaDoorW.PrintWords Go.Proofs.YthjigecaojaalaaDoorW.PrintLast Go.Proofs.YthjigecaojaalaaDoorW.PrintMore
def jt : List ByteArray → ByteArray
  | [] => ⟨#[]⟩
  | x :: r => (⟨#[44, 32]⟩ : ByteArray) ++ x ++ jt r
def jn : List ByteArray → ByteArray
  | [] => ⟨#[]⟩
  | x :: r => x ++ jt r
theorem bnil_app (s : ByteArray) : (⟨#[]⟩ : ByteArray) ++ s = s := ByteArray.empty_append
theorem app_bnil (s : ByteArray) : s ++ (⟨#[]⟩ : ByteArray) = s := ByteArray.append_empty
theorem jt_size (l : List ByteArray) (h : ∀ x ∈ l, x.size ≤ 2000000) : (jt l).size ≤ 2000002 * l.length := by
  induction l with
  | nil => exact Nat.zero_le _
  | cons x r ih =>
    have h1 := h x (by simp)
    have h2 := ih (fun y hy => h y (by simp [hy]))
    rw [jt, ByteArray.size_append, ByteArray.size_append, List.length_cons]
    have : (⟨#[44, 32]⟩ : ByteArray).size = 2 := rfl
    omega
theorem jn_size (l : List ByteArray) (h : ∀ x ∈ l, x.size ≤ 2000000) : (jn l).size ≤ 2000002 * l.length := by
  cases l with
  | nil => exact Nat.zero_le _
  | cons x r =>
    have h1 := h x (by simp)
    have h2 := jt_size r (fun y hy => h y (by simp [hy]))
    rw [jn, ByteArray.size_append, List.length_cons]; omega
theorem jt_join (r : List ByteArray) : (jt r).data.toList = Lib.joinTail [44, 32] (r.map (·.data.toList)) := by
  induction r with
  | nil => rfl
  | cons x r ih => unfold Lib.joinTail at *; rw [jt]; simp [ih]
theorem jn_join (l : List ByteArray) : Lib.join (l.map (·.data.toList)) [44, 32] = (jn l).data.toList := by
  cases l with
  | nil => rfl
  | cons x r => rw [List.map_cons, Lib.join_cons, jn, ← jt_join]; simp
theorem join_ev (l : List ByteArray) (hl : l.length ≤ 8) (h : ∀ x ∈ l, x.size ≤ 2000000) : strings_Join.f l (⟨#[44, 32]⟩ : ByteArray) = some (jn l) := by
  have hs := jn_size l h
  unfold strings_Join.f
  rw [show (⟨#[44, 32]⟩ : ByteArray).data.toList = [44, 32] from rfl, jn_join, if_pos ⟨by omega, by rw [sizeL]; omega⟩]
theorem rdO_get2 (l : List ByteArray) (i : Nat) (h : i < l.length) : rdOf ByteArray.empty l (i : Int) = l[i] := by
  unfold rdOf
  rw [Int.toNat_natCast, List.getD_eq_getElem?_getD, List.getElem?_eq_getElem h, Option.getD_some]
theorem stext_l (l : List ByteArray) (hl : l.length ≤ 8) (h : ∀ x ∈ l, x.size ≤ 2000000) (d : Nat) : ∀ (i : Nat) (acc : ByteArray), 0 < i → i ≤ l.length → l.length - i = d → acc.size ≤ 3000000 * i → Ev (fun k => spec_ControlText.l0 k l acc (i : Int)) (acc ++ jt (l.drop i)) := by
  induction d with
  | zero =>
    intro i acc h0 hi hd hs
    refine Ev.succ ?_
    simp only [spec_ControlText.l0]
    rw [show l.drop i = [] from List.drop_eq_nil_of_le (by omega), jt, app_bnil]
    exact Ev.no (by omega) (Ev.now _)
  | succ d ih =>
    intro i acc h0 hi hd hs
    have hlt : i < l.length := by omega
    have hx := h _ (List.getElem_mem hlt)
    refine Ev.succ ?_
    simp only [spec_ControlText.l0]
    rw [rdO_get2 l i hlt, wnat i l.length hlt (by omega), drop_get l i hlt, jt]
    have z2 : (⟨#[44, 32]⟩ : ByteArray).size = 2 := rfl
    have := ih (i + 1) ((acc ++ (⟨#[44, 32]⟩ : ByteArray)) ++ l[i]) (by omega) (by omega) (by omega) (by rw [ByteArray.size_append, ByteArray.size_append]; omega)
    rw [ByteArray.append_assoc (a := acc), ByteArray.append_assoc (a := acc)] at this
    exact Ev.yes (by omega) (Ev.yes (by omega) (Ev.yes (by omega) (Ev.yes (by omega) (Ev.yes (by rw [ByteArray.size_append]; omega) (by rw [ByteArray.append_assoc (a := acc)]; exact this)))))
theorem stext (l : List ByteArray) (hl : l.length ≤ 8) (h : ∀ x ∈ l, x.size ≤ 2000000) : Ev (fun k => spec_ControlText.j3 k l) (jn l) := by
  refine Ev.succ ?_
  simp only [spec_ControlText.j3]
  refine Ev.succ ?_
  simp only [spec_ControlText.l0]
  cases l with
  | nil => exact Ev.no (by simp) (Ev.now _)
  | cons x r =>
    have hx := h x (by simp)
    have e := rdO_get2 (x :: r) 0 (by simp)
    rw [show ((0 : Nat) : Int) = 0 from rfl] at e
    have := stext_l (x :: r) hl h r.length 1 x (by omega) (by simp) (by simp) (by omega)
    rw [List.drop_succ_cons, List.drop_zero, show ((1 : Nat) : Int) = 1 from rfl] at this
    rw [e, bnil_app]
    have z0 : (⟨#[]⟩ : ByteArray).size = 0 := rfl
    have w1 : wrap64 (0 + 1) = 1 := by rw [w64 (by omega) (by omega)]; rfl
    rw [w1]
    exact Ev.yes (by simp only [List.length_cons]; omega) (Ev.no (by omega) (Ev.yes (by omega) (Ev.yes (by show 0 + x.size ≤ _; omega) this)))
def t0 (b : Bool) : List ByteArray := if b = true then [(⟨#[110, 111, 45, 115, 116, 111, 114, 101]⟩ : ByteArray)] else []
def t1 (b : Bool) : List ByteArray := if b = true then [(⟨#[110, 111, 45, 99, 97, 99, 104, 101]⟩ : ByteArray)] else []
def t2 (n : Int) : List ByteArray := if 0 ≤ n ∧ n ≤ 999999 then [(⟨#[109, 97, 120, 45, 97, 103, 101, 61]⟩ : ByteArray) ++ decB n.toNat] else []
def t3 (n : Int) : List ByteArray := if 0 ≤ n ∧ n ≤ 999999 then [(⟨#[115, 45, 109, 97, 120, 97, 103, 101, 61]⟩ : ByteArray) ++ decB n.toNat] else []
def ctlL (a b : Bool) (m n : Int) : List ByteArray := t0 a ++ (t1 b ++ (t2 m ++ t3 n))
def sm (m : Nat) (x : List ByteArray) : Prop := x.length ≤ m ∧ ∀ y ∈ x, y.size ≤ 2000000
theorem sm_app {m n : Nat} {x y : List ByteArray} (h : sm m x) (k : sm n y) : sm (m + n) (x ++ y) := ⟨by rw [List.length_append]; have := h.1; have := k.1; omega, fun z hz => by rcases List.mem_append.1 hz with q | q; exact h.2 z q; exact k.2 z q⟩
theorem sm_one {x : ByteArray} (h : x.size ≤ 2000000) : sm 1 [x] := ⟨by simp, fun y hy => by rw [List.mem_singleton.1 hy]; exact h⟩
theorem sm_nil (m : Nat) : sm m [] := ⟨Nat.zero_le _, fun y hy => absurd hy (by simp)⟩
theorem dec_nat (n : Int) (h : 0 ≤ n ∧ n ≤ 999999) : ∃ m : Nat, n = (m : Int) ∧ n.toNat = m ∧ (decB m).size ≤ 1000000 := ⟨n.toNat, by omega, rfl, by have := decB_size n.toNat; omega⟩
theorem ct_impl_2 (x : List ByteArray) (a b : Bool) (m n : Int) (hx : sm 3 x) : Ev (fun k => impl_ControlText.j2 k x a b m n) (jn (x ++ t3 n)) := by
  refine Ev.succ ?_
  simp only [impl_ControlText.j2]
  refine Ev.via (in_impl _ _ _) ?_
  have hl := hx.1
  unfold t3
  by_cases c : 0 ≤ n ∧ n ≤ 999999
  · rw [if_pos c]
    obtain ⟨q, rfl, e, hq⟩ := dec_nat n c
    rw [e]
    have k9 : (⟨#[115, 45, 109, 97, 120, 97, 103, 101, 61]⟩ : ByteArray).size = 9 := rfl
    have hs := sm_app hx (sm_one (x := (⟨#[115, 45, 109, 97, 120, 97, 103, 101, 61]⟩ : ByteArray) ++ decB q) (by rw [ByteArray.size_append]; omega))
    exact Ev.yes (decide_eq_true c) (Ev.via (dec_impl q (by omega)) (Ev.yes (by omega) (Ev.yes (by omega) (Ev.via (join_ev _ (by have := hs.1; omega) hs.2) (Ev.now _)))))
  · rw [if_neg c, List.append_nil]
    exact Ev.no (by rw [decide_eq_false c]; simp) (Ev.via (join_ev _ (by omega) hx.2) (Ev.now _))
theorem ct_impl_1 (x : List ByteArray) (a b : Bool) (m n : Int) (hx : sm 2 x) : Ev (fun k => impl_ControlText.j1 k x a b m n) (jn (x ++ (t2 m ++ t3 n))) := by
  refine Ev.succ ?_
  simp only [impl_ControlText.j1]
  refine Ev.via (in_impl _ _ _) ?_
  have hl := hx.1
  rw [← List.append_assoc]
  unfold t2
  by_cases c : 0 ≤ m ∧ m ≤ 999999
  · rw [if_pos c]
    obtain ⟨q, rfl, e, hq⟩ := dec_nat m c
    rw [e]
    have k8 : (⟨#[109, 97, 120, 45, 97, 103, 101, 61]⟩ : ByteArray).size = 8 := rfl
    have hs := sm_app hx (sm_one (x := (⟨#[109, 97, 120, 45, 97, 103, 101, 61]⟩ : ByteArray) ++ decB q) (by rw [ByteArray.size_append]; omega))
    exact Ev.yes (decide_eq_true c) (Ev.via (dec_impl q (by omega)) (Ev.yes (by omega) (Ev.yes (by omega) (ct_impl_2 _ a b _ n hs))))
  · rw [if_neg c, List.append_nil]
    exact Ev.no (by rw [decide_eq_false c]; simp) (ct_impl_2 _ a b _ n ⟨by omega, hx.2⟩)
theorem ct_impl_0 (x : List ByteArray) (a b : Bool) (m n : Int) (hx : sm 1 x) : Ev (fun k => impl_ControlText.j0 k x a b m n) (jn (x ++ (t1 b ++ (t2 m ++ t3 n)))) := by
  refine Ev.succ ?_
  simp only [impl_ControlText.j0]
  have hl := hx.1
  rw [← List.append_assoc]
  unfold t1
  by_cases c : b = true
  · rw [if_pos c]
    exact Ev.yes c (Ev.yes (by omega) (ct_impl_1 _ a b m n (sm_app hx (sm_one (by decide)))))
  · rw [if_neg c, List.append_nil]
    exact Ev.no c (ct_impl_1 _ a b m n ⟨by omega, hx.2⟩)
theorem ct_impl (a b : Bool) (m n : Int) : Ev (fun k => impl_ControlText.f k a b m n) (jn (ctlL a b m n)) := by
  simp only [impl_ControlText.f, Option.bind_some, List.nil_append]
  unfold ctlL t0
  by_cases c : a = true
  · rw [if_pos c]
    exact Ev.yes c (Ev.yes (by simp) (ct_impl_0 _ a b m n (sm_one (by decide))))
  · rw [if_neg c, List.nil_append]
    have := ct_impl_0 [] a b m n (sm_nil 1)
    rw [List.nil_append] at this
    exact Ev.no c this
theorem ct_spec_2 (x : List ByteArray) (a b : Bool) (m n : Int) (hx : sm 3 x) : Ev (fun k => spec_ControlText.j2 k x a b m n) (jn (x ++ t3 n)) := by
  refine Ev.succ ?_
  simp only [spec_ControlText.j2]
  refine Ev.via (in_spec _ _ _) ?_
  have hl := hx.1
  unfold t3
  by_cases c : 0 ≤ n ∧ n ≤ 999999
  · rw [if_pos c]
    obtain ⟨q, rfl, e, hq⟩ := dec_nat n c
    rw [e]
    have k9 : (⟨#[115, 45, 109, 97, 120, 97, 103, 101, 61]⟩ : ByteArray).size = 9 := rfl
    have hs := sm_app hx (sm_one (x := (⟨#[115, 45, 109, 97, 120, 97, 103, 101, 61]⟩ : ByteArray) ++ decB q) (by rw [ByteArray.size_append]; omega))
    exact Ev.yes (decide_eq_true c) (Ev.bind (dec_spec q (by omega)) (Ev.yes (by omega) (Ev.yes (by omega) (stext _ (by have := hs.1; omega) hs.2))))
  · rw [if_neg c, List.append_nil]
    exact Ev.no (by rw [decide_eq_false c]; simp) (stext _ (by omega) hx.2)
theorem ct_spec_1 (x : List ByteArray) (a b : Bool) (m n : Int) (hx : sm 2 x) : Ev (fun k => spec_ControlText.j1 k x a b m n) (jn (x ++ (t2 m ++ t3 n))) := by
  refine Ev.succ ?_
  simp only [spec_ControlText.j1]
  refine Ev.via (in_spec _ _ _) ?_
  have hl := hx.1
  rw [← List.append_assoc]
  unfold t2
  by_cases c : 0 ≤ m ∧ m ≤ 999999
  · rw [if_pos c]
    obtain ⟨q, rfl, e, hq⟩ := dec_nat m c
    rw [e]
    have k8 : (⟨#[109, 97, 120, 45, 97, 103, 101, 61]⟩ : ByteArray).size = 8 := rfl
    have hs := sm_app hx (sm_one (x := (⟨#[109, 97, 120, 45, 97, 103, 101, 61]⟩ : ByteArray) ++ decB q) (by rw [ByteArray.size_append]; omega))
    exact Ev.yes (decide_eq_true c) (Ev.bind (dec_spec q (by omega)) (Ev.yes (by omega) (Ev.yes (by omega) (ct_spec_2 _ a b _ n hs))))
  · rw [if_neg c, List.append_nil]
    exact Ev.no (by rw [decide_eq_false c]; simp) (ct_spec_2 _ a b _ n ⟨by omega, hx.2⟩)
theorem ct_spec_0 (x : List ByteArray) (a b : Bool) (m n : Int) (hx : sm 1 x) : Ev (fun k => spec_ControlText.j0 k x a b m n) (jn (x ++ (t1 b ++ (t2 m ++ t3 n)))) := by
  refine Ev.succ ?_
  simp only [spec_ControlText.j0]
  have hl := hx.1
  rw [← List.append_assoc]
  unfold t1
  by_cases c : b = true
  · rw [if_pos c]
    exact Ev.yes c (Ev.yes (by omega) (ct_spec_1 _ a b m n (sm_app hx (sm_one (by decide)))))
  · rw [if_neg c, List.append_nil]
    exact Ev.no c (ct_spec_1 _ a b m n ⟨by omega, hx.2⟩)
theorem ct_spec (a b : Bool) (m n : Int) : Ev (fun k => spec_ControlText.f k a b m n) (jn (ctlL a b m n)) := by
  simp only [spec_ControlText.f, Option.bind_some, List.nil_append]
  unfold ctlL t0
  by_cases c : a = true
  · rw [if_pos c]
    exact Ev.yes c (Ev.yes (by simp) (ct_spec_0 _ a b m n (sm_one (by decide))))
  · rw [if_neg c, List.nil_append]
    have := ct_spec_0 [] a b m n (sm_nil 1)
    rw [List.nil_append] at this
    exact Ev.no c this
end Go.Proofs.YthjigecaojaalaaDoor.Q
namespace Go.Proofs.YthjigecaojaalaaDoor.Q
open Go.RowKit Go.Proofs.YthjigecaojaalaaDoorW.PrintWords Go.Proofs.YthjigecaojaalaaDoorW.PrintLast Go.Proofs.YthjigecaojaalaaDoorW.PrintMore
theorem decD_digits (n : Nat) : ∀ b ∈ dd n, 48 ≤ b.toNat ∧ b.toNat ≤ 57 := by
  induction n using Nat.strongRecOn with
  | _ n ih =>
    by_cases h : n = 0
    · subst h; simp [dd]
    · rw [dd_pos h]
      intro b hb
      rcases List.mem_append.1 hb with hb | hb
      · exact ih (n / 10) (by omega) b hb
      · rw [List.mem_singleton.1 hb, UInt8.toNat_ofNat']
        omega
theorem decD_len (k : Nat) : ∀ n, n < 10 ^ k → (dd n).length ≤ k := by
  induction k with
  | zero => intro n h; simp at h; subst h; simp [dd]
  | succ k ih =>
    intro n h
    by_cases c : n = 0
    · subst c; simp [dd]
    · rw [dd_pos c, List.length_append, List.length_singleton]
      have := ih (n / 10) (by rw [Nat.pow_succ] at h; omega)
      omega
theorem decB_dd {n : Nat} (h : n ≠ 0) : (decB n).data.toList = dd n := by unfold decB dd; rw [if_neg h]
theorem decB_zero : (decB 0).data.toList = [48] := by unfold decB; rw [Lib.decDigits_one (by omega)]; rfl
end Go.Proofs.YthjigecaojaalaaDoor.Q
namespace Go.Proofs.YthjigecaojaalaaDoor.Q
open Go.RowKit Go.Proofs.YthjigecaojaalaaDoorW.PrintWords Go.Proofs.YthjigecaojaalaaDoorW.PrintLast Go.Proofs.YthjigecaojaalaaDoorW.PrintMore
theorem and255v (a : Int) : Go.bits .and .i64 a 255 = a % 256 := by
  unfold Go.bits
  simp only [IntKind.wrap_i64]
  have e1 : (BitVec.ofInt IntKind.i64.bits a).toNat = (a % 18446744073709551616).toNat := by rw [BitVec.toNat_ofInt]; rfl
  have e2 : (BitVec.ofInt IntKind.i64.bits 255).toNat = 2 ^ 8 - 1 := by decide
  rw [BitVec.toNat_and, e1, e2, Nat.and_two_pow_sub_one_eq_mod]
  omega
/-- A place in the code that is drawn from. -/
def cu (l : List Int) (i : Int) : Prop := (0 ≤ i ∧ i ≤ l.length) ∧ l.length ≤ 4611686018427387904
theorem byte_ok (l : List Int) (i h : Int) (hc : cu l i) : ∃ x i' h', spec_l01Byte.f l i h = some (x, i', h') ∧ 0 ≤ x ∧ x ≤ 255 ∧ cu l i' := by
  obtain ⟨⟨h0, h1⟩, hl⟩ := hc
  unfold spec_l01Byte.f
  by_cases c : i < (l.length : Int)
  · rw [if_pos c, if_pos h0, w64 (n := i + 1) (by omega) (by omega), and255v]
    exact ⟨_, _, _, rfl, by omega, by omega, ⟨by omega, by omega⟩, hl⟩
  · rw [if_neg c, and255v]
    exact ⟨_, _, _, rfl, by omega, by omega, ⟨by omega, by omega⟩, hl⟩
theorem below_ok (l : List Int) (i h n : Int) (hn : 1 ≤ n) (hc : cu l i) : ∃ x i' h', spec_l01Below.f l i h n = some (x, i', h') ∧ 0 ≤ x ∧ x < n ∧ cu l i' := by
  unfold spec_l01Below.f
  obtain ⟨x1, i1, g1, e1, a1, b1, c1⟩ := byte_ok l i h hc
  rw [if_neg (by omega), e1]
  simp only [Option.bind_some]
  by_cases c : n ≤ 256
  · rw [if_pos c, if_neg (by omega), Int.tmod_eq_emod_of_nonneg a1]
    exact ⟨_, _, _, rfl, Int.emod_nonneg _ (by omega), Int.emod_lt_of_pos _ (by omega), c1⟩
  · obtain ⟨x2, i2, g2, e2, a2, b2, c2⟩ := byte_ok l i1 g1 c1
    obtain ⟨x3, i3, g3, e3, a3, b3, c3⟩ := byte_ok l i2 g2 c2
    obtain ⟨x4, i4, g4, e4, a4, b4, c4⟩ := byte_ok l i3 g3 c3
    rw [if_neg c, e2]
    simp only [Option.bind_some]
    rw [e3]
    simp only [Option.bind_some]
    rw [e4]
    simp only [Option.bind_some]
    rw [w64 (n := x1 * 16777216) (by omega) (by omega), w64 (n := x2 * 65536) (by omega) (by omega), w64 (n := x3 * 256) (by omega) (by omega), w64 (n := x1 * 16777216 + x2 * 65536) (by omega) (by omega), w64 (n := x1 * 16777216 + x2 * 65536 + x3 * 256) (by omega) (by omega),
      w64 (n := x1 * 16777216 + x2 * 65536 + x3 * 256 + x4) (by omega) (by omega), if_neg (by omega), Int.tmod_eq_emod_of_nonneg (by omega)]
    exact ⟨_, _, _, rfl, Int.emod_nonneg _ (by omega), Int.emod_lt_of_pos _ (by omega), c4⟩
theorem belowP (l : List Int) (i h n : Int) (hn : 1 ≤ n) (hc : cu l i) : EvP (fun _ => spec_l01Below.f l i h n) (fun r => (0 ≤ r.1 ∧ r.1 < n) ∧ cu l r.2.1) := by
  obtain ⟨x, i', h', e, a, b, c⟩ := below_ok l i h n hn hc
  exact EvP.const e ⟨⟨a, b⟩, c⟩
theorem cu_zero {l : List Int} (hl : l.length ≤ 4611686018427387904) : cu l 0 := ⟨⟨by omega, by omega⟩, hl⟩
theorem newP_l (l : List Int) (hl : l.length ≤ 4611686018427387904) (d : Nat) : ∀ (h : Int) (i : Nat), i ≤ l.length → l.length - i = d → EvP (fun k => spec_l01New.l0 k l h (i : Int)) (fun r => r.1 = l ∧ cu l r.2.1) := by
  induction d with
  | zero => intro h i hi hd; refine EvP.succ ?_; simp only [spec_l01New.l0]; exact EvP.no (by omega) (EvP.ret ⟨rfl, cu_zero hl⟩)
  | succ d ih =>
    intro h i hi hd
    have hlt : i < l.length := by omega
    refine EvP.succ ?_
    simp only [spec_l01New.l0]
    refine EvP.yes (by omega) (EvP.ite (fun c => EvP.yes (by omega) ?_) (fun c => EvP.ret ⟨rfl, cu_zero hl⟩))
    rw [wnat i _ hlt (by omega)]
    exact ih _ (i + 1) (by omega) (by omega)
theorem newP (l : List Int) (hl : l.length ≤ 4611686018427387904) : EvP (fun k => spec_l01New.f k l) (fun r => r.1 = l ∧ cu l r.2.1) := newP_l l hl l.length _ 0 (by omega) (by omega)
end Go.Proofs.YthjigecaojaalaaDoor.Q
namespace Go.Proofs.YthjigecaojaalaaDoor.Q
open Go.RowKit Go.Proofs.YthjigecaojaalaaDoorW.PrintWords Go.Proofs.YthjigecaojaalaaDoorW.PrintLast Go.Proofs.YthjigecaojaalaaDoorW.PrintMore
theorem numL_app (l : List UInt8) (b : UInt8) : ∀ acc : Int, numL acc (l ++ [b]) = 10 * numL acc l + ((b.toNat : Int) - 48) := by
  induction l with
  | nil => intro acc; rfl
  | cons a l ih => intro acc; rw [List.cons_append, numL, numL, ih]
theorem numL_dd (n : Nat) : numL 0 (dd n) = (n : Int) := by
  induction n using Nat.strongRecOn with
  | _ n ih =>
    by_cases h : n = 0
    · subst h; simp [dd, numL]
    · rw [dd_pos h, numL_app, ih (n / 10) (by omega), UInt8.toNat_ofNat']
      omega
theorem numL_dec (n : Nat) : numL 0 (decB n).data.toList = (n : Int) := by
  by_cases c : n = 0
  · subst c; rw [decB_zero]; rfl
  · rw [decB_dd c]; exact numL_dd n
theorem dec_digits (n : Nat) : ∀ b ∈ (decB n).data.toList, 48 ≤ b.toNat ∧ b.toNat ≤ 57 := by
  by_cases c : n = 0
  · subst c; rw [decB_zero]; simp
  · rw [decB_dd c]; exact decD_digits n
theorem dec_len (k n : Nat) (hk : 1 ≤ k) (h : n < 10 ^ k) : (decB n).data.toList.length ≤ k ∧ 1 ≤ (decB n).data.toList.length := by
  by_cases c : n = 0
  · subst c; rw [decB_zero]; exact ⟨hk, Nat.le_refl _⟩
  · rw [decB_dd c]
    refine ⟨decD_len k n h, ?_⟩
    rw [dd_pos c, List.length_append, List.length_singleton]; omega
theorem dec_inB (n : Nat) : inB 48 57 (decB n).data.toList = true := by
  unfold inB
  rw [List.all_eq_true]
  intro b hb
  have := dec_digits n b hb
  exact decide_eq_true ⟨by omega, by omega⟩
theorem numO_dec (n : Nat) (h : n ≤ 999999) : numO (decB n).data.toList = ((n : Int), true) := by
  obtain ⟨h1, h2⟩ := dec_len 6 n (by omega) (by omega)
  unfold numO
  rw [if_pos ⟨h2, h1, dec_inB n⟩, numL_dec]
/-- No blank, no comma, no great letter. -/
def okL (l : List UInt8) : Bool := l.all fun b => !(b == 32) && (!(b == 44) && !(decide (65 ≤ b.toNat ∧ b.toNat ≤ 90)))
theorem okL_mem {l : List UInt8} (h : okL l = true) {b : UInt8} (hb : b ∈ l) : b ≠ 32 ∧ b ≠ 44 ∧ impl_lower.one b = b := by
  unfold okL at h
  have := List.all_eq_true.1 h b hb
  simp only [Bool.and_eq_true, Bool.not_eq_true', beq_eq_false_iff_ne, decide_eq_false_iff_not] at this
  exact ⟨this.1, this.2.1, by unfold impl_lower.one; rw [if_neg this.2.2]⟩
theorem okL_app (x y : List UInt8) : okL (x ++ y) = (okL x && okL y) := by simp [okL, List.all_append]
theorem okL_dec (n : Nat) : okL (decB n).data.toList = true := by
  unfold okL
  rw [List.all_eq_true]
  intro b hb
  have := dec_digits n b hb
  simp only [Bool.and_eq_true, Bool.not_eq_true', beq_eq_false_iff_ne, decide_eq_false_iff_not]
  exact ⟨fun e => by rw [e] at this; exact absurd this (by decide), fun e => by rw [e] at this; exact absurd this (by decide), by omega⟩
theorem trim_all {l : List UInt8} (h : ∀ b ∈ l, b ≠ 32) : Lib.trimB l 32 = l := by
  have d : ∀ m : List UInt8, (∀ b ∈ m, b ≠ 32) → m.dropWhile (· == (32 : UInt8)) = m := fun m hm => by
    cases m with
    | nil => rfl
    | cons a m => rw [List.dropWhile_cons_of_neg (p := fun x => x == (32 : UInt8)) (fun e => hm a (by simp) (beq_iff_eq.1 e))]
  unfold Lib.trimB Lib.trimLeftB Lib.trimRightB
  rw [d l.reverse (fun b hb => h b (List.mem_reverse.1 hb)), List.reverse_reverse, d l h]
theorem trim_blank (l : List UInt8) : Lib.trimB (32 :: l) 32 = Lib.trimB l 32 := by
  rw [← trim_swap, ← trim_swap]
  have : Lib.trimLeftB (32 :: l) 32 = Lib.trimLeftB l 32 := by unfold Lib.trimLeftB; rw [List.dropWhile_cons_of_pos (by simp)]
  rw [this]
theorem part_id {l : List UInt8} (h : okL l = true) : partP l = l := by
  unfold partP
  rw [trim_all fun b hb => (okL_mem h hb).1]
  conv => rhs; rw [← List.map_id l]
  exact List.map_congr_left fun b hb => (okL_mem h hb).2.2
theorem part_blank {l : List UInt8} (h : okL l = true) : partP (32 :: l) = l := by
  unfold partP
  rw [trim_blank]
  exact part_id h
theorem spA_free {t : List UInt8} (h : ∀ b ∈ t, b ≠ 44) : ∀ u, spA u t = [u ++ t] := by
  induction t with
  | nil => intro u; simp [spA]
  | cons b t ih => intro u; rw [spA, if_neg (h b (by simp)), ih (fun c hc => h c (by simp [hc]))]; simp
theorem spA_comma {x : List UInt8} (h : ∀ b ∈ x, b ≠ 44) (t : List UInt8) : ∀ u, spA u (x ++ 44 :: t) = (u ++ x) :: spA [] t := by
  induction x with
  | nil => intro u; simp [spA]
  | cons b x ih => intro u; rw [List.cons_append, spA, if_neg (h b (by simp)), ih (fun c hc => h c (by simp [hc]))]; simp
def updB (c : C4) (x : ByteArray) : C4 := upd x.data.toList c
def okB (x : ByteArray) : Prop := okL x.data.toList = true
theorem fold_tail (r : List ByteArray) (h : ∀ x ∈ r, okB x) : ∀ (x : ByteArray) (u : List UInt8) (c : C4), okB x → (u = [] ∨ u = [32]) → foldC (spA u (x.data.toList ++ (jt r).data.toList)) c = r.foldl updB (updB c x) := by
  have hp : ∀ (x : ByteArray) (u : List UInt8) (c : C4), okB x → (u = [] ∨ u = [32]) → upd (partP (u ++ x.data.toList)) c = updB c x := fun x u c hx hu => by
    rcases hu with rfl | rfl
    · rw [List.nil_append, part_id hx]; rfl
    · rw [List.singleton_append, part_blank hx]; rfl
  induction r with
  | nil =>
    intro x u c hx hu
    have e : x.data.toList ++ (jt []).data.toList = x.data.toList := by simp [jt]
    rw [e, spA_free fun b hb => (okL_mem hx hb).2.1]
    exact hp x u c hx hu
  | cons y r ih =>
    intro x u c hx hu
    have e : x.data.toList ++ (jt (y :: r)).data.toList = x.data.toList ++ 44 :: (32 :: (y.data.toList ++ (jt r).data.toList)) := by simp [jt]
    rw [e, spA_comma fun b hb => (okL_mem hx hb).2.1, spA, if_neg (by decide), List.nil_append]
    have := ih (fun z hz => h z (by simp [hz])) y [32] (updB c x) (h y (by simp)) (.inr rfl)
    unfold foldC at this ⊢
    rw [List.foldl_cons, hp x u c hx hu, this]
    rfl
theorem upd_nil (c : C4) : upd (partP []) c = c := by
  have e : partP [] = [] := rfl
  rw [e]
  unfold upd u3 u2 u1
  simp [ct, nmAge, nmSh]
theorem fold_jn (l : List ByteArray) (h : ∀ x ∈ l, okB x) (c : C4) : foldC (spA [] (jn l).data.toList) c = l.foldl updB c := by
  cases l with
  | nil => exact upd_nil c
  | cons x r =>
    have e : (jn (x :: r)).data.toList = x.data.toList ++ (jt r).data.toList := by simp [jn]
    rw [e]
    exact fold_tail r (fun z hz => h z (by simp [hz])) x [] c (h x (by simp)) (.inl rfl)
theorem not_word {nm D : List UInt8} (hn : ∀ b ∈ nm, b ≠ 61) (c : C4) : u1 (nm ++ 61 :: D) c = c := by
  have e := ct_at1 hn D
  have no : ∀ w : List UInt8, (ct [61] w).2.2 = false → nm ++ 61 :: D ≠ w := fun w hw h => by rw [h] at e; rw [e] at hw; cases hw
  unfold u1
  rw [if_neg (fun h => by rcases h with h | h; exact no _ (by decide) h; exact no _ (by decide) h), if_neg (no _ (by decide))]
theorem upd_age (D : List UInt8) (n : Int) (h : numO D = (n, true)) (c : C4) : upd (nmAge ++ 61 :: D) c = (c.1, c.2.1, n, c.2.2.2) := by
  have e := ct_at1 (c := 61) (x := nmAge) (by decide) D
  unfold upd
  rw [not_word (by decide)]
  have v2 : u2 (nmAge ++ 61 :: D) c = (c.1, c.2.1, n, c.2.2.2) := by unfold u2; rw [e]; simp only [h]; exact if_pos ⟨by trivial, by trivial⟩
  rw [v2]
  unfold u3
  rw [e]
  exact if_neg (fun q => absurd q.1 (show ¬ nmAge = nmSh by decide))
theorem upd_sh (D : List UInt8) (n : Int) (h : numO D = (n, true)) (c : C4) : upd (nmSh ++ 61 :: D) c = (c.1, c.2.1, c.2.2.1, n) := by
  have e := ct_at1 (c := 61) (x := nmSh) (by decide) D
  unfold upd
  rw [not_word (by decide)]
  have v2 : u2 (nmSh ++ 61 :: D) c = c := by unfold u2; rw [e]; exact if_neg (fun q => absurd q.1 (show ¬ nmSh = nmAge by decide))
  rw [v2]
  unfold u3
  rw [e]; simp only [h]; exact if_pos ⟨by trivial, by trivial⟩
def ageB (n : Nat) : ByteArray := (⟨#[109, 97, 120, 45, 97, 103, 101, 61]⟩ : ByteArray) ++ decB n
def shB (n : Nat) : ByteArray := (⟨#[115, 45, 109, 97, 120, 97, 103, 101, 61]⟩ : ByteArray) ++ decB n
theorem ageB_L (n : Nat) : (ageB n).data.toList = nmAge ++ 61 :: (decB n).data.toList := by simp [ageB, nmAge]
theorem shB_L (n : Nat) : (shB n).data.toList = nmSh ++ 61 :: (decB n).data.toList := by simp [shB, nmSh]
theorem ageB_ok (n : Nat) : okB (ageB n) := by unfold okB; rw [ageB_L, okL_app, ← List.singleton_append, okL_app, okL_dec]; decide
theorem shB_ok (n : Nat) : okB (shB n) := by unfold okB; rw [shB_L, okL_app, ← List.singleton_append, okL_app, okL_dec]; decide
theorem updB_age (n : Nat) (h : n ≤ 999999) (c : C4) : updB c (ageB n) = (c.1, c.2.1, (n : Int), c.2.2.2) := by unfold updB; rw [ageB_L]; exact upd_age _ _ (numO_dec n h) c
theorem updB_sh (n : Nat) (h : n ≤ 999999) (c : C4) : updB c (shB n) = (c.1, c.2.1, c.2.2.1, (n : Int)) := by unfold updB; rw [shB_L]; exact upd_sh _ _ (numO_dec n h) c
theorem upd_store (c : C4) : upd [110, 111, 45, 115, 116, 111, 114, 101] c = (true, c.2.1, c.2.2.1, c.2.2.2) := by
  have e : ct [61] [110, 111, 45, 115, 116, 111, 114, 101] = ([110, 111, 45, 115, 116, 111, 114, 101], [], false) := by decide
  unfold upd u3 u2
  rw [e, if_neg (fun q => absurd q.1 (by decide)), if_neg (fun q => absurd q.1 (by decide))]
  exact if_pos (.inl rfl)
theorem upd_cache (c : C4) : upd [110, 111, 45, 99, 97, 99, 104, 101] c = (c.1, true, c.2.2.1, c.2.2.2) := by
  have e : ct [61] [110, 111, 45, 99, 97, 99, 104, 101] = ([110, 111, 45, 99, 97, 99, 104, 101], [], false) := by decide
  unfold upd u3 u2
  rw [e, if_neg (fun q => absurd q.1 (by decide)), if_neg (fun q => absurd q.1 (by decide))]
  unfold u1
  rw [if_neg (by decide)]
  exact if_pos rfl
theorem pickI (l : List Int) (i h : Int) (x : List Int) (hx : 1 ≤ x.length) (hm : x.length ≤ 1000) (hc : cu l i) : EvP (fun _ => spec_l01PickInt.f l i h x) (fun r => r.1 ∈ x ∧ cu l r.2.1) := by
  simp only [spec_l01PickInt.f]
  refine EvP.bind (belowP l i h _ (by omega) hc) fun r hr => EvP.yes hr.1.1 (EvP.yes hr.1.2 (EvP.ret ⟨?_, hr.2⟩))
  obtain ⟨n, hn⟩ : ∃ n : Nat, r.1 = (n : Int) := ⟨r.1.toNat, by omega⟩
  have hlt : n < x.length := by omega
  rw [hn, rd_get x n hlt]
  exact List.getElem_mem hlt
theorem onceP (l : List Int) (i h n : Int) (hn : 1 ≤ n) (hc : cu l i) : EvP (fun _ => spec_l01Once.f l i h n) (fun r => cu l r.2.1) := by
  simp only [spec_l01Once.f]
  exact EvP.bind (belowP l i h n hn hc) fun r hr => EvP.ret hr.2
def ages : List Int := [-1, 0, 5, 60, 999999]
def shares : List Int := [-1, -1, 0, 7, 999999]
theorem ctlP (l : List Int) (i h : Int) (hc : cu l i) : EvP (fun _ => spec_l10Control.f l i h) (fun r => (r.2.2.1 ∈ ages ∧ r.2.2.2.1 ∈ shares) ∧ cu l r.2.2.2.2.1) := by
  simp only [spec_l10Control.f]
  exact EvP.bind (onceP l _ _ 4 (by omega) hc) fun a ha => EvP.bind (onceP l _ _ 4 (by omega) ha) fun b hb => EvP.bind (pickI l _ _ _ (by decide) (by decide) hb) fun m hm => EvP.bind (pickI l _ _ _ (by decide) (by decide) hm.2) fun n hn => EvP.ret ⟨⟨hm.1, hn.1⟩, hn.2⟩
theorem drawCtl (l0 : List Int) (hl : l0.length ≤ 4611686018427387904) : EvP (fun k => spec_DrawControl.f k l0) (fun r => r.2.2.1 ∈ ages ∧ r.2.2.2 ∈ shares) := by
  simp only [spec_DrawControl.f]
  refine EvP.bind (newP l0 hl) fun c hc => ?_
  rw [hc.1]
  exact EvP.bind (ctlP l0 _ _ hc.2) fun q hq => EvP.ret hq.1
end Go.Proofs.YthjigecaojaalaaDoor.Q
namespace Go.Proofs.YthjigecaojaalaaDoor.Q
open Go.RowKit Go.Proofs.YthjigecaojaalaaDoorW.PrintWords Go.Proofs.YthjigecaojaalaaDoorW.PrintLast Go.Proofs.YthjigecaojaalaaDoorW.PrintMore
theorem pickM (l : List Int) (i h : Int) (x : List ByteArray) (hx : 1 ≤ x.length) (hm : x.length ≤ 1000) (hc : cu l i) : EvP (fun _ => spec_l01Pick.f l i h x) (fun r => r.1 ∈ x ∧ cu l r.2.1) := by
  simp only [spec_l01Pick.f]
  refine EvP.bind (belowP l i h _ (by omega) hc) fun r hr => EvP.yes hr.1.1 (EvP.yes hr.1.2 (EvP.ret ⟨?_, hr.2⟩))
  unfold rdOf
  have hlt : r.1.toNat < x.length := by omega
  simp only [List.getD_eq_getElem?_getD, List.getElem?_eq_getElem hlt, Option.getD_some]
  exact List.getElem_mem hlt
end Go.Proofs.YthjigecaojaalaaDoor.Q
namespace Go.Proofs.YthjigecaojaalaaDoor.Q
open Go.RowKit Go.Proofs.YthjigecaojaalaaDoorW.PrintWords Go.Proofs.YthjigecaojaalaaDoorW.PrintLast Go.Proofs.YthjigecaojaalaaDoorW.PrintMore
theorem ages_ok : ∀ m ∈ ages, -1 ≤ m ∧ m ≤ 999999 := by decide
theorem shares_ok : ∀ m ∈ shares, -1 ≤ m ∧ m ≤ 999999 := by decide
theorem fold_t0 (a b : Bool) (m n : Int) : (t0 a).foldl updB (false, b, m, n) = (a, b, m, n) := by
  unfold t0
  cases a with
  | true => rw [if_pos rfl, List.foldl_cons, List.foldl_nil]; exact upd_store _
  | false => rfl
theorem fold_t1 (a b : Bool) (m n : Int) : (t1 b).foldl updB (a, false, m, n) = (a, b, m, n) := by
  unfold t1
  cases b with
  | true => rw [if_pos rfl, List.foldl_cons, List.foldl_nil]; exact upd_cache _
  | false => rfl
theorem fold_t2 (a b : Bool) (m n : Int) (h : -1 ≤ m ∧ m ≤ 999999) : (t2 m).foldl updB (a, b, -1, n) = (a, b, m, n) := by
  unfold t2
  by_cases c : 0 ≤ m ∧ m ≤ 999999
  · rw [if_pos c, List.foldl_cons, List.foldl_nil]
    obtain ⟨q, rfl, e, _⟩ := dec_nat m c
    rw [e]
    exact updB_age q (by omega) _
  · rw [if_neg c, show m = -1 by omega]; rfl
theorem fold_t3 (a b : Bool) (m n : Int) (h : -1 ≤ n ∧ n ≤ 999999) : (t3 n).foldl updB (a, b, m, -1) = (a, b, m, n) := by
  unfold t3
  by_cases c : 0 ≤ n ∧ n ≤ 999999
  · rw [if_pos c, List.foldl_cons, List.foldl_nil]
    obtain ⟨q, rfl, e, _⟩ := dec_nat n c
    rw [e]
    exact updB_sh q (by omega) _
  · rw [if_neg c, show n = -1 by omega]; rfl
theorem ctlL_ok (a b : Bool) (m n : Int) : ∀ x ∈ ctlL a b m n, okB x := by
  intro x hx
  unfold ctlL t0 t1 t2 t3 at hx
  simp only [List.mem_append] at hx
  rcases hx with hx | hx | hx | hx
  · split at hx
    · rw [List.mem_singleton.1 hx]; exact (by decide : okL [110, 111, 45, 115, 116, 111, 114, 101] = true)
    · exact absurd hx (by simp)
  · split at hx
    · rw [List.mem_singleton.1 hx]; exact (by decide : okL [110, 111, 45, 99, 97, 99, 104, 101] = true)
    · exact absurd hx (by simp)
  · split at hx
    · rw [List.mem_singleton.1 hx]; exact ageB_ok _
    · exact absurd hx (by simp)
  · split at hx
    · rw [List.mem_singleton.1 hx]; exact shB_ok _
    · exact absurd hx (by simp)
theorem ctl_back (a b : Bool) (m n : Int) (hm : -1 ≤ m ∧ m ≤ 999999) (hn : -1 ≤ n ∧ n ≤ 999999) : foldC (spA [] (jn (ctlL a b m n)).data.toList) (false, false, -1, -1) = (a, b, m, n) := by
  rw [fold_jn _ (ctlL_ok a b m n)]
  unfold ctlL
  rw [List.foldl_append, List.foldl_append, List.foldl_append, fold_t0, fold_t1, fold_t2 _ _ _ _ hm, fold_t3 _ _ _ _ hn]
theorem t_sm (a b : Bool) (m n : Int) : sm 4 (ctlL a b m n) := by
  have s0 : sm 1 (t0 a) := by unfold t0; split; exact sm_one (by decide); exact sm_nil 1
  have s1 : sm 1 (t1 b) := by unfold t1; split; exact sm_one (by decide); exact sm_nil 1
  have s2 : sm 1 (t2 m) := by
    unfold t2
    split
    · rename_i c; obtain ⟨q, rfl, e, hq⟩ := dec_nat m c; rw [e]
      exact sm_one (by rw [ByteArray.size_append]; show 8 + _ ≤ _; omega)
    · exact sm_nil 1
  have s3 : sm 1 (t3 n) := by
    unfold t3
    split
    · rename_i c; obtain ⟨q, rfl, e, hq⟩ := dec_nat n c; rw [e]
      exact sm_one (by rw [ByteArray.size_append]; show 9 + _ ≤ _; omega)
    · exact sm_nil 1
  exact sm_app s0 (sm_app s1 (sm_app s2 s3))
theorem dec6 (n : Int) (c : 0 ≤ n ∧ n ≤ 999999) : (decB n.toNat).size ≤ 6 := by rw [← sizeL]; exact (dec_len 6 n.toNat (by omega) (by omega)).1
theorem jn_small (a b : Bool) (m n : Int) : (jn (ctlL a b m n)).size ≤ 100000 := by
  have hz : ∀ l : List ByteArray, (∀ x ∈ l, x.size ≤ 20) → (jn l).size ≤ 22 * l.length := by
    have ht : ∀ l : List ByteArray, (∀ x ∈ l, x.size ≤ 20) → (jt l).size ≤ 22 * l.length := by
      intro l
      induction l with
      | nil => intro _; exact Nat.zero_le _
      | cons x r ih =>
        intro h
        have h1 := h x (by simp)
        have h2 := ih (fun y hy => h y (by simp [hy]))
        rw [jt, ByteArray.size_append, ByteArray.size_append, List.length_cons]
        have : (⟨#[44, 32]⟩ : ByteArray).size = 2 := rfl
        omega
    intro l h
    cases l with
    | nil => exact Nat.zero_le _
    | cons x r =>
      have h1 := h x (by simp)
      have h2 := ht r (fun y hy => h y (by simp [hy]))
      rw [jn, ByteArray.size_append, List.length_cons]; omega
  have hs : ∀ x ∈ ctlL a b m n, x.size ≤ 20 := by
    intro x hx
    unfold ctlL t0 t1 t2 t3 at hx
    simp only [List.mem_append] at hx
    rcases hx with hx | hx | hx | hx
    · split at hx
      · rw [List.mem_singleton.1 hx]; decide
      · exact absurd hx (by simp)
    · split at hx
      · rw [List.mem_singleton.1 hx]; decide
      · exact absurd hx (by simp)
    · split at hx
      · rename_i c; have := dec6 m c; rw [List.mem_singleton.1 hx, ByteArray.size_append]; show 8 + _ ≤ _; omega
      · exact absurd hx (by simp)
    · split at hx
      · rename_i c; have := dec6 n c; rw [List.mem_singleton.1 hx, ByteArray.size_append]; show 9 + _ ≤ _; omega
      · exact absurd hx (by simp)
  have := hz _ hs
  have := (t_sm a b m n).1
  omega
theorem drawOf (l0 : List Int) (hl : l0.length ≤ 4611686018427387904) : EvP (fun k => spec_DrawControlOf.f k l0) (fun t => t.size ≤ 1000000) := by
  simp only [spec_DrawControlOf.f]
  refine EvP.bind (newP l0 hl) fun c hc => ?_
  rw [hc.1]
  refine EvP.bind (belowP l0 _ _ 4 (by omega) hc.2) fun k hk => EvP.bind (pickM l0 _ _ _ (by decide) (by decide) hk.2) fun t ht => EvP.bind (ctlP l0 _ _ ht.2) fun q hq => EvP.bind (EvP.ev (P := fun r => r.size ≤ 100000) (ct_spec q.1 q.2.1 q.2.2.1 q.2.2.2.1) (jn_small _ _ _ _)) fun s hs => ?_
  have hall : ∀ x ∈ ([(⟨#[]⟩ : ByteArray), (⟨#[32, 77, 97, 120, 45, 65, 103, 101, 61, 49, 50, 32, 44, 32, 32]⟩ : ByteArray), (⟨#[44, 44, 112, 114, 105, 118, 97, 116, 101]⟩ : ByteArray), (⟨#[109, 97, 120, 45, 97, 103, 101, 61, 120, 44, 32, 115, 45, 109, 97, 120, 97, 103, 101, 61, 51]⟩ : ByteArray), (⟨#[109, 97, 120, 45, 97, 103, 101, 61, 49, 50, 51, 52, 53, 54, 55]⟩ : ByteArray), (⟨#[78, 79, 45, 67, 65, 67, 72, 69]⟩ : ByteArray), (⟨#[109, 97, 120, 45, 97, 103, 101, 61, 49, 44, 32, 109, 97, 120, 45, 97, 103, 101, 61, 50]⟩ : ByteArray)] : List ByteArray), x.size ≤ 100 := by decide
  have htz := hall _ ht.1
  have k1 : (⟨#[44]⟩ : ByteArray).size = 1 := rfl
  exact EvP.ite (fun _ => EvP.ret (by omega)) (fun _ => EvP.ite (fun _ => EvP.yes (by omega) (EvP.yes (by rw [ByteArray.size_append]; omega) (EvP.ret (by rw [ByteArray.size_append, ByteArray.size_append]; omega)))) (fun _ => EvP.ret (by omega)))
theorem drawTx (l0 : List Int) (hl : l0.length ≤ 4611686018427387904) : EvP (fun k => spec_DrawControlText.f k l0) (fun _ => True) := by
  simp only [spec_DrawControlText.f]
  refine EvP.bind (newP l0 hl) fun c hc => ?_
  rw [hc.1]
  exact EvP.bind (ctlP l0 _ _ hc.2) fun q hq => EvP.bind (onceP l0 _ _ 6 (by omega) hq.2) fun o ho => EvP.ite (fun _ => EvP.bind (pickI l0 _ _ _ (by decide) (by decide) ho) fun m hm => EvP.ret trivial) (fun _ => EvP.ret trivial)
theorem pureFnControls (l0 : List Int) (_ : l0.length ≤ maxLen) (_ : ∀ x ∈ l0, (Lit.int .u8 x).wf = true) : ∃ k, laws_FnControls.f k l0 = some true := by
  refine Ev.rounds (g := fun k => laws_FnControls.f k l0) ?_
  simp only [laws_FnControls.f, laws_big.f, Option.bind_some]
  by_cases c : (l0.length : Int) > 1048576
  · exact Ev.yes (decide_eq_true c) (Ev.now _)
  refine Ev.no (by simpa using c) ?_
  obtain ⟨⟨a, b, m, n⟩, ec, hm, hn⟩ := drawCtl l0 (by omega)
  obtain ⟨t, et, ht⟩ := drawOf l0 (by omega)
  obtain ⟨⟨a', b', m', n'⟩, ex, _⟩ := drawTx l0 (by omega)
  have hs := jn_small a b m n
  have e1 := ctl_impl (jn (ctlL a b m n)) (by omega)
  rw [ctl_back a b m n (ages_ok m hm) (shares_ok n hn)] at e1
  have e2 := ctl_impl t (by omega)
  have e3 := ctl_spec t (by omega)
  have e4 := ctl_impl (⟨#[]⟩ : ByteArray) (by decide)
  rw [show foldC (spA [] (⟨#[]⟩ : ByteArray).data.toList) (false, false, -1, -1) = (false, false, -1, -1) from upd_nil _] at e4
  have e5 := ctl_impl (⟨#[32, 80, 82, 73, 86, 65, 84, 69, 32, 44, 109, 97, 120, 45, 97, 103, 101, 61, 55]⟩ : ByteArray) (by decide)
  rw [show foldC (spA [] (⟨#[32, 80, 82, 73, 86, 65, 84, 69, 32, 44, 109, 97, 120, 45, 97, 103, 101, 61, 55]⟩ : ByteArray).data.toList) (false, false, -1, -1) = (true, false, 7, -1) from by decide +kernel] at e5
  refine Ev.bind ec (Ev.bind (ct_impl a b m n) (Ev.bind e1 (Ev.bind et (Ev.bind ex (Ev.bind (ct_spec a b m n) (Ev.yes rfl (Ev.yes (by simp) (Ev.bind e2 (Ev.bind e3 (Ev.yes (by simp) (Ev.bind (ct_impl a' b' m' n') (Ev.bind (ct_spec a' b' m' n') (Ev.yes rfl (Ev.bind e4 (Ev.yes rfl (Ev.bind e5 (Ev.now _)))))))))))))))))
end Go.Proofs.YthjigecaojaalaaDoor.Q
