import Derived.Test.YthjigecaojaalaaDoorKoWords
import Derived.Lib.Strings
import Derived.Test.YthjigecaojaalaaDoorKoG29
import Derived.Test.YthjigecaojaalaaDoorKoG30
import Derived.Test.YthjigecaojaalaaDoorKoG35
import Derived.Test.YthjigecaojaalaaDoorKoG64
import Derived.Lib.IndexAny
import Derived.Test.YthjigecaojaalaaDoorKoG85
import Derived.Test.YthjigecaojaalaaDoorKoG22
import Derived.Test.YthjigecaojaalaaDoorKoG34
import Derived.Test.YthjigecaojaalaaDoorKoG13
namespace Go.Proofs.YthjigecaojaalaaDoor.Q
open Go.RowKit Go.Proofs.YthjigecaojaalaaDoorW.PrintWords Go.Proofs.YthjigecaojaalaaDoorW.PrintLast Go.Proofs.YthjigecaojaalaaDoorW.PrintMore
/-- With enough rounds g tells something of which P holds. -/
def EvP {α : Type} (g : Nat → Option α) (P : α → Prop) : Prop := ∃ r, Ev g r ∧ P r
theorem Ev.succ {α : Type} {g : Nat → Option α} {r : α} (h : Ev (fun k => g (k + 1)) r) : Ev g r := Ev.step (fun _ => rfl) h
theorem Ev.yes {α : Type} {f g : Nat → Option α} {r : α} {c : Prop} [Decidable c] (hc : c) (h : Ev f r) : Ev (fun k => if c then f k else g k) r := Ev.congr (fun _ => if_pos hc) h
theorem Ev.no {α : Type} {f g : Nat → Option α} {r : α} {c : Prop} [Decidable c] (hc : ¬ c) (h : Ev g r) : Ev (fun k => if c then f k else g k) r := Ev.congr (fun _ => if_neg hc) h
theorem Ev.via {α β : Type} {g : Option α} {f : Nat → α → Option β} {a : α} {r : β} (h : g = some a) (k : Ev (fun n => f n a) r) : Ev (fun n => g.bind (f n)) r := Ev.congr (fun _ => by rw [h]; rfl) k
theorem EvP.bind {α β : Type} {g : Nat → Option α} {f : Nat → α → Option β} {P : α → Prop} {Q : β → Prop} (h : EvP g P) (k : ∀ a, P a → EvP (fun n => f n a) Q) : EvP (fun n => (g n).bind (f n)) Q := by
  obtain ⟨a, ha, hp⟩ := h
  obtain ⟨r, hr, hq⟩ := k a hp
  exact ⟨r, Ev.bind ha hr, hq⟩
theorem EvP.ite {α : Type} {f g : Nat → Option α} {P : α → Prop} {c : Prop} [Decidable c] (h1 : c → EvP f P) (h2 : ¬ c → EvP g P) : EvP (fun k => if c then f k else g k) P := by
  by_cases hc : c
  · obtain ⟨r, hr, hp⟩ := h1 hc; exact ⟨r, Ev.yes hc hr, hp⟩
  · obtain ⟨r, hr, hp⟩ := h2 hc; exact ⟨r, Ev.no hc hr, hp⟩
theorem EvP.yes {α : Type} {f g : Nat → Option α} {P : α → Prop} {c : Prop} [Decidable c] (hc : c) (h : EvP f P) : EvP (fun k => if c then f k else g k) P := EvP.ite (fun _ => h) (fun hn => absurd hc hn)
theorem EvP.no {α : Type} {f g : Nat → Option α} {P : α → Prop} {c : Prop} [Decidable c] (hc : ¬ c) (h : EvP g P) : EvP (fun k => if c then f k else g k) P := EvP.ite (fun hn => absurd hn hc) (fun _ => h)
theorem EvP.succ {α : Type} {g : Nat → Option α} {P : α → Prop} (h : EvP (fun k => g (k + 1)) P) : EvP g P := by
  obtain ⟨r, hr, hp⟩ := h
  exact ⟨r, Ev.succ hr, hp⟩
theorem EvP.is {α : Type} {g : Nat → Option α} {r : α} (h : EvP g (fun x => x = r)) : Ev g r := by
  obtain ⟨_, hr, rfl⟩ := h
  exact hr
end Go.Proofs.YthjigecaojaalaaDoor.Q
namespace Go.Proofs.YthjigecaojaalaaDoor.Q
open Go.RowKit Go.Proofs.YthjigecaojaalaaDoorW.PrintWords Go.Proofs.YthjigecaojaalaaDoorW.PrintLast Go.Proofs.YthjigecaojaalaaDoorW.PrintMore
theorem w64 {n : Int} (h0 : -9223372036854775808 ≤ n) (h1 : n < 9223372036854775808) : wrap64 n = n := by unfold wrap64; omega
theorem wnat (i n : Nat) (h : i < n) (hn : n ≤ 9223372036854775807) : wrap64 ((i : Int) + 1) = ((i + 1 : Nat) : Int) := by rw [w64 (by omega) (by omega)]; rfl
theorem drop_get {α : Type} (l : List α) (i : Nat) (h : i < l.length) : l.drop i = l[i] :: l.drop (i + 1) := List.drop_eq_getElem_cons h
theorem toL (s : ByteArray) : s.toList = s.data.toList := Lib.toList_data s
theorem sizeL (s : ByteArray) : s.data.toList.length = s.size := (Lib.size_eq s).symm
theorem ba_ext {s t : ByteArray} (h : s.data.toList = t.data.toList) : s = t := ByteArray.ext (Array.toList_inj.1 h)
theorem bt_get (s : ByteArray) (i : Nat) (h : i < s.size) : bt s (i : Int) = ((s.data.toList[i]'(by rw [sizeL]; exact h)).toNat : Int) := by simp [bt, h]; rfl
theorem bt_rng (s : ByteArray) (i : Int) : 0 ≤ bt s i ∧ bt s i ≤ 255 := bt_range s i
/-- Are all bytes in lo .. hi. -/
def inB (lo hi : Int) (l : List UInt8) : Bool := l.all fun b => decide (lo ≤ (b.toNat : Int) ∧ (b.toNat : Int) ≤ hi)
end Go.Proofs.YthjigecaojaalaaDoor.Q
namespace Go.Proofs.YthjigecaojaalaaDoor.Q
open Go.RowKit Go.Proofs.YthjigecaojaalaaDoorW.PrintWords Go.Proofs.YthjigecaojaalaaDoorW.PrintLast Go.Proofs.YthjigecaojaalaaDoorW.PrintMore
theorem in_spec (a b c : Int) : spec_l01In.f a b c = some (decide (b ≤ a ∧ a ≤ c)) := by
  unfold spec_l01In.f
  by_cases h : a ≥ b
  · rw [if_pos h]; simp [show b ≤ a from h]
  · rw [if_neg h]; simp [show ¬ b ≤ a from h]
theorem in_impl (a b c : Int) : impl_within.f a b c = some (decide (b ≤ a ∧ a ≤ c)) := by
  unfold impl_within.f
  by_cases h : a ≥ b
  · rw [if_pos h]; simp [show b ≤ a from h]
  · rw [if_neg h]; simp [show ¬ b ≤ a from h]
end Go.Proofs.YthjigecaojaalaaDoor.Q
namespace Go.Proofs.YthjigecaojaalaaDoor.Q
open Go.RowKit Go.Proofs.YthjigecaojaalaaDoorW.PrintWords Go.Proofs.YthjigecaojaalaaDoorW.PrintLast Go.Proofs.YthjigecaojaalaaDoorW.PrintMore
theorem bytesIn_l (s : ByteArray) (lo hi : Int) (hs : s.size ≤ 9223372036854775807) (d : Nat) : ∀ i : Nat, i ≤ s.size → s.size - i = d → Ev (fun k => impl_bytesIn.l0 k s lo hi (s.size : Int) (i : Int)) (inB lo hi (s.data.toList.drop i)) := by
  induction d with
  | zero =>
    intro i hi_ hd
    refine Ev.succ ?_
    simp only [impl_bytesIn.l0]
    rw [List.drop_eq_nil_of_le (by rw [sizeL]; omega)]
    exact Ev.no (by omega) (Ev.now _)
  | succ d ih =>
    intro i hi_ hd
    have hlt : i < s.size := by omega
    have hb := bt_rng s i
    refine Ev.succ ?_
    simp only [impl_bytesIn.l0]
    rw [w64 (n := bt s i) (by omega) (by omega), wnat i _ hlt hs, drop_get _ i (by rw [sizeL]; exact hlt)]
    simp only [in_impl, Option.bind_some]
    refine Ev.yes (by omega) (Ev.yes (by omega) (Ev.yes (by omega) ?_))
    rw [bt_get s i hlt]
    by_cases c : lo ≤ ((s.data.toList[i]'(by rw [sizeL]; exact hlt)).toNat : Int) ∧ ((s.data.toList[i]'(by rw [sizeL]; exact hlt)).toNat : Int) ≤ hi
    · refine Ev.yes (decide_eq_true c) ?_
      rw [show inB lo hi (s.data.toList[i]'(by rw [sizeL]; exact hlt) :: s.data.toList.drop (i + 1)) = inB lo hi (s.data.toList.drop (i + 1)) from by simp only [inB, List.all_cons]; rw [decide_eq_true c, Bool.true_and]]
      exact ih (i + 1) (by omega) (by omega)
    · refine Ev.no (by simpa using c) ?_
      rw [show inB lo hi (s.data.toList[i]'(by rw [sizeL]; exact hlt) :: s.data.toList.drop (i + 1)) = false from by simp only [inB, List.all_cons]; rw [decide_eq_false c, Bool.false_and]]
      exact Ev.now _
theorem bytesIn_ev (s : ByteArray) (lo hi : Int) (hs : s.size ≤ 9223372036854775807) : Ev (fun k => impl_bytesIn.f k s lo hi) (inB lo hi s.data.toList) := bytesIn_l s lo hi hs s.size 0 (by omega) (by omega)
end Go.Proofs.YthjigecaojaalaaDoor.Q
namespace Go.Proofs.YthjigecaojaalaaDoor.Q
open Go.RowKit Go.Proofs.YthjigecaojaalaaDoorW.PrintWords Go.Proofs.YthjigecaojaalaaDoorW.PrintLast Go.Proofs.YthjigecaojaalaaDoorW.PrintMore
def numL : Int → List UInt8 → Int
  | acc, [] => acc
  | acc, b :: r => numL (10 * acc + ((b.toNat : Int) - 48)) r
theorem inB_cons (lo hi : Int) (b : UInt8) (r : List UInt8) : inB lo hi (b :: r) = (decide (lo ≤ (b.toNat : Int) ∧ (b.toNat : Int) ≤ hi) && inB lo hi r) := by simp [inB]
theorem pow_le6 (i : Nat) (h : i ≤ 6) : 10 ^ i ≤ 1000000 := Nat.pow_le_pow_right (by omega) h
theorem number_spec_l (s : ByteArray) (hs : s.size ≤ 6) (d : Nat) : ∀ (i : Nat) (acc : Int), i ≤ s.size → s.size - i = d → 0 ≤ acc → acc < ((10 ^ i : Nat) : Int) → Ev (fun k => spec_l10Number.l0 k s acc (i : Int)) (if inB 48 57 (s.data.toList.drop i) = true then (numL acc (s.data.toList.drop i), true) else (0, false)) := by
  induction d with
  | zero =>
    intro i acc hi hd h0 h1
    refine Ev.succ ?_
    simp only [spec_l10Number.l0]
    rw [List.drop_eq_nil_of_le (by rw [sizeL]; omega)]
    exact Ev.no (by omega) (Ev.now _)
  | succ d ih =>
    intro i acc hi hd h0 h1
    have hlt : i < s.size := by omega
    have hp := pow_le6 i (by omega)
    have hl : i < s.data.toList.length := by rw [sizeL]; exact hlt
    refine Ev.succ ?_
    simp only [spec_l10Number.l0]
    rw [bt_get s i hlt, wnat i _ hlt (by omega), drop_get _ i hl, inB_cons, numL]
    have hb := (s.data.toList[i]'hl).toNat_lt
    generalize s.data.toList[i]'hl = b at hb ⊢
    refine Ev.yes (by omega) (Ev.yes (by omega) ?_)
    by_cases c1 : ((b.toNat : Nat) : Int) < 48
    · rw [decide_eq_false (by omega), Bool.false_and]
      exact Ev.yes c1 (Ev.now _)
    · refine Ev.no c1 ?_
      by_cases c2 : ((b.toNat : Nat) : Int) > 57
      · rw [decide_eq_false (by omega), Bool.false_and]
        exact Ev.yes c2 (Ev.now _)
      · rw [decide_eq_true (by omega), Bool.true_and]
        refine Ev.no c2 ?_
        rw [w64 (n := (10 : Int) * acc) (by omega) (by omega), w64 (n := ((b.toNat : Nat) : Int)) (by omega) (by omega), w64 (n := (10 : Int) * acc + ((b.toNat : Nat) : Int)) (by omega) (by omega), w64 (n := (10 : Int) * acc + ((b.toNat : Nat) : Int) - 48) (by omega) (by omega), show (10 : Int) * acc + ((b.toNat : Nat) : Int) - 48 = 10 * acc + (((b.toNat : Nat) : Int) - 48) by omega]
        exact ih (i + 1) _ (by omega) (by omega) (by omega) (by rw [Nat.pow_succ]; omega)
theorem number_spec (s : ByteArray) : Ev (fun k => spec_l10Number.f k s) (if 1 ≤ s.size ∧ s.size ≤ 6 ∧ inB 48 57 s.data.toList = true then (numL 0 s.data.toList, true) else (0, false)) := by
  simp only [spec_l10Number.f, in_spec, Option.bind_some]
  by_cases c : 1 ≤ s.size ∧ s.size ≤ 6
  · refine Ev.yes (decide_eq_true (by omega)) ?_
    have h := number_spec_l s c.2 s.size 0 0 (by omega) (by omega) (by omega) (by decide)
    rw [List.drop_zero] at h
    by_cases c2 : inB 48 57 s.data.toList = true
    · rw [if_pos c2] at h; rw [if_pos ⟨c.1, c.2, c2⟩]; exact h
    · rw [if_neg c2] at h; rw [if_neg (fun q => c2 q.2.2)]; exact h
  · rw [if_neg (fun q => c ⟨q.1, q.2.1⟩)]
    exact Ev.no (by simp; omega) (Ev.now _)
theorem figures_l (s : ByteArray) (hs : s.size ≤ 6) (d : Nat) : ∀ (i : Nat) (acc : Int), i ≤ s.size → s.size - i = d → inB 48 57 (s.data.toList.drop i) = true → 0 ≤ acc → acc < ((10 ^ i : Nat) : Int) → Ev (fun k => impl_figuresOf.l0 k s acc (s.size : Int) (i : Int)) (numL acc (s.data.toList.drop i), true) := by
  induction d with
  | zero =>
    intro i acc hi hd hb h0 h1
    refine Ev.succ ?_
    simp only [impl_figuresOf.l0]
    rw [List.drop_eq_nil_of_le (by rw [sizeL]; omega)]
    exact Ev.no (by omega) (Ev.now _)
  | succ d ih =>
    intro i acc hi hd hb h0 h1
    have hlt : i < s.size := by omega
    have hp := pow_le6 i (by omega)
    have hl : i < s.data.toList.length := by rw [sizeL]; exact hlt
    refine Ev.succ ?_
    simp only [impl_figuresOf.l0]
    rw [bt_get s i hlt, wnat i _ hlt (by omega), drop_get _ i hl, numL]
    rw [drop_get _ i hl, inB_cons, Bool.and_eq_true, decide_eq_true_eq] at hb
    generalize s.data.toList[i]'hl = b at hb ⊢
    rw [show (((b.toNat : Nat) : Int) - 48) % 256 = ((b.toNat : Nat) : Int) - 48 by omega, w64 (n := (10 : Int) * acc) (by omega) (by omega), w64 (n := (10 : Int) * acc + (((b.toNat : Nat) : Int) - 48)) (by omega) (by omega)]
    refine Ev.yes (by omega) (Ev.yes (by omega) (Ev.yes (by omega) ?_))
    exact ih (i + 1) _ (by omega) (by omega) hb.2 (by omega) (by rw [Nat.pow_succ]; omega)
theorem figures_ev (s : ByteArray) (m : Nat) (hm : m ≤ 6) (hs : s.size ≤ 9223372036854775807) : Ev (fun k => impl_figuresOf.f k s (m : Int)) (if 1 ≤ s.size ∧ s.size ≤ m ∧ inB 48 57 s.data.toList = true then (numL 0 s.data.toList, true) else (0, false)) := by
  simp only [impl_figuresOf.f, in_impl, Option.bind_some]
  by_cases c : 1 ≤ s.size ∧ s.size ≤ m
  · refine Ev.yes (decide_eq_true (by omega)) (Ev.bind (bytesIn_ev s 48 57 hs) (Ev.succ ?_))
    simp only [impl_figuresOf.j0]
    by_cases c2 : inB 48 57 s.data.toList = true
    · rw [if_pos ⟨c.1, c.2, c2⟩, c2]
      have h := figures_l s (by omega) s.size 0 0 (by omega) (by omega) (by rw [List.drop_zero]; exact c2) (by omega) (by decide)
      rw [List.drop_zero] at h
      exact Ev.no (by decide) h
    · rw [if_neg (fun q => c2 q.2.2)]
      exact Ev.yes (by simpa using c2) (Ev.now _)
  · rw [if_neg (fun q => c ⟨q.1, q.2.1⟩)]
    refine Ev.no (by simp; omega) (Ev.succ ?_)
    simp only [impl_figuresOf.j0]
    exact Ev.yes trivial (Ev.now _)
end Go.Proofs.YthjigecaojaalaaDoor.Q
namespace Go.Proofs.YthjigecaojaalaaDoor.Q
open Go.RowKit Go.Proofs.YthjigecaojaalaaDoorW.PrintWords Go.Proofs.YthjigecaojaalaaDoorW.PrintLast Go.Proofs.YthjigecaojaalaaDoorW.PrintMore
set_option linter.unusedSimpArgs false
def ba (l : List UInt8) : ByteArray := ⟨l.toArray⟩
theorem ba_toL (l : List UInt8) : (ba l).data.toList = l := by simp [ba]
theorem ba_list (l : List UInt8) : (ba l).toList = l := by rw [toL, ba_toL]
theorem ba_size (l : List UInt8) : (ba l).size = l.length := by rw [← sizeL, ba_toL]
theorem ba_of (s : ByteArray) : ba s.data.toList = s := by apply ba_ext; rw [ba_toL]
def ct (p : List UInt8) : List UInt8 → List UInt8 × List UInt8 × Bool
  | [] => ([], [], false)
  | b :: t => if p.isPrefixOf (b :: t) then ([], (b :: t).drop p.length, true) else if (ct p t).2.2 = true then (b :: (ct p t).1, (ct p t).2.1, true) else (b :: t, [], false)
theorem cut_ct (p : List UInt8) (hp : p ≠ []) (t : List UInt8) : Lib.cut t p = ct p t := by
  induction t with
  | nil =>
    cases p with
    | nil => exact absurd rfl hp
    | cons a p => rfl
  | cons b t ih =>
    rw [ct]
    unfold Lib.cut at ih ⊢
    rw [Lib.index]
    by_cases c : p.isPrefixOf (b :: t) = true
    · rw [if_pos c, if_pos c]; simp
    · rw [if_neg c, if_neg c, ← ih]
      have g : -1 ≤ Lib.index t p := by
        clear ih c
        induction t with
        | nil => rw [Lib.index]; split <;> decide
        | cons a t ih => rw [Lib.index]; split; decide; split; decide; omega
      by_cases c2 : Lib.index t p = -1
      · rw [c2]; simp
      · have h0 : 0 ≤ Lib.index t p := by omega
        have e1 : (Lib.index t p == -1) = false := by simpa using c2
        rw [e1]
        simp only [if_pos h0, Bool.false_eq_true, if_false, if_true]
        rw [if_pos (by omega)]
        have e2 : (Lib.index t p + 1).toNat = (Lib.index t p).toNat + 1 := by omega
        rw [e2, List.take_succ_cons, show (Lib.index t p).toNat + 1 + p.length = (Lib.index t p).toNat + p.length + 1 by omega, List.drop_succ_cons]
theorem ct_true {p t : List UInt8} (h : (ct p t).2.2 = true) : t = (ct p t).1 ++ p ++ (ct p t).2.1 := by
  induction t with
  | nil => simp [ct] at h
  | cons b t ih =>
    rw [ct] at h ⊢
    by_cases c : p.isPrefixOf (b :: t) = true
    · rw [if_pos c]
      obtain ⟨r, hr⟩ := List.isPrefixOf_iff_prefix.1 c
      simp only [List.nil_append]
      rw [← hr, List.drop_left]
    · rw [if_neg c] at h ⊢
      by_cases c2 : (ct p t).2.2 = true
      · rw [if_pos c2]
        have := ih c2
        simp only [List.cons_append]
        rw [← this]
      · rw [if_neg c2] at h; simp at h
theorem ct_false {p t : List UInt8} (h : (ct p t).2.2 = false) : (ct p t).1 = t := by
  cases t with
  | nil => rfl
  | cons b t =>
    rw [ct] at h ⊢
    by_cases c : p.isPrefixOf (b :: t) = true
    · rw [if_pos c] at h; simp at h
    · rw [if_neg c] at h ⊢
      by_cases c2 : (ct p t).2.2 = true
      · rw [if_pos c2] at h; simp at h
      · rw [if_neg c2]
theorem cut_ev (s : ByteArray) (p : ByteArray) (hp : p.data.toList ≠ []) (hs : s.size ≤ 4000000000) : strings_Cut.f s p = some (ba (ct p.data.toList s.data.toList).1, ba (ct p.data.toList s.data.toList).2.1, (ct p.data.toList s.data.toList).2.2) := by
  unfold strings_Cut.f
  rw [if_pos (by omega), cut_ct _ hp]; rfl
theorem ext_ba (s : ByteArray) (a b : Nat) : s.extract a b = ba ((s.data.toList.drop a).take (b - a)) := by
  apply ba_ext; rw [ba_toL, Lib.extract_data]
end Go.Proofs.YthjigecaojaalaaDoor.Q
namespace Go.Proofs.YthjigecaojaalaaDoor.Q
open Go.RowKit Go.Proofs.YthjigecaojaalaaDoorW.PrintWords Go.Proofs.YthjigecaojaalaaDoorW.PrintLast Go.Proofs.YthjigecaojaalaaDoorW.PrintMore
theorem b32 (b : UInt8) : (b.toNat : Int) = 32 ↔ b = 32 := by
  constructor
  · intro h
    exact UInt8.toNat_inj.1 (by show b.toNat = 32; omega)
  · rintro rfl; rfl
end Go.Proofs.YthjigecaojaalaaDoor.Q
namespace Go.Proofs.YthjigecaojaalaaDoor.Q
open Go.RowKit Go.Proofs.YthjigecaojaalaaDoorW.PrintWords Go.Proofs.YthjigecaojaalaaDoorW.PrintLast Go.Proofs.YthjigecaojaalaaDoorW.PrintMore
set_option linter.unusedSimpArgs false
theorem trimR_last (l : List UInt8) (b : UInt8) : Lib.trimRightB (l ++ [b]) 32 = if b = 32 then Lib.trimRightB l 32 else l ++ [b] := by
  unfold Lib.trimRightB
  rw [List.reverse_append]
  simp only [List.reverse_cons, List.reverse_nil, List.nil_append, List.singleton_append]
  by_cases c : b = 32
  · subst c; simp
  · simp [c]
theorem trimR_cons (b : UInt8) (t : List UInt8) : Lib.trimRightB (b :: t) 32 = if Lib.trimRightB t 32 = [] ∧ b = 32 then [] else b :: Lib.trimRightB t 32 := by
  unfold Lib.trimRightB
  rw [List.reverse_cons, List.dropWhile_append]
  by_cases c : (t.reverse.dropWhile (· == (32 : UInt8))) = []
  · rw [c]
    by_cases d : b = 32
    · subst d; simp
    · simp [d]
  · have : (t.reverse.dropWhile (· == (32 : UInt8))).isEmpty = false := by simpa using c
    rw [this, if_neg (by simp)]
    rw [if_neg (fun h => c (by simpa using h.1))]
    simp
theorem trim_swap (l : List UInt8) : Lib.trimRightB (Lib.trimLeftB l 32) 32 = Lib.trimB l 32 := by
  unfold Lib.trimB
  induction l with
  | nil => rfl
  | cons b t ih =>
    rw [trimR_cons]
    unfold Lib.trimLeftB at *
    by_cases c : b = 32
    · subst c
      rw [List.dropWhile_cons_of_pos (by simp), ih]
      by_cases d : Lib.trimRightB t 32 = []
      · rw [if_pos ⟨d, rfl⟩, d]
      · rw [if_neg (fun h => d h.1), List.dropWhile_cons_of_pos (by simp)]
    · rw [List.dropWhile_cons_of_neg (by simp [c]), if_neg (fun h => c h.2), List.dropWhile_cons_of_neg (by simp [c]), trimR_cons, if_neg (fun h => c h.2)]
theorem trimS_r (d : Nat) : ∀ s : ByteArray, s.size = d → s.size ≤ 9223372036854775807 → Ev (fun k => spec_l09Trim.l1 k s) (ba (Lib.trimRightB s.data.toList 32)) := by
  induction d with
  | zero =>
    intro s hd hs
    have : s.data.toList = [] := List.eq_nil_of_length_eq_zero (by rw [sizeL]; exact hd)
    refine Ev.succ ?_
    simp only [spec_l09Trim.l1]
    rw [this, show ba (Lib.trimRightB [] 32) = s from by rw [← ba_of s, this]; rfl]
    exact Ev.no (by omega) (Ev.now _)
  | succ d ih =>
    intro s hd hs
    refine Ev.succ ?_
    simp only [spec_l09Trim.l1]
    have hw : wrap64 ((s.size : Int) - 1) = ((s.size - 1 : Nat) : Int) := by rw [w64 (by omega) (by omega)]; omega
    rw [hw, bt_get s (s.size - 1) (by omega)]
    refine Ev.yes (by omega) (Ev.yes (by omega) (Ev.yes (by omega) ?_))
    have hl : s.data.toList = s.data.toList.take (s.size - 1) ++ [s.data.toList[s.size - 1]'(by rw [sizeL]; omega)] := by
      have h2 := List.take_succ_eq_append_getElem (l := s.data.toList) (i := s.size - 1) (by rw [sizeL]; omega)
      rw [← h2, List.take_of_length_le (by rw [sizeL]; omega)]
    have e := trimR_last (s.data.toList.take (s.size - 1)) (s.data.toList[s.size - 1]'(by rw [sizeL]; omega))
    rw [← hl] at e
    rw [e]
    by_cases c : s.data.toList[s.size - 1]'(by rw [sizeL]; omega) = 32
    · rw [if_pos c]
      refine Ev.yes ((b32 _).2 c) (Ev.yes (by omega) ?_)
      have e2 : (s.extract 0 (((s.size - 1 : Nat) : Int)).toNat) = ba (s.data.toList.take (s.size - 1)) := by rw [Int.toNat_natCast, ext_ba]; simp
      rw [e2]
      have := ih (ba (s.data.toList.take (s.size - 1))) (by rw [ba_size, List.length_take, sizeL]; omega) (by rw [ba_size, List.length_take, sizeL]; omega)
      rw [ba_toL] at this
      exact this
    · rw [if_neg c, ba_of]
      exact Ev.no (fun h => c ((b32 _).1 h)) (Ev.now _)
theorem trimS_l (d : Nat) : ∀ s : ByteArray, s.size = d → s.size ≤ 9223372036854775807 → Ev (fun k => spec_l09Trim.l0 k s) (ba (Lib.trimRightB (Lib.trimLeftB s.data.toList 32) 32)) := by
  have jt : ∀ s : ByteArray, s.size ≤ 9223372036854775807 → Ev (fun k => spec_l09Trim.j1 k s) (ba (Lib.trimRightB s.data.toList 32)) := fun s hs => by
    refine Ev.succ ?_
    simp only [spec_l09Trim.j1]; exact trimS_r s.size s rfl hs
  induction d with
  | zero =>
    intro s hd hs
    have : s.data.toList = [] := List.eq_nil_of_length_eq_zero (by rw [sizeL]; exact hd)
    have h := jt s hs
    refine Ev.succ ?_
    simp only [spec_l09Trim.l0]
    rw [this] at h ⊢
    exact Ev.no (by omega) h
  | succ d ih =>
    intro s hd hs
    refine Ev.succ ?_
    simp only [spec_l09Trim.l0]
    have eb := bt_get s 0 (by omega)
    rw [show ((0 : Nat) : Int) = 0 from rfl] at eb
    rw [eb]
    have hl := drop_get s.data.toList 0 (by rw [sizeL]; omega)
    rw [List.drop_zero] at hl
    refine Ev.yes (by omega) (Ev.yes (by omega) ?_)
    by_cases c : s.data.toList[0]'(by rw [sizeL]; omega) = 32
    · refine Ev.yes ((b32 _).2 c) (Ev.yes (by omega) ?_)
      have e2 : s.extract 1 s.size = ba (s.data.toList.drop 1) := by rw [ext_ba, List.take_of_length_le (by rw [List.length_drop, sizeL]; omega)]
      rw [e2]
      have h := ih (ba (s.data.toList.drop 1)) (by rw [ba_size, List.length_drop, sizeL]; omega) (by rw [ba_size, List.length_drop, sizeL]; omega)
      rw [ba_toL] at h
      have e3 : Lib.trimLeftB s.data.toList 32 = Lib.trimLeftB (s.data.toList.drop 1) 32 := by
        unfold Lib.trimLeftB
        conv => lhs; rw [hl]
        rw [List.dropWhile_cons_of_pos (by simp [c])]
      rw [e3]
      exact h
    · have e3 : Lib.trimLeftB s.data.toList 32 = s.data.toList := by
        unfold Lib.trimLeftB
        conv => lhs; rw [hl]
        rw [List.dropWhile_cons_of_neg (p := fun x => x == (32 : UInt8)) (fun h => c (beq_iff_eq.1 h))]
        exact hl.symm
      rw [e3]
      exact Ev.no (fun h => c ((b32 _).1 h)) (jt s hs)
theorem trimS_ev (s : ByteArray) (hs : s.size ≤ 9223372036854775807) : Ev (fun k => spec_l09Trim.f k s) (ba (Lib.trimB s.data.toList 32)) := by
  have := trimS_l s.size s rfl hs
  rw [trim_swap] at this
  exact this
theorem low_ba (l : List UInt8) : impl_lower.all (ba l) = ba (l.map impl_lower.one) := by
  apply ba_ext; rw [ba_toL]; unfold impl_lower.all ba; simp
theorem trim_len (l : List UInt8) : (Lib.trimB l 32).length ≤ l.length := by
  unfold Lib.trimB Lib.trimLeftB Lib.trimRightB
  have h1 := (List.dropWhile_sublist (l := (l.reverse.dropWhile (· == (32 : UInt8))).reverse) (· == (32 : UInt8))).length_le
  have h2 := (List.dropWhile_sublist (l := l.reverse) (· == (32 : UInt8))).length_le
  rw [List.length_reverse] at h1 h2
  omega
theorem ct_len {p t : List UInt8} : (ct p t).1.length ≤ t.length ∧ (ct p t).2.1.length ≤ t.length := by
  cases h : (ct p t).2.2 with
  | true =>
    have := congrArg List.length (ct_true h)
    simp only [List.length_append] at this
    omega
  | false =>
    refine ⟨by rw [ct_false h]; omega, ?_⟩
    cases t with
    | nil => simp [ct]
    | cons b t =>
      rw [ct] at h ⊢
      split at h
      · cases h
      · rename_i c
        rw [if_neg c]
        split at h
        · cases h
        · rename_i c2; rw [if_neg c2]; simp
theorem ct1 (c b : UInt8) (t : List UInt8) : ct [c] (b :: t) = if b = c then ([], t, true) else if (ct [c] t).2.2 = true then (b :: (ct [c] t).1, (ct [c] t).2.1, true) else (b :: t, [], false) := by
  rw [ct]
  by_cases h : b = c
  · subst h; simp [List.isPrefixOf]
  · rw [if_neg h, if_neg (by simp [List.isPrefixOf, Ne.symm h])]
end Go.Proofs.YthjigecaojaalaaDoor.Q
namespace Go.Proofs.YthjigecaojaalaaDoor.Q
open Go.RowKit Go.Proofs.YthjigecaojaalaaDoorW.PrintWords Go.Proofs.YthjigecaojaalaaDoorW.PrintLast Go.Proofs.YthjigecaojaalaaDoorW.PrintMore
abbrev C4 := Bool × Bool × Int × Int
def numO (l : List UInt8) : Int × Bool := if 1 ≤ l.length ∧ l.length ≤ 6 ∧ inB 48 57 l = true then (numL 0 l, true) else (0, false)
def partP (t : List UInt8) : List UInt8 := (Lib.trimB t 32).map impl_lower.one
def nmAge : List UInt8 := [109, 97, 120, 45, 97, 103, 101]
def nmSh : List UInt8 := [115, 45, 109, 97, 120, 97, 103, 101]
def u1 (p : List UInt8) (c : C4) : C4 := if p = [110, 111, 45, 115, 116, 111, 114, 101] ∨ p = [112, 114, 105, 118, 97, 116, 101] then (true, c.2.1, c.2.2.1, c.2.2.2) else if p = [110, 111, 45, 99, 97, 99, 104, 101] then (c.1, true, c.2.2.1, c.2.2.2) else c
def u2 (p : List UInt8) (c : C4) : C4 := if (ct [61] p).1 = nmAge ∧ (numO (ct [61] p).2.1).2 = true then (c.1, c.2.1, (numO (ct [61] p).2.1).1, c.2.2.2) else c
def u3 (p : List UInt8) (c : C4) : C4 := if (ct [61] p).1 = nmSh ∧ (numO (ct [61] p).2.1).2 = true then (c.1, c.2.1, c.2.2.1, (numO (ct [61] p).2.1).1) else c
def upd (p : List UInt8) (c : C4) : C4 := u3 p (u2 p (u1 p c))
theorem ct_false2 {p t : List UInt8} (h : (ct p t).2.2 = false) : (ct p t).2.1 = [] := by
  cases t with
  | nil => simp [ct]
  | cons b t =>
    rw [ct] at h ⊢
    split at h
    · cases h
    · rename_i c
      rw [if_neg c]
      split at h
      · cases h
      · rename_i c2; rw [if_neg c2]
theorem numO_found {p : List UInt8} (h : (numO (ct [61] p).2.1).2 = true) : (ct [61] p).2.2 = true := by
  cases e : (ct [61] p).2.2 with
  | true => rfl
  | false => rw [ct_false2 e] at h; exact absurd h (by decide)
theorem ct_at1 {c : UInt8} {x : List UInt8} (h : ∀ b ∈ x, b ≠ c) (y : List UInt8) : ct [c] (x ++ c :: y) = (x, y, true) := by
  induction x with
  | nil => rw [List.nil_append, ct1, if_pos rfl]
  | cons b x ih =>
    rw [List.cons_append, ct1, if_neg (h b (by simp)), ih (fun d hd => h d (by simp [hd]))]
    simp
theorem begins_yes {nm p : List UInt8} (hn : ∀ b ∈ nm, b ≠ 61) (h : p.take (nm.length + 1) = nm ++ [61]) : ct [61] p = (nm, p.drop (nm.length + 1), true) := by
  have e : p = nm ++ 61 :: p.drop (nm.length + 1) := by
    have := List.take_append_drop (nm.length + 1) p
    rw [h] at this
    rw [← List.singleton_append, ← List.append_assoc]; exact this.symm
  conv => lhs; rw [e]
  exact ct_at1 hn _
theorem begins_no {nm p : List UInt8} (h : ¬ p.take (nm.length + 1) = nm ++ [61]) : ¬ ((ct [61] p).1 = nm ∧ (numO (ct [61] p).2.1).2 = true) := by
  rintro ⟨h1, h2⟩
  have e := ct_true (numO_found h2)
  rw [h1] at e
  apply h
  rw [e, List.take_left' (by simp)]
theorem number_ba (l : List UInt8) : Ev (fun k => spec_l10Number.f k (ba l)) (numO l) := by
  have := number_spec (ba l)
  rw [ba_toL, ba_size] at this
  exact this
theorem figures_ba (l : List UInt8) (h : l.length ≤ 9223372036854775807) : Ev (fun k => impl_figuresOf.f k (ba l) 6) (numO l) := by
  have := figures_ev (ba l) 6 (by omega) (by rw [ba_size]; omega)
  rw [ba_toL, ba_size] at this
  exact this
theorem begins_ev (p : List UInt8) (q : ByteArray) : spec_l10Begins.f (ba p) q = some (decide (p.take q.size = q.data.toList)) := by
  unfold spec_l10Begins.f
  rw [ba_size]
  by_cases c : (p.length : Int) ≥ (q.size : Int)
  · rw [if_pos c, if_pos (by omega), if_pos (by omega), Int.toNat_natCast, toL, toL, Lib.extract_data, ba_toL, List.drop_zero, Nat.sub_zero]
    congr 1
    rw [Bool.eq_iff_iff, beq_iff_eq, decide_eq_true_iff]
  · rw [if_neg c, decide_eq_false]
    intro h
    have := congrArg List.length h
    rw [List.length_take, sizeL] at this
    omega
theorem part_2 (p : List UInt8) (c : C4) : Ev (fun k => spec_l10Part.j2 k (ba p) c.1 c.2.1 c.2.2.1 c.2.2.2) (u3 p c) := by
  refine Ev.succ ?_
  simp only [spec_l10Part.j2]
  refine Ev.via (begins_ev p _) ?_
  by_cases h : p.take (nmSh.length + 1) = nmSh ++ [61]
  · have e := begins_yes (nm := nmSh) (by decide) h
    have hl : 9 ≤ p.length := by
      have := congrArg List.length h
      rw [List.length_take] at this
      simp [nmSh] at this
      omega
    refine Ev.yes (decide_eq_true h) (Ev.yes (by rw [ba_size]; omega) ?_)
    have e9 : (ba p).extract 9 (ba p).size = ba (p.drop 9) := by
      apply ba_ext; rw [Lib.extract_data, ba_toL, ba_size, ba_toL, List.take_of_length_le (by rw [List.length_drop]; omega)]
    rw [e9]
    refine Ev.bind (number_ba _) ?_
    by_cases g : (numO (p.drop 9)).2 = true
    · have : u3 p c = (c.1, c.2.1, c.2.2.1, (numO (p.drop 9)).1) := by unfold u3; rw [e]; exact if_pos ⟨rfl, g⟩
      rw [this]; exact Ev.yes g (Ev.now _)
    · have : u3 p c = c := by unfold u3; rw [e]; exact if_neg (fun h => g h.2)
      rw [this]; exact Ev.no g (Ev.now _)
  · have : u3 p c = c := if_neg (begins_no h)
    rw [this]
    exact Ev.no (fun q => h (of_decide_eq_true q)) (Ev.now _)
theorem part_1 (p : List UInt8) (c : C4) : Ev (fun k => spec_l10Part.j1 k (ba p) c.1 c.2.1 c.2.2.1 c.2.2.2) (u3 p (u2 p c)) := by
  refine Ev.succ ?_
  simp only [spec_l10Part.j1]
  refine Ev.via (begins_ev p _) ?_
  by_cases h : p.take (nmAge.length + 1) = nmAge ++ [61]
  · have e := begins_yes (nm := nmAge) (by decide) h
    have hl : 8 ≤ p.length := by
      have := congrArg List.length h
      rw [List.length_take] at this
      simp [nmAge] at this
      omega
    refine Ev.yes (decide_eq_true h) (Ev.yes (by rw [ba_size]; omega) ?_)
    have e8 : (ba p).extract 8 (ba p).size = ba (p.drop 8) := by
      apply ba_ext; rw [Lib.extract_data, ba_toL, ba_size, ba_toL, List.take_of_length_le (by rw [List.length_drop]; omega)]
    rw [e8]
    refine Ev.bind (number_ba _) ?_
    by_cases g : (numO (p.drop 8)).2 = true
    · have : u2 p c = (c.1, c.2.1, (numO (p.drop 8)).1, c.2.2.2) := by unfold u2; rw [e]; exact if_pos ⟨rfl, g⟩
      rw [this]; exact Ev.yes g (part_2 p (c.1, c.2.1, (numO (p.drop 8)).1, c.2.2.2))
    · have : u2 p c = c := by unfold u2; rw [e]; exact if_neg (fun h => g h.2)
      rw [this]; exact Ev.no g (part_2 p c)
  · have : u2 p c = c := if_neg (begins_no h)
    rw [this]
    exact Ev.no (fun q => h (of_decide_eq_true q)) (part_2 p c)
theorem part_0 (p : List UInt8) (c : C4) (b : Bool) (hb : b = true ↔ (p = [110, 111, 45, 115, 116, 111, 114, 101] ∨ p = [112, 114, 105, 118, 97, 116, 101])) : Ev (fun k => spec_l10Part.j0 k (ba p) (ba p) b c.1 c.2.1 c.2.2.1 c.2.2.2) (upd p c) := by
  refine Ev.succ ?_
  simp only [spec_l10Part.j0, ba_list]
  unfold upd
  by_cases h : b = true
  · have : u1 p c = (true, c.2.1, c.2.2.1, c.2.2.2) := if_pos (hb.1 h)
    rw [this]; exact Ev.yes h (part_1 p (true, c.2.1, c.2.2.1, c.2.2.2))
  · refine Ev.no h ?_
    by_cases g : p = [110, 111, 45, 99, 97, 99, 104, 101]
    · have : u1 p c = (c.1, true, c.2.2.1, c.2.2.2) := by unfold u1; rw [if_neg (fun q => h (hb.2 q)), if_pos g]
      rw [this]; exact Ev.yes g (part_1 p (c.1, true, c.2.2.1, c.2.2.2))
    · have : u1 p c = c := by unfold u1; rw [if_neg (fun q => h (hb.2 q)), if_neg g]
      rw [this]; exact Ev.no g (part_1 p c)
theorem part_ev (t : List UInt8) (ht : t.length ≤ 1048576) (c : C4) : Ev (fun k => spec_l10Part.f k c.1 c.2.1 c.2.2.1 c.2.2.2 (ba t)) (upd (partP t) c) := by
  simp only [spec_l10Part.f]
  have h1 := trimS_ev (ba t) (by rw [ba_size]; omega)
  rw [ba_toL] at h1
  have hl := trim_len t
  refine Ev.bind h1 (Ev.via (a := ba (partP t)) (by unfold spec_l09Low.f; rw [if_pos (by rw [ba_size]; omega), low_ba]; rfl) ?_)
  rw [ba_list]
  by_cases c1 : partP t = [110, 111, 45, 115, 116, 111, 114, 101]
  · exact Ev.yes c1 (part_0 _ c _ (by simp [c1]))
  · exact Ev.no c1 (part_0 _ c _ (by simp [c1]))
def foldC (l : List (List UInt8)) (c : C4) : C4 := l.foldl (fun c t => upd (partP t) c) c
def spA : List UInt8 → List UInt8 → List (List UInt8)
  | u, [] => [u]
  | u, b :: t => if b = 44 then u :: spA [] t else spA (u ++ [b]) t
def prep (u : List UInt8) : List (List UInt8) → List (List UInt8)
  | [] => [u]
  | h :: r => (u ++ h) :: r
theorem splitK_ne (n : Nat) (t : List UInt8) : Lib.splitK [44] 0 n t ≠ [] := by
  cases n with
  | zero => simp [Lib.splitK]
  | succ n => rw [Lib.splitK]; split <;> simp
theorem prep_nil {l : List (List UInt8)} (h : l ≠ []) : prep [] l = l := by
  cases l with
  | nil => exact absurd rfl h
  | cons a l => rfl
theorem prep_prep (u v : List UInt8) (l : List (List UInt8)) (h : l ≠ []) : prep u (prep v l) = prep (u ++ v) l := by
  cases l with
  | nil => exact absurd rfl h
  | cons a l => simp [prep]
theorem spA_split (t : List UInt8) : ∀ u, spA u t = prep u (Lib.splitK [44] 0 (Lib.count t [44]) t) := by
  induction t with
  | nil =>
    intro u
    rw [Lib.count_miss (by simp [Lib.index])]
    simp [spA, prep, Lib.splitK]
  | cons b t ih =>
    intro u
    rw [spA]
    by_cases c : b = 44
    · subst c
      rw [if_pos rfl, ih, prep_nil (splitK_ne _ _), Lib.count_cons_eq, Nat.add_comm 1, Lib.splitK]
      have hix : Lib.index ((44 : UInt8) :: t) [44] = 0 := by rw [Lib.index]; simp [List.isPrefixOf]
      rw [hix, if_neg (by decide)]
      simp [prep]
    · rw [if_neg c, ih, Lib.count_cons_ne b 44 t c, ← prep_prep u [b] _ (splitK_ne _ _)]
      congr 1
      have hp : ([44] : List UInt8).isPrefixOf (b :: t) = false := by simp [List.isPrefixOf, Ne.symm c]
      have hix : Lib.index (b :: t) [44] = if Lib.index t [44] == -1 then -1 else Lib.index t [44] + 1 := by rw [Lib.index, hp]; simp
      cases hn : Lib.count t [44] with
      | zero => simp [Lib.splitK, prep]
      | succ n =>
        have hge := Lib.index_ge t [44]
        by_cases hm : Lib.index t [44] = -1
        · rw [Lib.count_miss hm] at hn; cases hn
        · have e1 : (Lib.index t [44] == -1) = false := by simpa using hm
          rw [Lib.splitK, Lib.splitK, hix, e1]
          simp only [Bool.false_eq_true, if_false]
          have e2 : (Lib.index t [44] + 1 == -1) = false := by rw [beq_eq_false_iff_ne]; omega
          rw [e2]
          simp only [Bool.false_eq_true, if_false, Nat.add_zero, prep]
          rw [show (Lib.index t [44] + 1).toNat = (Lib.index t [44]).toNat + 1 by omega, List.take_succ_cons, show (Lib.index t [44]).toNat + 1 + ([44] : List UInt8).length = (Lib.index t [44]).toNat + ([44] : List UInt8).length + 1 by omega, List.drop_succ_cons]
          rfl
theorem split_ev (s : ByteArray) (hs : s.size ≤ 1048576) : strings_Split.f s (⟨#[44]⟩ : ByteArray) = some ((spA [] s.data.toList).map ba) := by
  unfold strings_Split.f
  have hc := Lib.countB_le (⟨#[44]⟩ : ByteArray) (by decide) s.size s (Nat.le_refl _)
  rw [if_pos ⟨by omega, by decide, by unfold maxLen; omega⟩]
  congr 1
  have h1 := Lib.splitB_data (⟨#[44]⟩ : ByteArray) 0 (Lib.countB s ⟨#[44]⟩) s
  have h2 := spA_split s.data.toList []
  rw [prep_nil (splitK_ne _ _)] at h2
  rw [h2]
  have e : Lib.countB s (⟨#[44]⟩ : ByteArray) = Lib.count s.data.toList [44] := rfl
  rw [e] at h1 ⊢
  have h3 : (Lib.splitB (⟨#[44]⟩ : ByteArray) 0 (Lib.count s.data.toList [44]) s).map (fun x => ba x.data.toList) = (Lib.splitK [44] 0 (Lib.count s.data.toList [44]) s.data.toList).map ba := by
    have := congrArg (List.map ba) h1
    rw [List.map_map] at this
    exact this
  rw [← h3]
  conv => lhs; rw [← List.map_id (Lib.splitB _ _ _ _)]
  exact List.map_congr_left fun x _ => (ba_of x).symm
theorem spA_mem (t : List UInt8) : ∀ u x, x ∈ spA u t → x.length ≤ u.length + t.length := by
  induction t with
  | nil => intro u x h; rw [spA, List.mem_singleton] at h; subst h; simp
  | cons b t ih =>
    intro u x h
    rw [spA] at h
    split at h
    · rcases List.mem_cons.1 h with rfl | h
      · simp
      · have := ih _ _ h; simp at this ⊢; omega
    · have := ih _ _ h; simp at this ⊢; omega
theorem spA_len (t : List UInt8) : ∀ u, (spA u t).length ≤ t.length + 1 := by
  induction t with
  | nil => intro u; simp [spA]
  | cons b t ih =>
    intro u
    rw [spA]
    split
    · have := ih []; simp; omega
    · have := ih (u ++ [b]); simp; omega
theorem ctl_spec_l (s : ByteArray) (hs : s.size ≤ 1048576) (d : Nat) : ∀ (i at_ : Nat) (c : C4), at_ ≤ i → i ≤ s.size → s.size - i = d → Ev (fun k => spec_ControlOf.l0 k s (at_ : Int) (i : Int) c.1 c.2.1 c.2.2.1 c.2.2.2) (foldC (spA ((s.data.toList.drop at_).take (i - at_)) (s.data.toList.drop i)) c) := by
  induction d with
  | zero =>
    intro i at_ c h0 hi hd
    obtain rfl : i = s.size := by omega
    refine Ev.succ ?_
    simp only [spec_ControlOf.l0]
    rw [show s.data.toList.drop s.size = [] from List.drop_eq_nil_of_le (by rw [sizeL]; omega), spA]
    have e := ext_ba s at_ s.size
    have hp := part_ev ((s.data.toList.drop at_).take (s.size - at_)) (by rw [List.length_take, List.length_drop, sizeL]; omega) c
    rw [← e] at hp
    refine Ev.yes (by omega) (Ev.yes trivial (Ev.yes (by omega) (Ev.yes (by omega) (Ev.yes (by omega) (Ev.bind (by simp only [Int.toNat_natCast]; exact hp) ?_)))))
    refine Ev.succ ?_
    simp only [spec_ControlOf.l0]
    rw [w64 (n := (s.size : Int) + 1) (by omega) (by omega)]
    exact Ev.no (by omega) (Ev.now _)
  | succ d ih =>
    intro i at_ c h0 hi hd
    have hlt : i < s.size := by omega
    refine Ev.succ ?_
    simp only [spec_ControlOf.l0]
    rw [wnat i s.size hlt (by omega), drop_get s.data.toList i (by rw [sizeL]; exact hlt), bt_get s i hlt, spA]
    have hz := ih (i + 1) at_ c (by omega) (by omega) (by omega)
    have hz2 := fun c' => ih (i + 1) (i + 1) c' (by omega) (by omega) (by omega)
    have ht : (s.data.toList.drop at_).take (i + 1 - at_) = (s.data.toList.drop at_).take (i - at_) ++ [s.data.toList[i]'(by rw [sizeL]; exact hlt)] := by
      rw [show i + 1 - at_ = (i - at_) + 1 by omega, List.take_succ_eq_append_getElem (by rw [List.length_drop, sizeL]; omega)]
      congr 2
      rw [List.getElem_drop]
      congr 1; omega
    rw [ht] at hz
    have e := ext_ba s at_ i
    have hp := part_ev ((s.data.toList.drop at_).take (i - at_)) (by rw [List.length_take, List.length_drop, sizeL]; omega) c
    rw [← e] at hp
    generalize s.data.toList[i]'(by rw [sizeL]; exact hlt) = b at *
    have b44 : ((b.toNat : Int) = 44) ↔ b = 44 := ⟨fun h => UInt8.toNat_inj.1 (by show b.toNat = 44; omega), fun h => by rw [h]; rfl⟩
    refine Ev.yes (by omega) (Ev.no (by omega) (Ev.yes (by omega) (Ev.yes (by omega) ?_)))
    by_cases q : b = 44
    · rw [if_pos q]
      refine Ev.yes (b44.2 q) (Ev.yes (by omega) (Ev.yes (by omega) (Ev.yes (by omega) (Ev.bind (by simp only [Int.toNat_natCast]; exact hp) ?_))))
      have := hz2 (upd (partP ((s.data.toList.drop at_).take (i - at_))) c)
      rw [Nat.sub_self, List.take_zero] at this
      exact this
    · rw [if_neg q]
      exact Ev.no (fun h => q (b44.1 h)) hz
theorem ctl_spec (s : ByteArray) (hs : s.size ≤ 1048576) : Ev (fun k => spec_ControlOf.f k s) (foldC (spA [] s.data.toList) (false, false, -1, -1)) := by
  simp only [spec_ControlOf.f]
  have := ctl_spec_l s hs s.size 0 0 (false, false, -1, -1) (by omega) (by omega) (by omega)
  rw [List.drop_zero, Nat.sub_zero, List.take_zero] at this
  exact this
theorem rdO_get (l : List ByteArray) (i : Nat) (h : i < l.length) : rdOf ByteArray.empty l (i : Int) = l[i] := by
  unfold rdOf
  rw [Int.toNat_natCast, List.getD_eq_getElem?_getD, List.getElem?_eq_getElem h, Option.getD_some]
theorem ctl_impl_l (l : List (List UInt8)) (hl : l.length ≤ 4194304) (hm : ∀ x ∈ l, x.length ≤ 1048576) (d : Nat) : ∀ (i : Nat) (c : C4), i ≤ l.length → l.length - i = d → Ev (fun k => impl_ControlOf.l0 k (l.map ba) (l.length : Int) (i : Int) c.1 c.2.1 c.2.2.1 c.2.2.2) (foldC (l.drop i) c) := by
  induction d with
  | zero =>
    intro i c hi hd
    refine Ev.succ ?_
    simp only [impl_ControlOf.l0]
    rw [show l.drop i = [] from List.drop_eq_nil_of_le (by omega)]
    exact Ev.no (by omega) (Ev.now _)
  | succ d ih =>
    intro i c hi hd
    have hlt : i < l.length := by omega
    have hx := hm _ (List.getElem_mem hlt)
    have ih' := fun c' => ih (i + 1) c' (by omega) (by omega)
    refine Ev.succ ?_
    simp only [impl_ControlOf.l0]
    have hg := rdO_get (l.map ba) i (by simpa using hlt)
    rw [List.getElem_map] at hg
    rw [hg, drop_get l i hlt]
    generalize l[i] = t at hx ⊢
    have htl := trim_len t
    have e1 : strings_Trim.f (ba t) (⟨#[32]⟩ : ByteArray) = some (ba (Lib.trimB t 32)) := by
      unfold strings_Trim.f; rw [if_pos ⟨rfl, by rw [ba_size]; omega⟩, ba_toL]; rfl
    have e2 : impl_lower.f (ba (Lib.trimB t 32)) = some (ba (partP t)) := by
      unfold impl_lower.f; rw [if_pos (by rw [ba_size]; omega), low_ba]; rfl
    have hpl : (partP t).length ≤ 1048576 := by unfold partP; rw [List.length_map]; omega
    refine Ev.yes (by omega) (Ev.yes (by omega) (Ev.yes (by rw [List.length_map]; omega) (Ev.via e1 (Ev.via e2 ?_))))
    rw [ba_list]
    show Ev _ (foldC (l.drop (i + 1)) (upd (partP t) c))
    generalize partP t = p at hpl ⊢
    have hc := @ct_len [61] p
    have j2 : ∀ c' : C4, Ev (fun k => impl_ControlOf.j2 k (ba p) (l.map ba) (l.length : Int) (i : Int) c'.1 c'.2.1 c'.2.2.1 c'.2.2.2) (foldC (l.drop (i + 1)) (u3 p (u2 p c'))) := by
      intro c'
      refine Ev.succ ?_
      simp only [impl_ControlOf.j2]
      have e3 := cut_ev (ba p) (⟨#[61]⟩ : ByteArray) (by simp) (by rw [ba_size]; omega)
      rw [ba_toL] at e3
      refine Ev.via e3 (Ev.bind (figures_ba (ct [61] p).2.1 (by omega)) ?_)
      have j3 : ∀ b : Bool, b = decide ((ct [61] p).1 = nmAge ∧ (numO (ct [61] p).2.1).2 = true) → Ev (fun k => impl_ControlOf.j3 k (ba (ct [61] p).1) (numO (ct [61] p).2.1).1 (numO (ct [61] p).2.1).2 (l.map ba) (l.length : Int) (i : Int) b c'.1 c'.2.1 c'.2.2.1 c'.2.2.2) (foldC (l.drop (i + 1)) (u3 p (u2 p c'))) := by
        rintro b rfl
        refine Ev.succ ?_
        simp only [impl_ControlOf.j3, ba_list]
        rw [wnat i l.length hlt (by omega)]
        by_cases g2 : (numO (ct [61] p).2.1).2 = true
        · by_cases g1 : (ct [61] p).1 = nmAge
          · have v2 : u2 p c' = (c'.1, c'.2.1, (numO (ct [61] p).2.1).1, c'.2.2.2) := if_pos ⟨g1, g2⟩
            have g3 : ¬ (ct [61] p).1 = nmSh := by rw [g1]; decide
            have v3 : u3 p (u2 p c') = u2 p c' := if_neg (fun h => g3 h.1)
            rw [v3, v2]
            exact Ev.yes (decide_eq_true ⟨g1, g2⟩) (Ev.yes g2 (Ev.no g3 (ih' (c'.1, c'.2.1, (numO (ct [61] p).2.1).1, c'.2.2.2))))
          · have v2 : u2 p c' = c' := if_neg (fun h => g1 h.1)
            rw [v2]
            refine Ev.no (by simp [g1]) (Ev.yes g2 ?_)
            by_cases g3 : (ct [61] p).1 = nmSh
            · have v3 : u3 p c' = (c'.1, c'.2.1, c'.2.2.1, (numO (ct [61] p).2.1).1) := if_pos ⟨g3, g2⟩
              rw [v3]; exact Ev.yes g3 (ih' (c'.1, c'.2.1, c'.2.2.1, (numO (ct [61] p).2.1).1))
            · have v3 : u3 p c' = c' := if_neg (fun h => g3 h.1)
              rw [v3]; exact Ev.no g3 (ih' _)
        · have v2 : u2 p c' = c' := if_neg (fun h => g2 h.2)
          have v3 : u3 p c' = c' := if_neg (fun h => g2 h.2)
          rw [v2, v3]
          exact Ev.no (by simp [g2]) (Ev.no g2 (ih' _))
      rw [ba_list]
      by_cases g2 : (numO (ct [61] p).2.1).2 = true
      · exact Ev.yes g2 (j3 _ (by rw [Bool.eq_iff_iff]; simp [g2, nmAge]))
      · exact Ev.no g2 (j3 _ (by simp [g2]))
    have j1 : ∀ b : Bool, (b = true ↔ (p = [110, 111, 45, 115, 116, 111, 114, 101] ∨ p = [112, 114, 105, 118, 97, 116, 101])) → Ev (fun k => impl_ControlOf.j1 k (ba p) (l.map ba) (l.length : Int) (i : Int) (ba p) b c.1 c.2.1 c.2.2.1 c.2.2.2) (foldC (l.drop (i + 1)) (upd p c)) := by
      intro b hb
      refine Ev.succ ?_
      simp only [impl_ControlOf.j1, ba_list]
      unfold upd
      by_cases h : b = true
      · have v1 : u1 p c = (true, c.2.1, c.2.2.1, c.2.2.2) := if_pos (hb.1 h)
        rw [v1]; exact Ev.yes h (j2 (true, c.2.1, c.2.2.1, c.2.2.2))
      · refine Ev.no h ?_
        by_cases g : p = [110, 111, 45, 99, 97, 99, 104, 101]
        · have v1 : u1 p c = (c.1, true, c.2.2.1, c.2.2.2) := by unfold u1; rw [if_neg (fun q => h (hb.2 q)), if_pos g]
          rw [v1]; exact Ev.yes g (j2 (c.1, true, c.2.2.1, c.2.2.2))
        · have v1 : u1 p c = c := by unfold u1; rw [if_neg (fun q => h (hb.2 q)), if_neg g]
          rw [v1]; exact Ev.no g (j2 c)
    by_cases c1 : p = [110, 111, 45, 115, 116, 111, 114, 101]
    · exact Ev.yes c1 (j1 _ (by simp [c1]))
    · exact Ev.no c1 (j1 _ (by simp [c1]))
theorem ctl_impl (s : ByteArray) (hs : s.size ≤ 1048576) : Ev (fun k => impl_ControlOf.f k s) (foldC (spA [] s.data.toList) (false, false, -1, -1)) := by
  simp only [impl_ControlOf.f]
  refine Ev.via (split_ev s hs) ?_
  have hl := spA_len s.data.toList []
  have hL := sizeL s
  have := ctl_impl_l (spA [] s.data.toList) (by omega) (fun x hx => by have := spA_mem _ _ _ hx; simp at this; omega) _ 0 (false, false, -1, -1) (by omega) rfl
  rw [List.drop_zero] at this
  rw [List.length_map]
  exact this
end Go.Proofs.YthjigecaojaalaaDoor.Q
namespace Go.Proofs.YthjigecaojaalaaDoor.Q
open Go.RowKit Go.Proofs.YthjigecaojaalaaDoorW.PrintWords Go.Proofs.YthjigecaojaalaaDoorW.PrintLast Go.Proofs.YthjigecaojaalaaDoorW.PrintMore
theorem pureControlOf (s : ByteArray) (_ : s.size ≤ maxLen) : ∃ k, laws_FnExactControlOf.f k s = some true := by
  refine Ev.rounds (g := fun k => laws_FnExactControlOf.f k s) ?_
  simp only [laws_FnExactControlOf.f]
  by_cases c : (s.size : Int) > 1048576
  · exact Ev.yes c (Ev.now _)
  refine Ev.no c (Ev.bind (ctl_spec s (by omega)) (Ev.bind (ctl_impl s (by omega)) ?_))
  generalize foldC (spA [] s.data.toList) (false, false, -1, -1) = c4
  refine Ev.via (a := true) ?_ (Ev.yes rfl (Ev.now _))
  unfold laws_eqControl.f
  simp
end Go.Proofs.YthjigecaojaalaaDoor.Q
