import Derived.Test.YthjigecaojaalaaDoorAwWords
import Derived.Lib.Strings
import Derived.Lib.ItoaNum
import Derived.Test.YthjigecaojaalaaDoorAwG60
import Derived.Test.YthjigecaojaalaaDoorAwG43
import Derived.Test.YthjigecaojaalaaDoorAwG22
import Derived.Test.YthjigecaojaalaaDoorAwG55
import Derived.Test.YthjigecaojaalaaDoorAwG29
import Derived.Test.YthjigecaojaalaaDoorAwG30
import Derived.Test.YthjigecaojaalaaDoorAwG35
import Derived.Test.YthjigecaojaalaaDoorAwG28
import Derived.Lib.IndexAny
import Derived.Test.YthjigecaojaalaaDoorAwG82
import Derived.Test.YthjigecaojaalaaDoorAwG64
import Derived.Test.YthjigecaojaalaaDoorAwG14
import Derived.Test.YthjigecaojaalaaDoorAwG44
import Derived.Test.YthjigecaojaalaaDoorAwG17
import Derived.Test.YthjigecaojaalaaDoorAwG34
import Derived.Lib.Join
import Derived.Test.YthjigecaojaalaaDoorAwG8
import Derived.Test.YthjigecaojaalaaDoorAwG16
import Derived.Test.YthjigecaojaalaaDoorAwG46
namespace Go.Proofs.YthjigecaojaalaaDoor.Q
open Go.RowKit Go.Proofs.YthjigecaojaalaaDoorW.PrintWords Go.Proofs.YthjigecaojaalaaDoorW.PrintLast Go.Proofs.YthjigecaojaalaaDoorW.PrintMore
/-- With enough rounds g tells something of which P holds. -/
def EvP {α : Type} (g : Nat → Option α) (P : α → Prop) : Prop := ∃ r, Ev g r ∧ P r
theorem Ev.succ {α : Type} {g : Nat → Option α} {r : α} (h : Ev (fun k => g (k + 1)) r) : Ev g r := Ev.step (fun _ => rfl) h
theorem Ev.yes {α : Type} {f g : Nat → Option α} {r : α} {c : Prop} [Decidable c] (hc : c) (h : Ev f r) : Ev (fun k => if c then f k else g k) r := Ev.congr (fun _ => if_pos hc) h
theorem Ev.no {α : Type} {f g : Nat → Option α} {r : α} {c : Prop} [Decidable c] (hc : ¬ c) (h : Ev g r) : Ev (fun k => if c then f k else g k) r := Ev.congr (fun _ => if_neg hc) h
theorem Ev.via {α β : Type} {g : Option α} {f : Nat → α → Option β} {a : α} {r : β} (h : g = some a) (k : Ev (fun n => f n a) r) : Ev (fun n => g.bind (f n)) r := Ev.congr (fun _ => by rw [h]; rfl) k
theorem Ev.const {α : Type} {g : Option α} {a : α} (h : g = some a) : Ev (fun _ => g) a := ⟨0, fun _ _ => h⟩
theorem EvP.bind {α β : Type} {g : Nat → Option α} {f : Nat → α → Option β} {P : α → Prop} {Q : β → Prop} (h : EvP g P) (k : ∀ a, P a → EvP (fun n => f n a) Q) : EvP (fun n => (g n).bind (f n)) Q := by
  obtain ⟨a, ha, hp⟩ := h
  obtain ⟨r, hr, hq⟩ := k a hp
  exact ⟨r, Ev.bind ha hr, hq⟩
theorem EvP.ite {α : Type} {f g : Nat → Option α} {P : α → Prop} {c : Prop} [Decidable c] (h1 : c → EvP f P) (h2 : ¬ c → EvP g P) : EvP (fun k => if c then f k else g k) P := by
  by_cases hc : c
  · obtain ⟨r, hr, hp⟩ := h1 hc; exact ⟨r, Ev.yes hc hr, hp⟩
  · obtain ⟨r, hr, hp⟩ := h2 hc; exact ⟨r, Ev.no hc hr, hp⟩
theorem EvP.yes {α : Type} {f g : Nat → Option α} {P : α → Prop} {c : Prop} [Decidable c] (hc : c) (h : EvP f P) : EvP (fun k => if c then f k else g k) P := EvP.ite (fun _ => h) (fun hn => absurd hc hn)
theorem EvP.no {α : Type} {f g : Nat → Option α} {P : α → Prop} {c : Prop} [Decidable c] (hc : ¬ c) (h : EvP g P) : EvP (fun k => if c then f k else g k) P := EvP.ite (fun hn => absurd hn hc) (fun _ => h)
theorem EvP.ret {α : Type} {a : α} {P : α → Prop} (h : P a) : EvP (fun _ => some a) P := ⟨a, Ev.now a, h⟩
theorem EvP.const {α : Type} {g : Option α} {a : α} {P : α → Prop} (h : g = some a) (hp : P a) : EvP (fun _ => g) P := ⟨a, Ev.const h, hp⟩
theorem EvP.succ {α : Type} {g : Nat → Option α} {P : α → Prop} (h : EvP (fun k => g (k + 1)) P) : EvP g P := by
  obtain ⟨r, hr, hp⟩ := h
  exact ⟨r, Ev.succ hr, hp⟩
theorem EvP.imp {α : Type} {g : Nat → Option α} {P Q : α → Prop} (h : EvP g P) (k : ∀ r, P r → Q r) : EvP g Q := by
  obtain ⟨r, hr, hp⟩ := h
  exact ⟨r, hr, k r hp⟩
theorem EvP.is {α : Type} {g : Nat → Option α} {r : α} (h : EvP g (fun x => x = r)) : Ev g r := by
  obtain ⟨_, hr, rfl⟩ := h
  exact hr
end Go.Proofs.YthjigecaojaalaaDoor.Q
namespace Go.Proofs.YthjigecaojaalaaDoor.Q
open Go.RowKit Go.Proofs.YthjigecaojaalaaDoorW.PrintWords Go.Proofs.YthjigecaojaalaaDoorW.PrintLast Go.Proofs.YthjigecaojaalaaDoorW.PrintMore
theorem w64 {n : Int} (h0 : -9223372036854775808 ≤ n) (h1 : n < 9223372036854775808) : wrap64 n = n := by unfold wrap64; omega
theorem wnat (i n : Nat) (h : i < n) (hn : n ≤ 9223372036854775807) : wrap64 ((i : Int) + 1) = ((i + 1 : Nat) : Int) := by rw [w64 (by omega) (by omega)]; rfl
theorem rd_get (l : List Int) (i : Nat) (h : i < l.length) : rd l i = l[i] := by simp [rd, h]
theorem drop_get {α : Type} (l : List α) (i : Nat) (h : i < l.length) : l.drop i = l[i] :: l.drop (i + 1) := List.drop_eq_getElem_cons h
theorem take_set {α : Type} (x : List α) (i : Nat) (v : α) (h : i < x.length) : (x.set i v).take (i + 1) = x.take i ++ [v] := by
  have h2 : i < (x.set i v).length := by rw [List.length_set]; exact h
  rw [List.take_succ_eq_append_getElem h2, List.take_set, List.set_eq_of_length_le (by simp; omega)]
  simp
theorem toL (s : ByteArray) : s.toList = s.data.toList := Lib.toList_data s
theorem sizeL (s : ByteArray) : s.data.toList.length = s.size := (Lib.size_eq s).symm
theorem ba_ext {s t : ByteArray} (h : s.data.toList = t.data.toList) : s = t := ByteArray.ext (Array.toList_inj.1 h)
theorem ext_size (s : ByteArray) (a b : Nat) (h : b ≤ s.size) : (s.extract a b).size = b - a := by
  rw [← sizeL, Lib.extract_data, List.length_take, List.length_drop, sizeL]; omega
theorem bt_get (s : ByteArray) (i : Nat) (h : i < s.size) : bt s (i : Int) = ((s.data.toList[i]'(by rw [sizeL]; exact h)).toNat : Int) := by simp [bt, h]; rfl
theorem bt_rng (s : ByteArray) (i : Int) : 0 ≤ bt s i ∧ bt s i ≤ 255 := bt_range s i
/-- Are all bytes in lo .. hi. -/
def inB (lo hi : Int) (l : List UInt8) : Bool := l.all fun b => decide (lo ≤ (b.toNat : Int) ∧ (b.toNat : Int) ≤ hi)
end Go.Proofs.YthjigecaojaalaaDoor.Q
namespace Go.Proofs.YthjigecaojaalaaDoor.Q
open Go.RowKit Go.Proofs.YthjigecaojaalaaDoorW.PrintWords Go.Proofs.YthjigecaojaalaaDoorW.PrintLast Go.Proofs.YthjigecaojaalaaDoorW.PrintMore
def dd (n : Nat) : List UInt8 := if n = 0 then [] else Lib.decDigits n
theorem dd_pos {n : Nat} (h : n ≠ 0) : dd n = dd (n / 10) ++ [UInt8.ofNat (48 + n % 10)] := by
  unfold dd
  rw [if_neg h]
  by_cases c : n < 10
  · rw [if_pos (by omega), Lib.decDigits_one c, List.nil_append, Nat.mod_eq_of_lt c]
  · rw [if_neg (by omega), Lib.decDigits, dif_neg c]
theorem dd_len (n : Nat) : (dd n).length ≤ n := by
  induction n using Nat.strongRecOn with
  | _ n ih =>
    by_cases h : n = 0
    · subst h; simp [dd]
    · rw [dd_pos h, List.length_append, List.length_singleton]
      have := ih (n / 10) (by omega)
      omega
theorem dd_app (x : List UInt8) (c : UInt8) (acc : ByteArray) : (⟨(x ++ [c]).toArray⟩ : ByteArray) ++ acc = (⟨x.toArray⟩ : ByteArray) ++ ((⟨#[c]⟩ : ByteArray) ++ acc) := by
  apply ba_ext
  simp
theorem figure_eq (d : Int) (h0 : 0 ≤ d) (h1 : d < 10) : spec_l01Figure.f d = some (48 + d) := by
  unfold spec_l01Figure.f
  rw [if_pos h1, w64 (by omega) (by omega), Int.emod_eq_of_lt (by omega) (by omega)]
theorem dec_spec_l (n : Nat) : ∀ (acc : ByteArray), n ≤ 4611686018427387904 → acc.size + n ≤ 4611686018427387904 → Ev (fun k => spec_Decimal.l0 k (n : Int) false acc) ((⟨(dd n).toArray⟩ : ByteArray) ++ acc) := by
  induction n using Nat.strongRecOn with
  | _ n ih =>
    intro acc hn hs
    refine Ev.succ ?_
    simp only [spec_Decimal.l0]
    by_cases h : n = 0
    · subst h
      rw [show (⟨(dd 0).toArray⟩ : ByteArray) ++ acc = acc from by apply ba_ext; simp [dd]]
      exact Ev.yes rfl (Ev.no (by simp) (Ev.now _))
    · have hm : Int.tmod (n : Int) 10 = ((n % 10 : Nat) : Int) := by rw [Int.tmod_eq_emod_of_nonneg (by omega)]; rfl
      have hd : Int.tdiv (n : Int) 10 = ((n / 10 : Nat) : Int) := by rw [Int.tdiv_eq_ediv_of_nonneg (by omega)]; rfl
      rw [hm, hd, w64 (n := ((n / 10 : Nat) : Int)) (by omega) (by omega)]
      refine Ev.no (by omega) (Ev.no (by omega) (Ev.via (figure_eq _ (by omega) (by omega)) ?_))
      simp only [Option.bind_some]
      have e1 : strOfNums [48 + ((n % 10 : Nat) : Int)] = (⟨#[UInt8.ofNat (48 + n % 10)]⟩ : ByteArray) := by
        unfold strOfNums
        have : (48 + ((n % 10 : Nat) : Int)).toNat = 48 + n % 10 := by omega
        simp only [List.map_cons, List.map_nil, this]
      rw [e1, dd_pos h, dd_app]
      refine Ev.yes (by show 1 + acc.size ≤ _; omega) (ih (n / 10) (by omega) _ (by omega) (by rw [ByteArray.size_append]; show 1 + acc.size + n / 10 ≤ _; omega))
def decB (n : Nat) : ByteArray := ⟨(Lib.decDigits n).toArray⟩
theorem decB_size (n : Nat) : (decB n).size ≤ n + 1 := by
  unfold decB
  show (Lib.decDigits n).toArray.size ≤ n + 1
  rw [List.size_toArray]
  by_cases h : n = 0
  · subst h; rw [Lib.decDigits_one (by omega)]; simp
  · have := dd_len n
    unfold dd at this
    rw [if_neg h] at this
    omega
theorem dec_spec (n : Nat) (hn : n ≤ 4611686018427387904) : Ev (fun k => spec_Decimal.f k (n : Int)) (decB n) := by
  simp only [spec_Decimal.f]
  by_cases h : n = 0
  · subst h
    rw [show decB 0 = (⟨#[48]⟩ : ByteArray) from by unfold decB; rw [Lib.decDigits_one (by omega)]; rfl]
    exact Ev.yes rfl (Ev.now _)
  · refine Ev.no (by omega) ?_
    rw [decide_eq_false (show ¬ ((n : Int) < 0) by omega)]
    have := dec_spec_l n ⟨#[]⟩ hn (by show 0 + n ≤ _; omega)
    rw [show (⟨(dd n).toArray⟩ : ByteArray) ++ (⟨#[]⟩ : ByteArray) = decB n from by apply ba_ext; unfold decB dd; rw [if_neg h]; simp] at this
    exact this
theorem dec_impl (n : Nat) (hn : n ≤ 4611686018427387904) : impl_Decimal.f (n : Int) = some (decB n) := by
  unfold impl_Decimal.f strconv_Itoa.f
  rw [if_pos (by omega)]
  unfold Lib.itoa decB
  rw [if_neg (by omega), Int.toNat_natCast]
  rfl
end Go.Proofs.YthjigecaojaalaaDoor.Q
namespace Go.Proofs.YthjigecaojaalaaDoor.Q
open Go.RowKit Go.Proofs.YthjigecaojaalaaDoorW.PrintWords Go.Proofs.YthjigecaojaalaaDoorW.PrintLast Go.Proofs.YthjigecaojaalaaDoorW.PrintMore
theorem rdF_get (l : List S41) (i : Nat) (h : i < l.length) : rd_T41 l i = l[i] := by simp [rd_T41, h]
end Go.Proofs.YthjigecaojaalaaDoor.Q
namespace Go.Proofs.YthjigecaojaalaaDoor.Q
open Go.RowKit Go.Proofs.YthjigecaojaalaaDoorW.PrintWords Go.Proofs.YthjigecaojaalaaDoorW.PrintLast Go.Proofs.YthjigecaojaalaaDoorW.PrintMore
def fieldF (name : ByteArray) : List S41 → ByteArray × Bool
  | [] => ((⟨#[]⟩ : ByteArray), false)
  | f :: r => if f.f0.toList = name.toList then (f.f1, true) else fieldF name r
theorem fieldOf_spec_l (name a : ByteArray) (l : List S41) (hl : l.length ≤ 9223372036854775807) (d : Nat) : ∀ i : Nat, i ≤ l.length → l.length - i = d → Ev (fun k => spec_FieldOf.l0 k name (i : Int) a l) (fieldF name (l.drop i)) := by
  induction d with
  | zero => intro i hi hd; refine Ev.succ ?_; simp only [spec_FieldOf.l0]; rw [List.drop_eq_nil_of_le (by omega)]; exact Ev.no (by omega) (Ev.now _)
  | succ d ih =>
    intro i hi hd
    have hlt : i < l.length := by omega
    refine Ev.succ ?_
    simp only [spec_FieldOf.l0]
    rw [rdF_get l i hlt, wnat i _ hlt hl, drop_get l i hlt]
    refine Ev.yes (by omega) (Ev.yes (by omega) ?_)
    by_cases c : l[i].f0.toList = name.toList
    · rw [fieldF, if_pos c]; exact Ev.yes c (Ev.now _)
    · rw [fieldF, if_neg c]; exact Ev.no c (ih (i + 1) (by omega) (by omega))
theorem fieldOf_spec (a : ByteArray) (l : List S41) (name : ByteArray) (hl : l.length ≤ 9223372036854775807) : Ev (fun k => spec_FieldOf.f k a l name) (fieldF name l) := fieldOf_spec_l name a l hl l.length 0 (by omega) (by omega)
theorem fieldOf_impl_l (name : ByteArray) (l : List S41) (hl : l.length ≤ 9223372036854775807) (d : Nat) : ∀ i : Nat, i ≤ l.length → l.length - i = d → Ev (fun k => impl_FieldOf.l0 k name l (l.length : Int) (i : Int)) (fieldF name (l.drop i)) := by
  induction d with
  | zero => intro i hi hd; refine Ev.succ ?_; simp only [impl_FieldOf.l0]; rw [List.drop_eq_nil_of_le (by omega)]; exact Ev.no (by omega) (Ev.now _)
  | succ d ih =>
    intro i hi hd
    have hlt : i < l.length := by omega
    refine Ev.succ ?_
    simp only [impl_FieldOf.l0]
    rw [rdF_get l i hlt, wnat i _ hlt hl, drop_get l i hlt]
    refine Ev.yes (by omega) (Ev.yes (by omega) (Ev.yes (by omega) ?_))
    by_cases c : l[i].f0.toList = name.toList
    · rw [fieldF, if_pos c]; exact Ev.yes c (Ev.now _)
    · rw [fieldF, if_neg c]; exact Ev.no c (ih (i + 1) (by omega) (by omega))
theorem fieldOf_impl (a : ByteArray) (l : List S41) (name : ByteArray) (hl : l.length ≤ 9223372036854775807) : Ev (fun k => impl_FieldOf.f k a l name) (fieldF name l) := fieldOf_impl_l name l hl l.length 0 (by omega) (by omega)
end Go.Proofs.YthjigecaojaalaaDoor.Q
namespace Go.Proofs.YthjigecaojaalaaDoor.Q
open Go.RowKit Go.Proofs.YthjigecaojaalaaDoorW.PrintWords Go.Proofs.YthjigecaojaalaaDoorW.PrintLast Go.Proofs.YthjigecaojaalaaDoorW.PrintMore
theorem in_spec (a b c : Int) : spec_l01In.f a b c = some (decide (b ≤ a ∧ a ≤ c)) := by
  unfold spec_l01In.f
  by_cases h : a ≥ b
  · rw [if_pos h]; simp [show b ≤ a from h]
  · rw [if_neg h]; simp [show ¬ b ≤ a from h]
theorem in_impl (a b c : Int) : impl_within.f a b c = some (decide (b ≤ a ∧ a ≤ c)) := by
  unfold impl_within.f
  by_cases h : a ≥ b
  · rw [if_pos h]; simp [show b ≤ a from h]
  · rw [if_neg h]; simp [show ¬ b ≤ a from h]
end Go.Proofs.YthjigecaojaalaaDoor.Q
namespace Go.Proofs.YthjigecaojaalaaDoor.Q
open Go.RowKit Go.Proofs.YthjigecaojaalaaDoorW.PrintWords Go.Proofs.YthjigecaojaalaaDoorW.PrintLast Go.Proofs.YthjigecaojaalaaDoorW.PrintMore
theorem bytesIn_l (s : ByteArray) (lo hi : Int) (hs : s.size ≤ 9223372036854775807) (d : Nat) : ∀ i : Nat, i ≤ s.size → s.size - i = d → Ev (fun k => impl_bytesIn.l0 k s lo hi (s.size : Int) (i : Int)) (inB lo hi (s.data.toList.drop i)) := by
  induction d with
  | zero =>
    intro i hi_ hd
    refine Ev.succ ?_
    simp only [impl_bytesIn.l0]
    rw [List.drop_eq_nil_of_le (by rw [sizeL]; omega)]
    exact Ev.no (by omega) (Ev.now _)
  | succ d ih =>
    intro i hi_ hd
    have hlt : i < s.size := by omega
    have hb := bt_rng s i
    refine Ev.succ ?_
    simp only [impl_bytesIn.l0]
    rw [w64 (n := bt s i) (by omega) (by omega), wnat i _ hlt hs, drop_get _ i (by rw [sizeL]; exact hlt)]
    simp only [in_impl, Option.bind_some]
    refine Ev.yes (by omega) (Ev.yes (by omega) (Ev.yes (by omega) ?_))
    rw [bt_get s i hlt]
    by_cases c : lo ≤ ((s.data.toList[i]'(by rw [sizeL]; exact hlt)).toNat : Int) ∧ ((s.data.toList[i]'(by rw [sizeL]; exact hlt)).toNat : Int) ≤ hi
    · refine Ev.yes (decide_eq_true c) ?_
      rw [show inB lo hi (s.data.toList[i]'(by rw [sizeL]; exact hlt) :: s.data.toList.drop (i + 1)) = inB lo hi (s.data.toList.drop (i + 1)) from by simp only [inB, List.all_cons]; rw [decide_eq_true c, Bool.true_and]]
      exact ih (i + 1) (by omega) (by omega)
    · refine Ev.no (by simpa using c) ?_
      rw [show inB lo hi (s.data.toList[i]'(by rw [sizeL]; exact hlt) :: s.data.toList.drop (i + 1)) = false from by simp only [inB, List.all_cons]; rw [decide_eq_false c, Bool.false_and]]
      exact Ev.now _
theorem bytesIn_ev (s : ByteArray) (lo hi : Int) (hs : s.size ≤ 9223372036854775807) : Ev (fun k => impl_bytesIn.f k s lo hi) (inB lo hi s.data.toList) := bytesIn_l s lo hi hs s.size 0 (by omega) (by omega)
end Go.Proofs.YthjigecaojaalaaDoor.Q
namespace Go.Proofs.YthjigecaojaalaaDoor.Q
open Go.RowKit Go.Proofs.YthjigecaojaalaaDoorW.PrintWords Go.Proofs.YthjigecaojaalaaDoorW.PrintLast Go.Proofs.YthjigecaojaalaaDoorW.PrintMore
def nmB (l : List UInt8) : Bool := l.all fun b => decide ((b.toNat : Int) = 45 ∨ 97 ≤ (b.toNat : Int) ∧ (b.toNat : Int) ≤ 122)
theorem nmB_yes {b : UInt8} {l : List UInt8} (h : (b.toNat : Int) = 45 ∨ 97 ≤ (b.toNat : Int) ∧ (b.toNat : Int) ≤ 122) : nmB (b :: l) = nmB l := by simp only [nmB, List.all_cons]; rw [decide_eq_true h, Bool.true_and]
theorem nmB_no {b : UInt8} {l : List UInt8} (h : ¬ ((b.toNat : Int) = 45 ∨ 97 ≤ (b.toNat : Int) ∧ (b.toNat : Int) ≤ 122)) : nmB (b :: l) = false := by simp only [nmB, List.all_cons]; rw [decide_eq_false h, Bool.false_and]
theorem inB_yes {lo hi : Int} {b : UInt8} {l : List UInt8} (h : lo ≤ (b.toNat : Int) ∧ (b.toNat : Int) ≤ hi) : inB lo hi (b :: l) = inB lo hi l := by simp only [inB, List.all_cons]; rw [decide_eq_true h, Bool.true_and]
theorem inB_no {lo hi : Int} {b : UInt8} {l : List UInt8} (h : ¬ (lo ≤ (b.toNat : Int) ∧ (b.toNat : Int) ≤ hi)) : inB lo hi (b :: l) = false := by simp only [inB, List.all_cons]; rw [decide_eq_false h, Bool.false_and]
def nameB (s : ByteArray) : Bool := nmB s.data.toList && decide (1 ≤ (s.size : Int) ∧ (s.size : Int) ≤ 20)
theorem name_impl_l (s : ByteArray) (hs : s.size ≤ 9223372036854775806) (d : Nat) : ∀ i : Nat, i ≤ s.size → s.size - i = d → Ev (fun k => impl_isFieldName.l0 k s (s.size : Int) (i : Int)) (nmB (s.data.toList.drop i) && decide (1 ≤ (s.size : Int) ∧ (s.size : Int) ≤ 20)) := by
  induction d with
  | zero =>
    intro i hi hd
    refine Ev.succ ?_
    simp only [impl_isFieldName.l0]
    rw [List.drop_eq_nil_of_le (by rw [sizeL]; omega), show nmB [] = true from rfl, Bool.true_and]
    exact Ev.no (by omega) (Ev.via (in_impl _ _ _) (Ev.now _))
  | succ d ih =>
    intro i hi hd
    have hlt : i < s.size := by omega
    have hb := bt_rng s i
    refine Ev.succ ?_
    simp only [impl_isFieldName.l0]
    rw [w64 (n := bt s i) (by omega) (by omega), wnat i _ hlt (by omega), drop_get _ i (by rw [sizeL]; exact hlt), bt_get s i hlt]
    refine Ev.yes (by omega) (Ev.yes (by omega) (Ev.yes (by omega) ?_))
    have h := ih (i + 1) (by omega) (by omega)
    generalize s.data.toList[i]'(by rw [sizeL]; exact hlt) = b at *
    by_cases c : (b.toNat : Int) = 45
    · rw [nmB_yes (.inl c)]; exact Ev.yes c h
    · refine Ev.no c (Ev.via (in_impl _ _ _) ?_)
      by_cases c2 : 97 ≤ (b.toNat : Int) ∧ (b.toNat : Int) ≤ 122
      · rw [nmB_yes (.inr c2)]; exact Ev.yes (decide_eq_true c2) h
      · rw [nmB_no (by omega), Bool.false_and]; exact Ev.no (by rw [decide_eq_false c2]; simp) (Ev.now _)
theorem name_impl (s : ByteArray) (hs : s.size ≤ 9223372036854775806) : Ev (fun k => impl_isFieldName.f k s) (nameB s) := name_impl_l s hs s.size 0 (by omega) (by omega)
theorem name_spec_l (s : ByteArray) (hs : s.size ≤ 9223372036854775806) (d : Nat) : ∀ i : Nat, i ≤ s.size → s.size - i = d → Ev (fun k => spec_l09Name.l0 k s (i : Int)) (nmB (s.data.toList.drop i) && decide (1 ≤ (s.size : Int) ∧ (s.size : Int) ≤ 20)) := by
  induction d with
  | zero =>
    intro i hi hd
    refine Ev.succ ?_
    simp only [spec_l09Name.l0]
    rw [List.drop_eq_nil_of_le (by rw [sizeL]; omega), show nmB [] = true from rfl, Bool.true_and]
    exact Ev.no (by omega) (Ev.via (in_spec _ _ _) (Ev.now _))
  | succ d ih =>
    intro i hi hd
    have hlt : i < s.size := by omega
    refine Ev.succ ?_
    simp only [spec_l09Name.l0]
    rw [wnat i _ hlt (by omega), drop_get _ i (by rw [sizeL]; exact hlt), bt_get s i hlt]
    refine Ev.yes (by omega) (Ev.yes (by omega) ?_)
    have h := ih (i + 1) (by omega) (by omega)
    generalize s.data.toList[i]'(by rw [sizeL]; exact hlt) = b at *
    by_cases c : (b.toNat : Int) < 97
    · refine Ev.yes c ?_
      by_cases c1 : (b.toNat : Int) = 45
      · rw [nmB_yes (.inl c1)]; exact Ev.yes c1 h
      · rw [nmB_no (by omega), Bool.false_and]; exact Ev.no c1 (Ev.now _)
    · refine Ev.no c ?_
      by_cases c2 : (b.toNat : Int) > 122
      · rw [nmB_no (by omega), Bool.false_and]; exact Ev.yes c2 (Ev.no (by omega) (Ev.now _))
      · rw [nmB_yes (by omega)]; exact Ev.no c2 h
theorem name_spec (s : ByteArray) (hs : s.size ≤ 9223372036854775806) : Ev (fun k => spec_l09Name.f k s) (nameB s) := name_spec_l s hs s.size 0 (by omega) (by omega)
theorem plain_spec_l (s : ByteArray) (m : Int) (hs : s.size ≤ 9223372036854775806) (d : Nat) : ∀ i : Nat, i ≤ s.size → s.size - i = d → Ev (fun k => spec_l09Plain.l0 k s m (i : Int)) (inB 32 126 (s.data.toList.drop i) && decide ((s.size : Int) ≤ m)) := by
  induction d with
  | zero =>
    intro i hi hd
    refine Ev.succ ?_
    simp only [spec_l09Plain.l0]
    rw [List.drop_eq_nil_of_le (by rw [sizeL]; omega), show inB 32 126 [] = true from rfl, Bool.true_and]
    exact Ev.no (by omega) (Ev.now _)
  | succ d ih =>
    intro i hi hd
    have hlt : i < s.size := by omega
    refine Ev.succ ?_
    simp only [spec_l09Plain.l0]
    rw [wnat i _ hlt (by omega), drop_get _ i (by rw [sizeL]; exact hlt), bt_get s i hlt]
    refine Ev.yes (by omega) (Ev.yes (by omega) ?_)
    have h := ih (i + 1) (by omega) (by omega)
    generalize s.data.toList[i]'(by rw [sizeL]; exact hlt) = b at *
    by_cases c : (b.toNat : Int) < 32
    · rw [inB_no (by omega), Bool.false_and]; exact Ev.yes c (Ev.now _)
    · refine Ev.no c ?_
      by_cases c2 : (b.toNat : Int) > 126
      · rw [inB_no (by omega), Bool.false_and]; exact Ev.yes c2 (Ev.now _)
      · rw [inB_yes (by omega)]; exact Ev.no c2 h
theorem plain_spec (s : ByteArray) (m : Int) (hs : s.size ≤ 9223372036854775806) : Ev (fun k => spec_l09Plain.f k s m) (inB 32 126 s.data.toList && decide ((s.size : Int) ≤ m)) := plain_spec_l s m hs s.size 0 (by omega) (by omega)
theorem dw_head (m : List UInt8) (hm : 0 < m.length) : m.dropWhile (· == (32 : UInt8)) = m ↔ m[0] ≠ 32 := by
  cases m with
  | nil => simp at hm
  | cons a t =>
    by_cases c : a = 32
    · subst c
      refine ⟨fun h => ?_, fun h => absurd rfl h⟩
      have h2 := (List.dropWhile_sublist (l := t) (· == (32 : UInt8))).length_le
      have h3 : ((32 : UInt8) :: t).dropWhile (· == (32 : UInt8)) = t.dropWhile (· == (32 : UInt8)) := by simp
      rw [h3] at h
      rw [h, List.length_cons] at h2
      omega
    · refine ⟨fun _ => c, fun _ => ?_⟩
      simp [c]
theorem trim_same (l : List UInt8) (hn : 0 < l.length) : Lib.trimB l 32 = l ↔ (l[0] ≠ 32 ∧ l[l.length - 1] ≠ 32) := by
  have hr : l.reverse.dropWhile (· == (32 : UInt8)) = l.reverse ↔ l[l.length - 1] ≠ 32 := by
    rw [dw_head l.reverse (by simpa using hn)]
    simp
  unfold Lib.trimB Lib.trimLeftB Lib.trimRightB
  constructor
  · intro h
    have e1 := (List.dropWhile_sublist (l := (l.reverse.dropWhile (· == (32 : UInt8))).reverse) (· == (32 : UInt8))).length_le
    rw [h, List.length_reverse] at e1
    have e2 : l.reverse.dropWhile (· == (32 : UInt8)) = l.reverse := (List.dropWhile_sublist (l := l.reverse) (· == (32 : UInt8))).eq_of_length (by
      have e3 := (List.dropWhile_sublist (l := l.reverse) (· == (32 : UInt8))).length_le
      rw [List.length_reverse] at e3 ⊢
      omega)
    rw [e2, List.reverse_reverse] at h
    exact ⟨(dw_head l hn).1 h, hr.1 e2⟩
  · rintro ⟨h1, h2⟩
    rw [hr.2 h2, List.reverse_reverse]
    exact (dw_head l hn).2 h1
def edgeB (v : ByteArray) : Bool := decide (Lib.trimB v.data.toList 32 = v.data.toList)
theorem edge_nil (v : ByteArray) (h : (v.size : Int) = 0) : edgeB v = true := by
  have : v.data.toList = [] := List.eq_nil_of_length_eq_zero (by rw [sizeL]; omega)
  unfold edgeB
  rw [this]
  rfl
theorem b32 (b : UInt8) : (b.toNat : Int) = 32 ↔ b = 32 := by
  constructor
  · intro h
    exact UInt8.toNat_inj.1 (by show b.toNat = 32; omega)
  · rintro rfl; rfl
theorem edge_first (v : ByteArray) (h : 0 < v.size) (c : bt v 0 = 32) : edgeB v = false := by
  have e := bt_get v 0 h
  rw [show ((0 : Nat) : Int) = 0 from rfl, c] at e
  refine decide_eq_false fun hh => ?_
  exact ((trim_same v.data.toList (by rw [sizeL]; exact h)).1 hh).1 ((b32 _).1 e.symm)
theorem edge_last (v : ByteArray) (hs : v.size ≤ 9223372036854775806) (h : 0 < v.size) (c : ¬ bt v 0 = 32) : edgeB v = (bt v (wrap64 ((v.size : Int) - 1)) != 32) := by
  · have e := bt_get v 0 h
    have e2 := bt_get v (v.size - 1) (by omega)
    have hw : wrap64 ((v.size : Int) - 1) = ((v.size - 1 : Nat) : Int) := by rw [w64 (by omega) (by omega)]; omega
    rw [hw, e2]
    rw [show ((0 : Nat) : Int) = 0 from rfl] at e
    rw [e, b32] at c
    have hl : v.data.toList.length - 1 = v.size - 1 := by rw [sizeL]
    unfold edgeB
    have ht := trim_same v.data.toList (by rw [sizeL]; exact h)
    simp only [hl] at ht
    by_cases q : v.data.toList[v.size - 1]'(by rw [sizeL]; omega) = 32
    · rw [decide_eq_false (fun hh => (ht.1 hh).2 q), q]; rfl
    · rw [decide_eq_true (ht.2 ⟨c, q⟩)]
      exact (bne_iff_ne.2 (fun hh => q ((b32 _).1 hh))).symm
def fieldB (n v : ByteArray) : Bool := nameB n && (decide ((v.size : Int) ≤ 60) && (inB 32 126 v.data.toList && edgeB v))
theorem fieldOk_impl (n v : ByteArray) (hn : n.size ≤ 9223372036854775806) (hv : v.size ≤ 9223372036854775806) : Ev (fun k => impl_FieldOk.f k n v) (fieldB n v) := by
  simp only [impl_FieldOk.f]
  unfold fieldB
  refine Ev.bind (name_impl n hn) ?_
  by_cases c : nameB n = true
  · rw [c, Bool.true_and]
    refine Ev.yes rfl ?_
    by_cases c2 : (v.size : Int) ≤ 60
    · rw [decide_eq_true c2, Bool.true_and]
      refine Ev.yes c2 (Ev.bind (bytesIn_ev v 32 126 (by omega)) ?_)
      by_cases c3 : inB 32 126 v.data.toList = true
      · rw [c3, Bool.true_and]
        refine Ev.yes rfl (Ev.via (a := ⟨(Lib.trimB v.data.toList 32).toArray⟩) (by unfold strings_Trim.f; exact if_pos ⟨rfl, by omega⟩) ?_)
        have : ((⟨(Lib.trimB v.data.toList 32).toArray⟩ : ByteArray).toList == v.toList) = edgeB v := by
          rw [toL, toL]
          unfold edgeB
          show ((Lib.trimB v.data.toList 32) == v.data.toList) = _
          by_cases q : Lib.trimB v.data.toList 32 = v.data.toList
          · rw [decide_eq_true q]; exact beq_iff_eq.2 q
          · rw [decide_eq_false q]; exact beq_eq_false_iff_ne.2 q
        rw [this]
        exact Ev.now _
      · rw [Bool.eq_false_iff.2 c3, Bool.false_and]; exact Ev.no (by simp) (Ev.now _)
    · rw [decide_eq_false c2, Bool.false_and]; exact Ev.no c2 (Ev.now _)
  · rw [Bool.eq_false_iff.2 c, Bool.false_and]; exact Ev.no (by simp) (Ev.now _)
theorem fieldOk_spec (n v : ByteArray) (hn : n.size ≤ 9223372036854775806) (hv : v.size ≤ 9223372036854775806) : Ev (fun k => spec_FieldOk.f k n v) (fieldB n v) := by
  simp only [spec_FieldOk.f]
  unfold fieldB
  refine Ev.bind (name_spec n hn) ?_
  by_cases c : nameB n = true
  · rw [c, Bool.true_and]
    refine Ev.yes rfl (Ev.bind (plain_spec v 60 hv) ?_)
    by_cases c2 : (v.size : Int) ≤ 60
    · rw [decide_eq_true c2, Bool.true_and, Bool.and_true]
      by_cases c3 : inB 32 126 v.data.toList = true
      · rw [c3, Bool.true_and]
        refine Ev.yes rfl ?_
        by_cases q : (v.size : Int) = 0
        · rw [edge_nil v q]; exact Ev.yes q (Ev.now _)
        · refine Ev.no q (Ev.yes (by omega) ?_)
          by_cases q2 : bt v 0 = 32
          · rw [edge_first v (by omega) q2]; exact Ev.yes q2 (Ev.now _)
          · rw [edge_last v hv (by omega) q2]
            have hw : wrap64 ((v.size : Int) - 1) = (v.size : Int) - 1 := w64 (by omega) (by omega)
            rw [hw]
            exact Ev.no q2 (Ev.yes (by omega) (Ev.yes (by omega) (Ev.now _)))
      · rw [Bool.eq_false_iff.2 c3, Bool.false_and]; exact Ev.no (by simp) (Ev.now _)
    · rw [decide_eq_false c2, Bool.false_and, Bool.and_false]; exact Ev.no (by simp) (Ev.now _)
  · rw [Bool.eq_false_iff.2 c, Bool.false_and]; exact Ev.no (by simp) (Ev.now _)
end Go.Proofs.YthjigecaojaalaaDoor.Q
namespace Go.Proofs.YthjigecaojaalaaDoor.Q
open Go.RowKit Go.Proofs.YthjigecaojaalaaDoorW.PrintWords Go.Proofs.YthjigecaojaalaaDoorW.PrintLast Go.Proofs.YthjigecaojaalaaDoorW.PrintMore
def crlf : ByteArray := ⟨#[13, 10]⟩
def lineF (f : S41) : ByteArray := f.f0 ++ (⟨#[58, 32]⟩ : ByteArray) ++ f.f1 ++ crlf
def fieldsT : List S41 → ByteArray
  | [] => ⟨#[]⟩
  | f :: r => lineF f ++ fieldsT r
def hsz : List S41 → Nat
  | [] => 0
  | f :: r => f.f0.size + f.f1.size + 4 + hsz r
def headT (a : ByteArray) (l : List S41) : ByteArray := a ++ crlf ++ fieldsT l ++ crlf
theorem crlf_size : crlf.size = 2 := rfl
theorem sp_size : (⟨#[58, 32]⟩ : ByteArray).size = 2 := rfl
theorem app_nil (s : ByteArray) : s ++ (⟨#[]⟩ : ByteArray) = s := ByteArray.append_empty
theorem lineF_size (f : S41) : (lineF f).size = f.f0.size + f.f1.size + 4 := by
  simp only [lineF, ByteArray.size_append, crlf_size, sp_size]; omega
theorem fieldsT_size (l : List S41) : (fieldsT l).size = hsz l := by
  induction l with
  | nil => rfl
  | cons f r ih => simp only [fieldsT, hsz, ByteArray.size_append, lineF_size, ih]
theorem headT_size (a : ByteArray) (l : List S41) : (headT a l).size = a.size + hsz l + 4 := by
  simp only [headT, ByteArray.size_append, crlf_size, fieldsT_size]; omega
theorem hsz_mem {l : List S41} {f : S41} (h : f ∈ l) : f.f0.size + f.f1.size ≤ hsz l := by
  induction l with
  | nil => cases h
  | cons g r ih =>
    rw [hsz]
    rcases List.mem_cons.1 h with rfl | h
    · omega
    · have := ih h; omega
theorem text_impl_l (l : List S41) (hl : l.length ≤ 9223372036854775806) (d : Nat) : ∀ (i : Nat) (o : ByteArray), i ≤ l.length → l.length - i = d → o.size + hsz (l.drop i) + 2 ≤ 9223372036854775807 → Ev (fun k => impl_headText.l0 k o l (l.length : Int) (i : Int)) (o ++ fieldsT (l.drop i) ++ crlf) := by
  induction d with
  | zero =>
    intro i o hi hd hs
    refine Ev.succ ?_
    simp only [impl_headText.l0]
    rw [List.drop_eq_nil_of_le (by omega)] at hs ⊢
    rw [fieldsT, app_nil]
    rw [hsz] at hs
    exact Ev.no (by omega) (Ev.yes (by omega) (Ev.now _))
  | succ d ih =>
    intro i o hi hd hs
    have hlt : i < l.length := by omega
    refine Ev.succ ?_
    simp only [impl_headText.l0]
    rw [drop_get l i hlt, hsz] at hs
    rw [wnat i _ hlt (by omega), rdF_get l i hlt, drop_get l i hlt, fieldsT]
    have h := ih (i + 1) (o ++ lineF l[i]) (by omega) (by omega) (by rw [ByteArray.size_append, lineF_size]; omega)
    rw [ByteArray.append_assoc (a := o)] at h
    refine Ev.yes (by omega) (Ev.yes (by omega) (Ev.yes (by omega) (Ev.yes (by omega) (Ev.yes (by rw [ByteArray.size_append, sp_size]; omega) (Ev.yes (by rw [ByteArray.size_append, ByteArray.size_append, sp_size]; omega) (Ev.yes (by show o.size + (lineF l[i]).size ≤ _; rw [lineF_size]; omega) ?_))))))
    exact h
theorem text_impl (a : ByteArray) (l : List S41) (hl : l.length ≤ 9223372036854775806) (hs : a.size + hsz l + 4 ≤ 9223372036854775807) : Ev (fun k => impl_headText.f k a l) (headT a l) := by
  simp only [impl_headText.f]
  exact Ev.yes (by omega) (text_impl_l l hl l.length 0 (a ++ crlf) (by omega) (by omega) (by rw [List.drop_zero, ByteArray.size_append, crlf_size]; omega))
theorem text_spec_l (a : ByteArray) (l : List S41) (hl : l.length ≤ 9223372036854775806) (d : Nat) : ∀ (i : Nat) (o : ByteArray), i ≤ l.length → l.length - i = d → o.size + hsz (l.drop i) + 2 ≤ 9223372036854775807 → Ev (fun k => spec_l09Text.l0 k o (i : Int) a l) (o ++ fieldsT (l.drop i) ++ crlf) := by
  induction d with
  | zero =>
    intro i o hi hd hs
    refine Ev.succ ?_
    simp only [spec_l09Text.l0]
    rw [List.drop_eq_nil_of_le (by omega)] at hs ⊢
    rw [fieldsT, app_nil]
    rw [hsz] at hs
    exact Ev.no (by omega) (Ev.yes (by omega) (Ev.now _))
  | succ d ih =>
    intro i o hi hd hs
    have hlt : i < l.length := by omega
    refine Ev.succ ?_
    simp only [spec_l09Text.l0]
    rw [drop_get l i hlt, hsz] at hs
    rw [wnat i _ hlt (by omega), rdF_get l i hlt, drop_get l i hlt, fieldsT]
    have h := ih (i + 1) (o ++ lineF l[i]) (by omega) (by omega) (by rw [ByteArray.size_append, lineF_size]; omega)
    rw [ByteArray.append_assoc (a := o)] at h
    have e : o ++ lineF l[i] = (((o ++ l[i].f0) ++ (⟨#[58, 32]⟩ : ByteArray)) ++ l[i].f1) ++ (⟨#[13, 10]⟩ : ByteArray) := by
      simp only [lineF, crlf, ByteArray.append_assoc]
    rw [e] at h
    exact Ev.yes (by omega) (Ev.yes (by omega) (Ev.yes (by omega) (Ev.yes (by rw [ByteArray.size_append]; omega) (Ev.yes (by rw [ByteArray.size_append, ByteArray.size_append, sp_size]; omega) (Ev.yes (by rw [ByteArray.size_append, ByteArray.size_append, ByteArray.size_append, sp_size]; omega) h)))))
theorem text_spec (a : ByteArray) (l : List S41) (hl : l.length ≤ 9223372036854775806) (hs : a.size + hsz l + 4 ≤ 9223372036854775807) : Ev (fun k => spec_l09Text.f k a l) (headT a l) := by
  simp only [spec_l09Text.f]
  exact Ev.yes (by omega) (text_spec_l a l hl l.length 0 (a ++ crlf) (by omega) (by omega) (by rw [List.drop_zero, ByteArray.size_append, crlf_size]; omega))
def fieldsB (l : List S41) : Bool := l.all fun f => fieldB f.f0 f.f1
def lineB (a : ByteArray) : Bool := decide (1 ≤ (a.size : Int) ∧ (a.size : Int) ≤ 80) && inB 32 126 a.data.toList
def headB (a : ByteArray) (l : List S41) : Bool := fieldsB l && (lineB a && (decide ((l.length : Int) ≤ 8) && decide (((headT a l).size : Int) ≤ 300)))
theorem fieldsB_cons (f : S41) (l : List S41) : fieldsB (f :: l) = (fieldB f.f0 f.f1 && fieldsB l) := rfl
theorem isLine_ev (a : ByteArray) (ha : a.size ≤ 9223372036854775806) : Ev (fun k => impl_isLine.f k a) (lineB a) := by
  simp only [impl_isLine.f]
  unfold lineB
  refine Ev.via (in_impl _ _ _) ?_
  by_cases c : 1 ≤ (a.size : Int) ∧ (a.size : Int) ≤ 80
  · rw [decide_eq_true c, Bool.true_and]; exact Ev.yes rfl (Ev.bind (bytesIn_ev a 32 126 (by omega)) (Ev.now _))
  · rw [decide_eq_false c, Bool.false_and]; exact Ev.no (by simp) (Ev.now _)
theorem headOk_impl_l (a : ByteArray) (l : List S41) (hl : l.length ≤ 9223372036854775806) (hs : a.size + hsz l + 4 ≤ 9223372036854775806) (d : Nat) : ∀ i : Nat, i ≤ l.length → l.length - i = d → Ev (fun k => impl_HeadOk.l0 k l (l.length : Int) (i : Int) a l) (fieldsB (l.drop i) && (lineB a && (decide ((l.length : Int) ≤ 8) && decide (((headT a l).size : Int) ≤ 300)))) := by
  induction d with
  | zero =>
    intro i hi hd
    refine Ev.succ ?_
    simp only [impl_HeadOk.l0]
    rw [List.drop_eq_nil_of_le (by omega), show fieldsB [] = true from rfl, Bool.true_and]
    refine Ev.no (by omega) (Ev.bind (isLine_ev a (by omega)) ?_)
    by_cases c : lineB a = true
    · rw [c, Bool.true_and]
      refine Ev.yes rfl ?_
      by_cases c2 : (l.length : Int) ≤ 8
      · rw [decide_eq_true c2, Bool.true_and]; exact Ev.yes c2 (Ev.bind (text_impl a l hl (by omega)) (Ev.now _))
      · rw [decide_eq_false c2, Bool.false_and]; exact Ev.no c2 (Ev.now _)
    · rw [Bool.eq_false_iff.2 c, Bool.false_and]; exact Ev.no (by simp) (Ev.now _)
  | succ d ih =>
    intro i hi hd
    have hlt : i < l.length := by omega
    have hm := hsz_mem (List.getElem_mem hlt)
    refine Ev.succ ?_
    simp only [impl_HeadOk.l0]
    rw [wnat i _ hlt (by omega), rdF_get l i hlt, drop_get l i hlt, fieldsB_cons]
    refine Ev.yes (by omega) (Ev.yes (by omega) (Ev.yes (by omega) (Ev.bind (fieldOk_impl _ _ (by omega) (by omega)) ?_)))
    by_cases c : fieldB l[i].f0 l[i].f1 = true
    · rw [c, Bool.true_and]; exact Ev.yes rfl (ih (i + 1) (by omega) (by omega))
    · rw [Bool.eq_false_iff.2 c, Bool.false_and, Bool.false_and]; exact Ev.no (by simp) (Ev.now _)
theorem headOk_impl (a : ByteArray) (l : List S41) (hl : l.length ≤ 9223372036854775806) (hs : a.size + hsz l + 4 ≤ 9223372036854775806) : Ev (fun k => impl_HeadOk.f k a l) (headB a l) := by
  simp only [impl_HeadOk.f]
  exact headOk_impl_l a l hl hs l.length 0 (by omega) (by omega)
theorem headOk_spec_l (a : ByteArray) (l : List S41) (hl : l.length ≤ 9223372036854775806) (hs : a.size + hsz l + 4 ≤ 9223372036854775806) (d : Nat) : ∀ i : Nat, i ≤ l.length → l.length - i = d → Ev (fun k => spec_HeadOk.l0 k (i : Int) a l) (fieldsB (l.drop i) && decide (((headT a l).size : Int) ≤ 300)) := by
  induction d with
  | zero =>
    intro i hi hd
    refine Ev.succ ?_
    simp only [spec_HeadOk.l0]
    rw [List.drop_eq_nil_of_le (by omega), show fieldsB [] = true from rfl, Bool.true_and]
    exact Ev.no (by omega) (Ev.bind (text_spec a l hl (by omega)) (Ev.now _))
  | succ d ih =>
    intro i hi hd
    have hlt : i < l.length := by omega
    have hm := hsz_mem (List.getElem_mem hlt)
    refine Ev.succ ?_
    simp only [spec_HeadOk.l0]
    rw [wnat i _ hlt (by omega), rdF_get l i hlt, drop_get l i hlt, fieldsB_cons]
    refine Ev.yes (by omega) (Ev.yes (by omega) (Ev.bind (fieldOk_spec _ _ (by omega) (by omega)) ?_))
    by_cases c : fieldB l[i].f0 l[i].f1 = true
    · rw [c, Bool.true_and]; exact Ev.yes rfl (ih (i + 1) (by omega) (by omega))
    · rw [Bool.eq_false_iff.2 c, Bool.false_and, Bool.false_and]; exact Ev.no (by simp) (Ev.now _)
theorem headOk_spec (a : ByteArray) (l : List S41) (hl : l.length ≤ 9223372036854775806) (hs : a.size + hsz l + 4 ≤ 9223372036854775806) : Ev (fun k => spec_HeadOk.f k a l) (headB a l) := by
  simp only [spec_HeadOk.f]
  have no : Ev (fun k => spec_HeadOk.j0 k true a l) false := by refine Ev.succ ?_; simp only [spec_HeadOk.j0]; exact Ev.yes (by simp) (Ev.now _)
  by_cases c0 : (a.size : Int) = 0
  · rw [show headB a l = false from by unfold headB lineB; rw [decide_eq_false (by omega)]; simp]
    exact Ev.yes c0 no
  · refine Ev.no c0 (Ev.bind (plain_spec a 80 (by omega)) ?_)
    by_cases c : (inB 32 126 a.data.toList && decide ((a.size : Int) ≤ 80)) = true
    · refine Ev.yes c ?_
      rw [Bool.and_eq_true, decide_eq_true_iff] at c
      have hL : lineB a = true := by unfold lineB; rw [decide_eq_true ⟨by omega, c.2⟩, c.1]; rfl
      refine Ev.succ ?_
      simp only [spec_HeadOk.j0]
      unfold headB
      rw [hL, Bool.true_and]
      by_cases c8 : (l.length : Int) > 8
      · rw [decide_eq_true c8, decide_eq_false (show ¬ (l.length : Int) ≤ 8 by omega), Bool.false_and, Bool.and_false]; exact Ev.yes (by simp) (Ev.now _)
      · rw [decide_eq_false c8, decide_eq_true (show (l.length : Int) ≤ 8 by omega), Bool.true_and]
        exact Ev.no (by simp) (headOk_spec_l a l hl hs l.length 0 (by omega) (by omega))
    · refine Ev.no c ?_
      have hL : lineB a = false := by
        unfold lineB
        by_cases q : inB 32 126 a.data.toList = true
        · rw [q, Bool.true_and, decide_eq_true_iff] at c; rw [decide_eq_false (by omega), Bool.false_and]
        · rw [Bool.eq_false_iff.2 q, Bool.and_false]
      rw [show headB a l = false from by unfold headB; rw [hL]; simp]
      exact no
def headTB (a : ByteArray) (l : List S41) : ByteArray × Bool := if headB a l = true then (headT a l, true) else (⟨#[]⟩, false)
theorem headText_impl (a : ByteArray) (l : List S41) (hl : l.length ≤ 9223372036854775806) (hs : a.size + hsz l + 4 ≤ 9223372036854775806) : Ev (fun k => impl_HeadText.f k a l) (headTB a l) := by
  simp only [impl_HeadText.f]
  unfold headTB
  refine Ev.bind (headOk_impl a l hl hs) ?_
  by_cases c : headB a l = true
  · rw [if_pos c]; exact Ev.yes c (Ev.bind (text_impl a l hl (by omega)) (Ev.now _))
  · rw [if_neg c]; exact Ev.no c (Ev.now _)
end Go.Proofs.YthjigecaojaalaaDoor.Q
namespace Go.Proofs.YthjigecaojaalaaDoor.Q
open Go.RowKit Go.Proofs.YthjigecaojaalaaDoorW.PrintWords Go.Proofs.YthjigecaojaalaaDoorW.PrintLast Go.Proofs.YthjigecaojaalaaDoorW.PrintMore
def nmLen : ByteArray := ⟨#[99, 111, 110, 116, 101, 110, 116, 45, 108, 101, 110, 103, 116, 104]⟩
def nmCod : ByteArray := ⟨#[116, 114, 97, 110, 115, 102, 101, 114, 45, 101, 110, 99, 111, 100, 105, 110, 103]⟩
theorem hsz_app (l : List S41) (f : S41) : hsz (l ++ [f]) = hsz l + (f.f0.size + f.f1.size + 4) := by
  induction l with
  | nil => simp [hsz]
  | cons g r ih => rw [List.cons_append, hsz, ih, hsz]; omega
def withLen (l : List S41) (b : ByteArray) : List S41 := l ++ [⟨nmLen, decB b.size⟩]
def ansF (a : ByteArray) (l : List S41) (b : ByteArray) : ByteArray × Bool :=
  if (fieldF nmLen l).2 = true ∨ (fieldF nmCod l).2 = true ∨ (b.size : Int) > 400 then (⟨#[]⟩, false) else (if headB a (withLen l b) = true then (headT a (withLen l b) ++ b, true) else (⟨#[]⟩, false))
theorem ans_spec (a : ByteArray) (l : List S41) (b : ByteArray) (hl : l.length ≤ 1048576) (hs : a.size + hsz l ≤ 8388608) (hb : b.size ≤ 1048576) : Ev (fun k => spec_AnswerText.f k a l b) (ansF a l b) := by
  simp only [spec_AnswerText.f, Option.bind_some, List.nil_append]
  have hd := decB_size b.size
  have e1 : hsz (withLen l b) = hsz l + (14 + (decB b.size).size + 4) := hsz_app l _
  have e2 : (withLen l b).length = l.length + 1 := by unfold withLen; simp
  refine Ev.bind (fieldOf_spec a l nmLen (by omega)) (Ev.bind (fieldOf_spec a l nmCod (by omega)) (Ev.yes (by show 0 + l.length < _; omega) (Ev.bind (dec_spec b.size (by omega)) (Ev.yes (by show l.length + 1 < _; omega) ?_))))
  unfold ansF
  by_cases c1 : (fieldF nmLen l).2 = true
  · rw [if_pos (.inl c1)]; exact Ev.yes c1 (Ev.now _)
  · refine Ev.no c1 ?_
    by_cases c2 : (fieldF nmCod l).2 = true
    · rw [if_pos (.inr (.inl c2))]; exact Ev.yes c2 (Ev.now _)
    · refine Ev.no c2 ?_
      by_cases c3 : (b.size : Int) > 400
      · rw [if_pos (.inr (.inr c3))]; exact Ev.yes c3 (Ev.now _)
      · refine Ev.no c3 ?_
        rw [if_neg (fun h => by rcases h with h | h | h; exact c1 h; exact c2 h; exact c3 h)]
        refine Ev.bind (headOk_spec a (withLen l b) (by omega) (by omega)) ?_
        by_cases c4 : headB a (withLen l b) = true
        · rw [if_pos c4]
          exact Ev.yes c4 (Ev.bind (text_spec a (withLen l b) (by omega) (by omega)) (Ev.yes (by rw [headT_size]; omega) (Ev.now _)))
        · rw [if_neg c4]; exact Ev.no c4 (Ev.now _)
theorem ans_impl (a : ByteArray) (l : List S41) (b : ByteArray) (hl : l.length ≤ 1048576) (hs : a.size + hsz l ≤ 8388608) (hb : b.size ≤ 1048576) : Ev (fun k => impl_AnswerText.f k a l b) (ansF a l b) := by
  have jt : Ev (fun k => impl_AnswerText.j0 k b true a l) ((⟨#[]⟩ : ByteArray), false) := by
    refine Ev.succ ?_
    simp only [impl_AnswerText.j0]; exact Ev.yes (by simp) (Ev.now _)
  simp only [impl_AnswerText.f]
  have hd := decB_size b.size
  have e1 : hsz (withLen l b) = hsz l + (14 + (decB b.size).size + 4) := hsz_app l _
  have e2 : (withLen l b).length = l.length + 1 := by unfold withLen; simp
  refine Ev.bind (fieldOf_impl a l nmCod (by omega)) (Ev.bind (fieldOf_impl a l nmLen (by omega)) ?_)
  unfold ansF
  by_cases c2 : (fieldF nmCod l).2 = true
  · rw [if_pos (.inr (.inl c2))]; exact Ev.yes c2 jt
  · refine Ev.no c2 ?_
    by_cases c1 : (fieldF nmLen l).2 = true
    · rw [if_pos (.inl c1)]; exact Ev.yes c1 jt
    · refine Ev.no c1 ?_
      by_cases c3 : (b.size : Int) > 400
      · rw [if_pos (.inr (.inr c3)), decide_eq_true c3]; exact jt
      · rw [if_neg (fun h => by rcases h with h | h | h; exact c1 h; exact c2 h; exact c3 h), decide_eq_false c3]
        refine Ev.succ ?_
        simp only [impl_AnswerText.j0, Option.bind_some, List.nil_append]
        refine Ev.no (by simp) (Ev.yes (by show 0 + l.length < _; omega) (Ev.via (dec_impl b.size (by omega)) (Ev.yes (by omega) (Ev.bind (headText_impl a (withLen l b) (by omega) (by omega)) ?_))))
        unfold headTB
        by_cases c4 : headB a (withLen l b) = true
        · simp only [if_pos c4]
          exact Ev.yes (by simp) (Ev.yes (by rw [headT_size]; omega) (Ev.now _))
        · simp only [if_neg c4]; exact Ev.no (by simp) (Ev.now _)
end Go.Proofs.YthjigecaojaalaaDoor.Q
namespace Go.Proofs.YthjigecaojaalaaDoor.Q
open Go.RowKit Go.Proofs.YthjigecaojaalaaDoorW.PrintWords Go.Proofs.YthjigecaojaalaaDoorW.PrintLast Go.Proofs.YthjigecaojaalaaDoorW.PrintMore
set_option linter.unusedSimpArgs false
def ba (l : List UInt8) : ByteArray := ⟨l.toArray⟩
theorem ba_toL (l : List UInt8) : (ba l).data.toList = l := by simp [ba]
theorem ba_list (l : List UInt8) : (ba l).toList = l := by rw [toL, ba_toL]
theorem ba_size (l : List UInt8) : (ba l).size = l.length := by rw [← sizeL, ba_toL]
theorem ba_of (s : ByteArray) : ba s.data.toList = s := by apply ba_ext; rw [ba_toL]
def ct (p : List UInt8) : List UInt8 → List UInt8 × List UInt8 × Bool
  | [] => ([], [], false)
  | b :: t => if p.isPrefixOf (b :: t) then ([], (b :: t).drop p.length, true) else if (ct p t).2.2 = true then (b :: (ct p t).1, (ct p t).2.1, true) else (b :: t, [], false)
theorem cut_ct (p : List UInt8) (hp : p ≠ []) (t : List UInt8) : Lib.cut t p = ct p t := by
  induction t with
  | nil =>
    cases p with
    | nil => exact absurd rfl hp
    | cons a p => rfl
  | cons b t ih =>
    rw [ct]
    unfold Lib.cut at ih ⊢
    rw [Lib.index]
    by_cases c : p.isPrefixOf (b :: t) = true
    · rw [if_pos c, if_pos c]; simp
    · rw [if_neg c, if_neg c, ← ih]
      have g : -1 ≤ Lib.index t p := by
        clear ih c
        induction t with
        | nil => rw [Lib.index]; split <;> decide
        | cons a t ih => rw [Lib.index]; split; decide; split; decide; omega
      by_cases c2 : Lib.index t p = -1
      · rw [c2]; simp
      · have h0 : 0 ≤ Lib.index t p := by omega
        have e1 : (Lib.index t p == -1) = false := by simpa using c2
        rw [e1]
        simp only [if_pos h0, Bool.false_eq_true, if_false, if_true]
        rw [if_pos (by omega)]
        have e2 : (Lib.index t p + 1).toNat = (Lib.index t p).toNat + 1 := by omega
        rw [e2, List.take_succ_cons, show (Lib.index t p).toNat + 1 + p.length = (Lib.index t p).toNat + p.length + 1 by omega, List.drop_succ_cons]
theorem ct_true {p t : List UInt8} (h : (ct p t).2.2 = true) : t = (ct p t).1 ++ p ++ (ct p t).2.1 := by
  induction t with
  | nil => simp [ct] at h
  | cons b t ih =>
    rw [ct] at h ⊢
    by_cases c : p.isPrefixOf (b :: t) = true
    · rw [if_pos c]
      obtain ⟨r, hr⟩ := List.isPrefixOf_iff_prefix.1 c
      simp only [List.nil_append]
      rw [← hr, List.drop_left]
    · rw [if_neg c] at h ⊢
      by_cases c2 : (ct p t).2.2 = true
      · rw [if_pos c2]
        have := ih c2
        simp only [List.cons_append]
        rw [← this]
      · rw [if_neg c2] at h; simp at h
theorem ct_false {p t : List UInt8} (h : (ct p t).2.2 = false) : (ct p t).1 = t := by
  cases t with
  | nil => rfl
  | cons b t =>
    rw [ct] at h ⊢
    by_cases c : p.isPrefixOf (b :: t) = true
    · rw [if_pos c] at h; simp at h
    · rw [if_neg c] at h ⊢
      by_cases c2 : (ct p t).2.2 = true
      · rw [if_pos c2] at h; simp at h
      · rw [if_neg c2]
theorem cut_ev (s : ByteArray) (p : ByteArray) (hp : p.data.toList ≠ []) (hs : s.size ≤ 4000000000) : strings_Cut.f s p = some (ba (ct p.data.toList s.data.toList).1, ba (ct p.data.toList s.data.toList).2.1, (ct p.data.toList s.data.toList).2.2) := by
  unfold strings_Cut.f
  rw [if_pos (by omega), cut_ct _ hp]; rfl
theorem ext_ba (s : ByteArray) (a b : Nat) : s.extract a b = ba ((s.data.toList.drop a).take (b - a)) := by
  apply ba_ext; rw [ba_toL, Lib.extract_data]
end Go.Proofs.YthjigecaojaalaaDoor.Q
namespace Go.Proofs.YthjigecaojaalaaDoor.Q
open Go.RowKit Go.Proofs.YthjigecaojaalaaDoorW.PrintWords Go.Proofs.YthjigecaojaalaaDoorW.PrintLast Go.Proofs.YthjigecaojaalaaDoorW.PrintMore
def pre (s p : ByteArray) : Bool := decide (p.size ≤ s.size) && ((s.extract 0 p.size).toList == p.toList)
def suf (s p : ByteArray) : Bool := decide (p.size ≤ s.size) && ((s.extract (s.size - p.size) s.size).toList == p.toList)
end Go.Proofs.YthjigecaojaalaaDoor.Q
namespace Go.Proofs.YthjigecaojaalaaDoor.Q
open Go.RowKit Go.Proofs.YthjigecaojaalaaDoorW.PrintWords Go.Proofs.YthjigecaojaalaaDoorW.PrintLast Go.Proofs.YthjigecaojaalaaDoorW.PrintMore
set_option linter.unusedSimpArgs false
/-- No end of a line in it. -/
def cl (l : List UInt8) : Bool := l.all fun b => !(b == 10) && !(b == 13)
theorem cl_cons (b : UInt8) (l : List UInt8) : cl (b :: l) = ((!(b == 10) && !(b == 13)) && cl l) := rfl
theorem cl_app (x y : List UInt8) : cl (x ++ y) = (cl x && cl y) := by simp [cl, List.all_append]
theorem cl_ex {l : List UInt8} (h : cl l = false) : ∃ b ∈ l, b = 10 ∨ b = 13 := by
  unfold cl at h
  rw [List.all_eq_false] at h
  obtain ⟨b, hb, h⟩ := h
  refine ⟨b, hb, ?_⟩
  by_cases c : b = 10
  · exact .inl c
  · by_cases d : b = 13
    · exact .inr d
    · simp [c, d] at h
/-- A line: none: there is none; its end may not be there. -/
def ln13 : List UInt8 → Option (List UInt8 × Option (List UInt8))
  | [] => some ([], none)
  | c :: r => if c = 10 then some ([], some r) else none
def lnC (b : UInt8) : Option (List UInt8 × Option (List UInt8)) → Option (List UInt8 × Option (List UInt8))
  | none => none
  | some p => some (b :: p.1, p.2)
def ln : List UInt8 → Option (List UInt8 × Option (List UInt8))
  | [] => some ([], none)
  | b :: r => if b = 10 then none else if b = 13 then ln13 r else lnC b (ln r)
def chop : List UInt8 → List UInt8
  | [] => []
  | b :: r => if r = [] ∧ b = 13 then [] else b :: chop r
theorem chop_c {b : UInt8} {r : List UInt8} (h : ¬ (r = [] ∧ b = 13)) : chop (b :: r) = b :: chop r := by rw [chop, if_neg h]
theorem pre2 (b : UInt8) (t : List UInt8) : ([13, 10] : List UInt8).isPrefixOf (b :: t) = (13 == b && (match t with | [] => false | c :: _ => 10 == c)) := by
  cases t with
  | nil => simp [List.isPrefixOf]
  | cons c t => simp [List.isPrefixOf]
theorem ln_true (t : List UInt8) (h : (ct [13, 10] t).2.2 = true) : ln t = if cl (ct [13, 10] t).1 = true then some ((ct [13, 10] t).1, some (ct [13, 10] t).2.1) else none := by
  induction t with
  | nil => simp [ct] at h
  | cons b t ih =>
    rw [ct] at h ⊢
    by_cases c : ([13, 10] : List UInt8).isPrefixOf (b :: t) = true
    · rw [if_pos c]
      rw [pre2] at c
      cases t with
      | nil => simp at c
      | cons d t =>
        simp only [Bool.and_eq_true, beq_iff_eq] at c
        obtain ⟨rfl, rfl⟩ := c
        simp [ln, ln13, cl]
    · rw [if_neg c] at h ⊢
      rw [pre2] at c
      by_cases c2 : (ct [13, 10] t).2.2 = true
      · rw [if_pos c2]
        have ih := ih c2
        simp only [cl_cons]
        rw [ln]
        by_cases d1 : b = 10
        · subst d1; simp
        · by_cases d2 : b = 13
          · subst d2
            cases t with
            | nil => simp [ct] at c2
            | cons d t =>
              have : d ≠ 10 := by intro e; subst e; simp at c
              simp [this, ln13]
          · rw [if_neg d1, if_neg d2, ih]
            by_cases q : cl (ct [13, 10] t).1 = true
            · simp [q, d1, d2, lnC]
            · simp [q, d1, d2, lnC]
      · rw [if_neg c2] at h; simp at h
theorem ln_false (t : List UInt8) (h : (ct [13, 10] t).2.2 = false) : ln t = if cl (chop t) = true then some (chop t, none) else none := by
  induction t with
  | nil => simp [ln, chop, cl]
  | cons b t ih =>
    rw [ct] at h
    by_cases c : ([13, 10] : List UInt8).isPrefixOf (b :: t) = true
    · rw [if_pos c] at h; simp at h
    · rw [if_neg c] at h
      rw [pre2] at c
      by_cases c2 : (ct [13, 10] t).2.2 = true
      · rw [if_pos c2] at h; simp at h
      · have ih := ih (Bool.eq_false_iff.2 c2)
        rw [ln]
        by_cases d1 : b = 10
        · subst d1
          rw [if_pos rfl, chop_c (by rintro ⟨_, h⟩; exact absurd h (by decide)), cl_cons]; simp
        · rw [if_neg d1]
          by_cases d2 : b = 13
          · subst d2
            rw [if_pos rfl]
            cases t with
            | nil => simp [cl, ln13, chop]
            | cons d t =>
              have : d ≠ 10 := by intro e; subst e; simp at c
              rw [chop_c (by rintro ⟨h, _⟩; cases h), cl_cons]; simp [this, ln13]
          · rw [if_neg d2, ih, chop_c (fun h => d2 h.2), cl_cons]
            by_cases q : cl (chop t) = true
            · simp [q, d1, d2, lnC]
            · simp [q, d1, d2, lnC]
end Go.Proofs.YthjigecaojaalaaDoor.Q
namespace Go.Proofs.YthjigecaojaalaaDoor.Q
open Go.RowKit Go.Proofs.YthjigecaojaalaaDoorW.PrintWords Go.Proofs.YthjigecaojaalaaDoorW.PrintLast Go.Proofs.YthjigecaojaalaaDoorW.PrintMore
set_option linter.unusedSimpArgs false
theorem trimR_cons (b : UInt8) (t : List UInt8) : Lib.trimRightB (b :: t) 32 = if Lib.trimRightB t 32 = [] ∧ b = 32 then [] else b :: Lib.trimRightB t 32 := by
  unfold Lib.trimRightB
  rw [List.reverse_cons, List.dropWhile_append]
  by_cases c : (t.reverse.dropWhile (· == (32 : UInt8))) = []
  · rw [c]
    by_cases d : b = 32
    · subst d; simp
    · simp [d]
  · have : (t.reverse.dropWhile (· == (32 : UInt8))).isEmpty = false := by simpa using c
    rw [this, if_neg (by simp)]
    rw [if_neg (fun h => c (by simpa using h.1))]
    simp
theorem trim_swap (l : List UInt8) : Lib.trimRightB (Lib.trimLeftB l 32) 32 = Lib.trimB l 32 := by
  unfold Lib.trimB
  induction l with
  | nil => rfl
  | cons b t ih =>
    rw [trimR_cons]
    unfold Lib.trimLeftB at *
    by_cases c : b = 32
    · subst c
      rw [List.dropWhile_cons_of_pos (by simp), ih]
      by_cases d : Lib.trimRightB t 32 = []
      · rw [if_pos ⟨d, rfl⟩, d]
      · rw [if_neg (fun h => d h.1), List.dropWhile_cons_of_pos (by simp)]
    · rw [List.dropWhile_cons_of_neg (by simp [c]), if_neg (fun h => c h.2), List.dropWhile_cons_of_neg (by simp [c]), trimR_cons, if_neg (fun h => c h.2)]
theorem low_ba (l : List UInt8) : impl_lower.all (ba l) = ba (l.map impl_lower.one) := by
  apply ba_ext; rw [ba_toL]; unfold impl_lower.all ba; simp
theorem trim_len (l : List UInt8) : (Lib.trimB l 32).length ≤ l.length := by
  unfold Lib.trimB Lib.trimLeftB Lib.trimRightB
  have h1 := (List.dropWhile_sublist (l := (l.reverse.dropWhile (· == (32 : UInt8))).reverse) (· == (32 : UInt8))).length_le
  have h2 := (List.dropWhile_sublist (l := l.reverse) (· == (32 : UInt8))).length_le
  rw [List.length_reverse] at h1 h2
  omega
theorem ct_len {p t : List UInt8} : (ct p t).1.length ≤ t.length ∧ (ct p t).2.1.length ≤ t.length := by
  cases h : (ct p t).2.2 with
  | true =>
    have := congrArg List.length (ct_true h)
    simp only [List.length_append] at this
    omega
  | false =>
    refine ⟨by rw [ct_false h]; omega, ?_⟩
    cases t with
    | nil => simp [ct]
    | cons b t =>
      rw [ct] at h ⊢
      split at h
      · cases h
      · rename_i c
        rw [if_neg c]
        split at h
        · cases h
        · rename_i c2; rw [if_neg c2]; simp
theorem ct1 (c b : UInt8) (t : List UInt8) : ct [c] (b :: t) = if b = c then ([], t, true) else if (ct [c] t).2.2 = true then (b :: (ct [c] t).1, (ct [c] t).2.1, true) else (b :: t, [], false) := by
  rw [ct]
  by_cases h : b = c
  · subst h; simp [List.isPrefixOf]
  · rw [if_neg h, if_neg (by simp [List.isPrefixOf, Ne.symm h])]
end Go.Proofs.YthjigecaojaalaaDoor.Q
namespace Go.Proofs.YthjigecaojaalaaDoor.Q
open Go.RowKit Go.Proofs.YthjigecaojaalaaDoorW.PrintWords Go.Proofs.YthjigecaojaalaaDoorW.PrintLast Go.Proofs.YthjigecaojaalaaDoorW.PrintMore
set_option linter.unusedSimpArgs false
theorem suf13 (s : ByteArray) : suf s (⟨#[13]⟩ : ByteArray) = decide (s.data.toList.getLast? = some 13) := by
  unfold suf
  rw [toL, Lib.extract_data]
  have hz : (⟨#[13]⟩ : ByteArray).size = 1 := rfl
  have hL := sizeL s
  rw [hz, toL]
  rcases List.eq_nil_or_concat s.data.toList with e | ⟨l, b, e⟩
  · rw [e] at hL ⊢
    rw [decide_eq_false (by simp at hL; omega)]; simp
  · rw [List.concat_eq_append] at e
    rw [e] at hL ⊢
    rw [List.length_append, List.length_singleton] at hL
    rw [decide_eq_true (by omega), Bool.true_and, show s.size - 1 = l.length by omega, List.drop_left, show s.size - l.length = 1 by omega]
    simp only [List.take_succ_cons, List.take_zero, List.getLast?_append, List.getLast?_singleton, Option.some_or, Option.some.injEq]
    rw [Bool.eq_iff_iff, beq_iff_eq, decide_eq_true_iff]
    show ([b] = [13]) ↔ _
    simp
theorem chop_eq (l : List UInt8) : chop l = if l.getLast? = some 13 then l.take (l.length - 1) else l := by
  induction l with
  | nil => rfl
  | cons b r ih =>
    rw [chop]
    cases r with
    | nil =>
      by_cases c : b = 13
      · subst c; simp
      · simp [c, chop]
    | cons c r =>
      rw [if_neg (by simp), ih]
      have e : (b :: c :: r).getLast? = (c :: r).getLast? := by simp [List.getLast?_cons]
      rw [e]
      split
      · simp only [List.length_cons]; rw [show r.length + 1 + 1 - 1 = (r.length + 1 - 1) + 1 by omega, List.take_succ_cons]
      · rfl
theorem trimSuf_ev (s : ByteArray) (hs : s.size ≤ 9223372036854775807) : strings_TrimSuffix.f s (⟨#[13]⟩ : ByteArray) = some (ba (chop s.data.toList)) := by
  have hz : (⟨#[13]⟩ : ByteArray).size = 1 := rfl
  have e : stringslite_HasSuffix.f s (⟨#[13]⟩ : ByteArray) = some (suf s (⟨#[13]⟩ : ByteArray)) := by
    simp only [stringslite_HasSuffix.f]
    unfold suf
    by_cases c : (s.size : Int) ≥ ((⟨#[13]⟩ : ByteArray).size : Int)
    · have hw : wrap64 ((s.size : Int) - ((⟨#[13]⟩ : ByteArray).size : Int)) = ((s.size - (⟨#[13]⟩ : ByteArray).size : Nat) : Int) := by rw [w64 (by omega) (by omega)]; omega
      rw [if_pos c, hw, if_pos (by omega), if_pos (by omega), decide_eq_true (by omega), Bool.true_and, Int.toNat_natCast]
    · rw [if_neg c, decide_eq_false (by omega), Bool.false_and]
  simp only [strings_TrimSuffix.f, stringslite_TrimSuffix.f, e, Option.bind_some, suf13]
  rw [chop_eq]
  by_cases c : s.data.toList.getLast? = some 13
  · have hp : 1 ≤ s.size := by
      rcases Nat.eq_zero_or_pos s.size with h | h
      · have : s.data.toList = [] := List.eq_nil_of_length_eq_zero (by rw [sizeL]; exact h)
        rw [this] at c; cases c
      · exact h
    have hw : wrap64 ((s.size : Int) - ((⟨#[13]⟩ : ByteArray).size : Int)) = ((s.size - 1 : Nat) : Int) := by rw [hz, w64 (by omega) (by omega)]; omega
    rw [decide_eq_true c, if_pos c, if_pos rfl, hw, if_pos (by omega), if_pos (by omega), Int.toNat_natCast, ext_ba, List.drop_zero, Nat.sub_zero, sizeL]; rfl
  · rw [decide_eq_false c, if_neg c, if_neg (by simp), ba_of]; rfl
theorem contains_cl (l : List UInt8) : Lib.containsAny l [13, 10] = !(cl l) := by
  unfold Lib.containsAny
  induction l with
  | nil => rfl
  | cons b l ih =>
    rw [Lib.indexAny, cl_cons]
    have hg := Lib.indexAny_ge [13, 10] l
    by_cases c : ([13, 10] : List UInt8).contains b = true
    · rw [if_pos c]
      simp only [List.contains_cons, List.contains_nil, Bool.or_false, Bool.or_eq_true, beq_iff_eq] at c
      rcases c with rfl | rfl <;> simp
    · rw [if_neg c]
      have c' := Bool.eq_false_iff.2 c
      simp only [List.contains_cons, List.contains_nil, Bool.or_false, Bool.or_eq_false_iff, beq_eq_false_iff_ne] at c'
      rw [show (b == (10 : UInt8)) = false from beq_eq_false_iff_ne.2 c'.2, show (b == (13 : UInt8)) = false from beq_eq_false_iff_ne.2 c'.1]
      simp only [Bool.not_false, Bool.true_and]
      rw [← ih]
      by_cases d : Lib.indexAny l [13, 10] = -1
      · rw [d]; decide
      · rw [show (Lib.indexAny l [13, 10] == -1) = false from by simpa using d]
        simp only [Bool.false_eq_true, if_false]
        rw [decide_eq_true (by omega), decide_eq_true (by omega)]
def restB (t : List UInt8) (first : Bool) : Bool := cl (chop t) && (!first || (decide (((chop t).length : Int) ≤ 80) && inB 32 126 (chop t)))
theorem chop_len (t : List UInt8) : (chop t).length ≤ t.length := by
  rw [chop_eq]; split
  · rw [List.length_take]; omega
  · omega
theorem restOk_ev (s : ByteArray) (first : Bool) (hs : s.size ≤ 4000000000) : Ev (fun k => impl_restOk.f k s first) (restB s.data.toList first) := by
  simp only [impl_restOk.f]
  have hl := chop_len s.data.toList
  rw [sizeL] at hl
  refine Ev.via (trimSuf_ev s (by omega)) (Ev.via (a := !(cl (chop s.data.toList))) (by unfold strings_ContainsAny.f; rw [if_pos ⟨by rw [ba_size]; omega, rfl⟩, ba_toL, contains_cl]) ?_)
  unfold restB
  by_cases c : cl (chop s.data.toList) = true
  · rw [c]
    refine Ev.no (by simp) ?_
    cases first with
    | false => exact Ev.no (by simp) (Ev.now _)
    | true =>
      refine Ev.yes rfl ?_
      rw [ba_size]
      by_cases d : ((chop s.data.toList).length : Int) ≤ 80
      · rw [decide_eq_true d]
        have := bytesIn_ev (ba (chop s.data.toList)) 32 126 (by rw [ba_size]; omega)
        rw [ba_toL] at this
        exact Ev.yes d (Ev.bind this (Ev.now _))
      · rw [decide_eq_false d]; exact Ev.no d (Ev.now _)
  · rw [Bool.eq_false_iff.2 c]; exact Ev.yes (by simp) (Ev.now _)
/-- The field that a line tells, and whether it is one. -/
def fldF (t : List UInt8) : ByteArray × ByteArray × Bool :=
  (ba ((ct [58] t).1.map impl_lower.one), ba (Lib.trimB (ct [58] t).2.1 32), fieldB (ba ((ct [58] t).1.map impl_lower.one)) (ba (Lib.trimB (ct [58] t).2.1 32)))
def fldL (t : List UInt8) : Option S41 := if (ct [58] t).2.2 = true ∧ (fldF t).2.2 = true then some ⟨(fldF t).1, (fldF t).2.1⟩ else none
theorem readField_ev (s : ByteArray) (hs : s.size ≤ 1048576) : EvP (fun k => impl_readField.f k s) (fun r => (fldL s.data.toList = none ∧ r.2.2 = false) ∨ (∃ f, fldL s.data.toList = some f ∧ r.1 = f.f0 ∧ r.2.1 = f.f1 ∧ r.2.2 = true)) := by
  simp only [impl_readField.f]
  have hc := @ct_len [58] s.data.toList
  rw [sizeL] at hc
  have ht := trim_len (ct [58] s.data.toList).2.1
  have e1 : impl_lower.f (ba (ct [58] s.data.toList).1) = some (fldF s.data.toList).1 := by
    unfold impl_lower.f; rw [if_pos (by rw [ba_size]; omega), low_ba]; rfl
  have e2 : strings_Trim.f (ba (ct [58] s.data.toList).2.1) (⟨#[32]⟩ : ByteArray) = some (fldF s.data.toList).2.1 := by
    unfold strings_Trim.f; rw [if_pos ⟨rfl, by rw [ba_size]; omega⟩, ba_toL]; rfl
  have e0 := cut_ev s (⟨#[58]⟩ : ByteArray) (by simp) (by omega)
  have l1 : (fldF s.data.toList).1.size ≤ 1048576 := by unfold fldF; rw [ba_size, List.length_map]; omega
  have l2 : (fldF s.data.toList).2.1.size ≤ 1048576 := by unfold fldF; rw [ba_size]; omega
  unfold fldL
  by_cases c : (ct [58] s.data.toList).2.2 = true
  · refine ⟨((fldF s.data.toList).1, (fldF s.data.toList).2.1, (fldF s.data.toList).2.2), Ev.via e0 (Ev.via e1 (Ev.via e2 (Ev.yes c (Ev.bind (fieldOk_impl _ _ (by omega) (by omega)) (Ev.now _))))), ?_⟩
    by_cases d : (fldF s.data.toList).2.2 = true
    · rw [if_pos ⟨c, d⟩]; exact .inr ⟨_, rfl, rfl, rfl, d⟩
    · rw [if_neg (fun h => d h.2)]; exact .inl ⟨rfl, Bool.eq_false_iff.2 d⟩
  · refine ⟨((fldF s.data.toList).1, (fldF s.data.toList).2.1, false), Ev.via e0 (Ev.via e1 (Ev.via e2 (Ev.no c (Ev.now _)))), ?_⟩
    rw [if_neg (fun h => c h.1)]; exact .inl ⟨rfl, rfl⟩
def badR : ByteArray × List S41 × Int × Int := (⟨#[]⟩, [], 0, 2)
def moreR : ByteArray × List S41 × Int × Int := (⟨#[]⟩, [], 0, 1)
def endR (n : Nat) : ByteArray × List S41 × Int × Int := if (n : Int) > 300 then badR else moreR
def doneR (n : Nat) (y : List UInt8) (a : ByteArray) (l : List S41) : ByteArray × List S41 × Int × Int := if headB a l = true ∧ ((n - y.length : Nat) : Int) ≤ 300 then (a, l, ((n - y.length : Nat) : Int), 0) else badR
def rdL (n : Nat) : Nat → List UInt8 → ByteArray → List S41 → ByteArray × List S41 × Int × Int
  | 0, _, _, _ => badR
  | d + 1, t, a, l => match ln t with
    | none => badR
    | some (_, none) => endR n
    | some (x, some y) => if x = [] then doneR n y a l else (match fldL x with
      | none => badR
      | some f => if l.length = 8 then badR else rdL n d y a (l ++ [f]))
def rdH (t : List UInt8) : ByteArray × List S41 × Int × Int := match ln t with
  | none => badR
  | some (x, none) => if (inB 32 126 x && decide ((x.length : Int) ≤ 80)) = true then endR t.length else badR
  | some (x, some y) => if lineB (ba x) = true then rdL t.length t.length y (ba x) [] else badR
theorem rdL_none {n d : Nat} {t : List UInt8} {a : ByteArray} {l : List S41} (h : ln t = none) : rdL n (d + 1) t a l = badR := by rw [rdL, h]
theorem rdL_more {n d : Nat} {t x : List UInt8} {a : ByteArray} {l : List S41} (h : ln t = some (x, none)) : rdL n (d + 1) t a l = endR n := by rw [rdL, h]
theorem rdL_done {n d : Nat} {t y : List UInt8} {a : ByteArray} {l : List S41} (h : ln t = some ([], some y)) : rdL n (d + 1) t a l = doneR n y a l := by rw [rdL, h]; rfl
theorem rdL_bad {n d : Nat} {t x y : List UInt8} {a : ByteArray} {l : List S41} (h : ln t = some (x, some y)) (hx : x ≠ []) (hf : fldL x = none) : rdL n (d + 1) t a l = badR := by rw [rdL, h]; simp only [if_neg hx, hf]
theorem rdL_full {n d : Nat} {t x y : List UInt8} {a : ByteArray} {l : List S41} {f : S41} (h : ln t = some (x, some y)) (hx : x ≠ []) (hf : fldL x = some f) (h8 : l.length = 8) : rdL n (d + 1) t a l = badR := by rw [rdL, h]; simp only [if_neg hx, hf, if_pos h8]
theorem rdL_go {n d : Nat} {t x y : List UInt8} {a : ByteArray} {l : List S41} {f : S41} (h : ln t = some (x, some y)) (hx : x ≠ []) (hf : fldL x = some f) (h8 : l.length ≠ 8) : rdL n (d + 1) t a l = rdL n d y a (l ++ [f]) := by rw [rdL, h]; simp only [if_neg hx, hf, if_neg h8]
theorem rdH_none {t : List UInt8} (h : ln t = none) : rdH t = badR := by unfold rdH; rw [h]
theorem rdH_more {t x : List UInt8} (h : ln t = some (x, none)) (c : (inB 32 126 x && decide ((x.length : Int) ≤ 80)) = true) : rdH t = endR t.length := by unfold rdH; rw [h]; simp only [if_pos c]
theorem rdH_part {t x : List UInt8} (h : ln t = some (x, none)) (c : ¬ (inB 32 126 x && decide ((x.length : Int) ≤ 80)) = true) : rdH t = badR := by unfold rdH; rw [h]; simp only [if_neg c]
theorem rdH_bad {t x y : List UInt8} (h : ln t = some (x, some y)) (c : ¬ lineB (ba x) = true) : rdH t = badR := by unfold rdH; rw [h]; simp only [if_neg c]
theorem rdH_go {t x y : List UInt8} (h : ln t = some (x, some y)) (c : lineB (ba x) = true) : rdH t = rdL t.length t.length y (ba x) [] := by unfold rdH; rw [h]; simp only [if_pos c]
theorem endR_big {n : Nat} (h : (n : Int) > 300) : endR n = badR := if_pos h
theorem endR_small {n : Nat} (h : ¬ (n : Int) > 300) : endR n = moreR := if_neg h
theorem doneR_no {n : Nat} {y : List UInt8} {a : ByteArray} {l : List S41} (h : ¬ headB a l = true) : doneR n y a l = badR := if_neg fun h2 => h h2.1
theorem doneR_big {n : Nat} {y : List UInt8} {a : ByteArray} {l : List S41} (h : ((n - y.length : Nat) : Int) > 300) : doneR n y a l = badR := if_neg fun h2 => by have := h2.2; omega
theorem doneR_ok {n : Nat} {y : List UInt8} {a : ByteArray} {l : List S41} (hb : headB a l = true) (h : ¬ ((n - y.length : Nat) : Int) > 300) : doneR n y a l = (a, l, ((n - y.length : Nat) : Int), 0) := if_pos ⟨hb, by omega⟩
theorem cut_crlf (s : ByteArray) (hs : s.size ≤ 4000000000) : strings_Cut.f s (⟨#[13, 10]⟩ : ByteArray) = some (ba (ct [13, 10] s.data.toList).1, ba (ct [13, 10] s.data.toList).2.1, (ct [13, 10] s.data.toList).2.2) := cut_ev s ⟨#[13, 10]⟩ (by simp) hs
/-- The fields read so far. -/
def okF (l : List S41) : Prop := l.length ≤ 8 ∧ ∀ f ∈ l, f.f0.size ≤ 20 ∧ f.f1.size ≤ 60
theorem okF_hsz {l : List S41} (h : ∀ f ∈ l, f.f0.size ≤ 20 ∧ f.f1.size ≤ 60) : hsz l ≤ 84 * l.length := by
  induction l with
  | nil => simp [hsz]
  | cons f r ih =>
    have h1 := h f (by simp)
    have h2 := ih (fun g hg => h g (by simp [hg]))
    rw [hsz, List.length_cons]; omega
theorem fld_size {n v : ByteArray} (h : fieldB n v = true) : n.size ≤ 20 ∧ v.size ≤ 60 := by
  unfold fieldB nameB at h
  simp only [Bool.and_eq_true, decide_eq_true_iff] at h
  omega
theorem fldL_size {t : List UInt8} {f : S41} (h : fldL t = some f) : f.f0.size ≤ 20 ∧ f.f1.size ≤ 60 := by
  unfold fldL at h
  split at h
  · rename_i c
    obtain rfl := Option.some.inj h
    exact fld_size c.2
  · cases h
theorem okF_add {l : List S41} {t : List UInt8} {f : S41} (h : okF l) (h8 : l.length ≠ 8) (hf : fldL t = some f) : okF (l ++ [f]) := by
  refine ⟨by rw [List.length_append, List.length_singleton]; have := h.1; omega, fun g hg => ?_⟩
  rcases List.mem_append.1 hg with hg | hg
  · exact h.2 g hg
  · rw [List.mem_singleton] at hg; subst hg; exact fldL_size hf
theorem inB_cl {l : List UInt8} (h : cl l = false) : inB 32 126 l = false := by
  obtain ⟨b, hb, h⟩ := cl_ex h
  unfold inB
  rw [List.all_eq_false]
  refine ⟨b, hb, ?_⟩
  rcases h with rfl | rfl <;> decide
theorem nmB_map {l : List UInt8} (h : cl l = false) : nmB (l.map impl_lower.one) = false := by
  obtain ⟨b, hb, h⟩ := cl_ex h
  unfold nmB
  rw [List.all_eq_false]
  refine ⟨impl_lower.one b, List.mem_map_of_mem hb, ?_⟩
  rcases h with rfl | rfl <;> decide
theorem trim_mem {l : List UInt8} {b : UInt8} (hb : b ∈ l) (h : b ≠ 32) : b ∈ Lib.trimB l 32 := by
  have hm : ∀ m : List UInt8, b ∈ m → b ∈ m.dropWhile (· == (32 : UInt8)) := fun m hm => by
    have := List.takeWhile_append_dropWhile (p := (· == (32 : UInt8))) (l := m)
    rw [← this] at hm
    rcases List.mem_append.1 hm with hm | hm
    · have := List.all_eq_true.1 (List.all_takeWhile (p := (· == (32 : UInt8))) (l := m)) b hm
      exact absurd (beq_iff_eq.1 this) h
    · exact hm
  unfold Lib.trimB Lib.trimLeftB Lib.trimRightB
  refine hm _ ?_
  rw [List.mem_reverse]
  refine hm _ ?_
  rw [List.mem_reverse]
  exact hb
theorem fldL_cl {t : List UInt8} (h : cl t = false) : fldL t = none := by
  unfold fldL
  by_cases c : (ct [58] t).2.2 = true
  · rw [if_neg]
    rintro ⟨_, hf⟩
    have e := ct_true c
    unfold fldF fieldB nameB at hf
    simp only [Bool.and_eq_true, ba_toL] at hf
    rw [e, cl_app, cl_app] at h
    by_cases c1 : cl (ct [58] t).1 = true
    · rw [c1] at h
      have h2 : cl (ct [58] t).2.1 = false := by
        simpa [cl] using h
      obtain ⟨b, hb, hh⟩ := cl_ex h2
      have hm := trim_mem hb (by rcases hh with rfl | rfl <;> decide)
      have h3 : cl (Lib.trimB (ct [58] t).2.1 32) = false := by
        unfold cl
        rw [List.all_eq_false]
        refine ⟨b, hm, ?_⟩
        rcases hh with rfl | rfl <;> decide
      rw [inB_cl h3] at hf
      simp at hf
    · rw [nmB_map (Bool.eq_false_iff.2 c1)] at hf
      simp at hf
  · rw [if_neg (fun h => c h.1)]
theorem ct_shrink {t : List UInt8} (h : (ct [13, 10] t).2.2 = true) : (ct [13, 10] t).1.length + 2 + (ct [13, 10] t).2.1.length = t.length := by
  have := congrArg List.length (ct_true h)
  simp only [List.length_append, List.length_cons, List.length_nil] at this
  omega
theorem rd_impl_l (s : ByteArray) (a : ByteArray) (hs : s.size ≤ 1048576) (ha : a.size ≤ 1048576) (ha0 : 0 < a.size) (d : Nat) : ∀ (t : List UInt8) (i : Int) (l : List S41), t.length < d → t.length ≤ s.size → 0 < i → i + t.length ≤ 4194304 → okF l → Ev (fun k => impl_ReadHead.l0 k s (ba t) i a l) (rdL s.size d t a l) := by
  have ea : (a.toList == ([] : List UInt8)) = false := by
    rw [toL, beq_eq_false_iff_ne]
    intro h
    have := congrArg List.length h
    rw [sizeL, List.length_nil] at this
    omega
  induction d with
  | zero => intro t i l h; omega
  | succ d ih =>
    intro t i l hd ht hi0 hi1 hok
    have hz := okF_hsz hok.2
    have h8 := hok.1
    refine Ev.succ ?_
    simp only [impl_ReadHead.l0]
    have e0 := cut_crlf (ba t) (by rw [ba_size]; omega)
    rw [ba_toL] at e0
    refine Ev.via e0 ?_
    by_cases c : (ct [13, 10] t).2.2 = true
    · have hln := ln_true t c
      have hsh := ct_shrink c
      refine Ev.yes c (Ev.no (by omega) ?_)
      simp only [ba_list, ba_size]
      by_cases q : cl (ct [13, 10] t).1 = true
      · rw [if_pos q] at hln
        by_cases x0 : (ct [13, 10] t).1 = []
        · rw [x0] at hln
          rw [rdL_done hln]
          refine Ev.yes x0 (Ev.bind (headOk_impl a l (by omega) (by omega)) ?_)
          have hw : wrap64 ((s.size : Int) - ((ct [13, 10] t).2.1.length : Int)) = ((s.size - (ct [13, 10] t).2.1.length : Nat) : Int) := by rw [w64 (by omega) (by omega)]; omega
          rw [hw]
          by_cases hb : headB a l = true
          · refine Ev.yes hb (Ev.succ ?_)
            simp only [impl_ReadHead.j1]
            by_cases g : ((s.size - (ct [13, 10] t).2.1.length : Nat) : Int) > 300
            · rw [doneR_big g]
              exact Ev.yes (decide_eq_true g) (Ev.now _)
            · rw [doneR_ok hb g]
              exact Ev.no (by rw [decide_eq_false g]; simp) (Ev.now _)
          · rw [doneR_no hb]
            refine Ev.no hb (Ev.succ ?_)
            simp only [impl_ReadHead.j1]
            exact Ev.yes trivial (Ev.now _)
        · refine Ev.no x0 ?_
          obtain ⟨r, er, hr⟩ := readField_ev (ba (ct [13, 10] t).1) (by rw [ba_size]; omega)
          rw [ba_toL] at hr
          refine Ev.bind er ?_
          rcases hr with ⟨hn, hf⟩ | ⟨f, hn, h1, h2, h3⟩
          · rw [rdL_bad hln x0 hn]; exact Ev.no (by rw [hf]; simp) (Ev.now _)
          · refine Ev.yes h3 ?_
            by_cases g : l.length = 8
            · rw [rdL_full hln x0 hn g]; exact Ev.yes (by omega) (Ev.now _)
            · rw [rdL_go hln x0 hn g, h1, h2, w64 (n := i + 1) (by omega) (by omega)]
              exact Ev.no (by omega) (Ev.yes (by omega) (ih _ (i + 1) (l ++ [f]) (by omega) (by omega) (by omega) (by omega) (okF_add hok g hn)))
      · rw [if_neg q] at hln
        rw [rdL_none hln]
        have x0 : (ct [13, 10] t).1 ≠ [] := by intro h; rw [h] at q; exact q rfl
        refine Ev.no x0 ?_
        obtain ⟨r, er, hr⟩ := readField_ev (ba (ct [13, 10] t).1) (by rw [ba_size]; omega)
        rw [ba_toL, fldL_cl (Bool.eq_false_iff.2 q)] at hr
        refine Ev.bind er ?_
        rcases hr with ⟨_, hf⟩ | ⟨f, hn, _⟩
        · exact Ev.no (by rw [hf]; simp) (Ev.now _)
        · cases hn
    · have hln := ln_false t (Bool.eq_false_iff.2 c)
      refine Ev.no c ?_
      by_cases q : cl (chop t) = true
      · rw [if_pos q] at hln
        rw [rdL_more hln]
        by_cases g : (s.size : Int) > 300
        · rw [endR_big g]; exact Ev.yes g (Ev.now _)
        · rw [endR_small g, ea]
          have er := restOk_ev (ba t) false (by rw [ba_size]; omega)
          rw [ba_toL] at er
          exact Ev.no g (Ev.bind er (Ev.yes (by unfold restB; rw [q]; rfl) (Ev.now _)))
      · rw [if_neg q] at hln
        rw [rdL_none hln]
        by_cases g : (s.size : Int) > 300
        · exact Ev.yes g (Ev.now _)
        · rw [ea]
          have er := restOk_ev (ba t) false (by rw [ba_size]; omega)
          rw [ba_toL] at er
          exact Ev.no g (Ev.bind er (Ev.no (by unfold restB; rw [Bool.eq_false_iff.2 q]; simp) (Ev.now _)))
theorem rd_impl (s : ByteArray) (hs : s.size ≤ 1048576) : Ev (fun k => impl_ReadHead.f k s) (rdH s.data.toList) := by
  simp only [impl_ReadHead.f]
  have hL := sizeL s
  refine Ev.succ ?_
  simp only [impl_ReadHead.l0]
  refine Ev.via (cut_crlf s (by omega)) ?_
  by_cases c : (ct [13, 10] s.data.toList).2.2 = true
  · have hln := ln_true _ c
    have hsh := ct_shrink c
    refine Ev.yes c (Ev.yes trivial (Ev.bind (isLine_ev _ (by rw [ba_size]; omega)) ?_))
    by_cases q : cl (ct [13, 10] s.data.toList).1 = true
    · rw [if_pos q] at hln
      by_cases g : lineB (ba (ct [13, 10] s.data.toList).1) = true
      · rw [rdH_go hln g, hL]
        have h1 : 0 < (ba (ct [13, 10] s.data.toList).1).size := by
          unfold lineB at g
          simp only [Bool.and_eq_true, decide_eq_true_iff] at g
          omega
        rw [show wrap64 (0 + 1) = 1 from by rw [w64 (by omega) (by omega)]; rfl]
        exact Ev.yes g (rd_impl_l s _ hs (by rw [ba_size]; omega) h1 s.size (ct [13, 10] s.data.toList).2.1 1 [] (by omega) (by omega) (by omega) (by omega) ⟨by simp, by simp⟩)
      · rw [rdH_bad hln g]; exact Ev.no g (Ev.now _)
    · rw [if_neg q] at hln
      rw [rdH_none hln]
      have : lineB (ba (ct [13, 10] s.data.toList).1) = false := by
        unfold lineB; rw [ba_toL, inB_cl (Bool.eq_false_iff.2 q), Bool.and_false]
      rw [this]
      exact Ev.no (by simp) (Ev.now _)
  · have hln := ln_false _ (Bool.eq_false_iff.2 c)
    refine Ev.no c ?_
    have er : Ev (fun k => impl_restOk.f k s ((⟨#[]⟩ : ByteArray).toList == ([] : List UInt8))) (restB s.data.toList true) := by
      rw [show ((⟨#[]⟩ : ByteArray).toList == ([] : List UInt8)) = true from by rw [toL]; rfl]
      exact restOk_ev s true (by omega)
    by_cases q : cl (chop s.data.toList) = true
    · rw [if_pos q] at hln
      by_cases g2 : (inB 32 126 (chop s.data.toList) && decide (((chop s.data.toList).length : Int) ≤ 80)) = true
      · rw [rdH_more hln g2, hL]
        by_cases g : (s.size : Int) > 300
        · rw [endR_big g]; exact Ev.yes g (Ev.now _)
        · rw [endR_small g]
          refine Ev.no g (Ev.bind er (Ev.yes ?_ (Ev.now _)))
          unfold restB
          rw [q, Bool.and_comm (decide _), g2]; rfl
      · rw [rdH_part hln g2]
        by_cases g : (s.size : Int) > 300
        · exact Ev.yes g (Ev.now _)
        · refine Ev.no g (Ev.bind er (Ev.no ?_ (Ev.now _)))
          unfold restB
          rw [q, Bool.and_comm (decide _), Bool.eq_false_iff.2 g2]; simp
    · rw [if_neg q] at hln
      rw [rdH_none hln]
      by_cases g : (s.size : Int) > 300
      · exact Ev.yes g (Ev.now _)
      · exact Ev.no g (Ev.bind er (Ev.no (by unfold restB; rw [Bool.eq_false_iff.2 q]; simp) (Ev.now _)))
end Go.Proofs.YthjigecaojaalaaDoor.Q
namespace Go.Proofs.YthjigecaojaalaaDoor.Q
open Go.RowKit Go.Proofs.YthjigecaojaalaaDoorW.PrintWords Go.Proofs.YthjigecaojaalaaDoorW.PrintLast Go.Proofs.YthjigecaojaalaaDoorW.PrintMore
theorem ln_at {x : List UInt8} (h : cl x = true) (y : List UInt8) : ln (x ++ 13 :: 10 :: y) = some (x, some y) := by
  induction x with
  | nil => simp [ln, ln13]
  | cons b x ih =>
    rw [cl_cons] at h
    simp only [Bool.and_eq_true, Bool.not_eq_true', beq_eq_false_iff_ne] at h
    rw [List.cons_append, ln, if_neg h.1.1, if_neg h.1.2, ih h.2, lnC]
theorem ct_at {c : UInt8} {x : List UInt8} (h : ∀ b ∈ x, b ≠ c) (y : List UInt8) : ct [c] (x ++ c :: y) = (x, y, true) := by
  induction x with
  | nil => rw [List.nil_append, ct1, if_pos rfl]
  | cons b x ih =>
    rw [List.cons_append, ct1, if_neg (h b (by simp)), ih (fun d hd => h d (by simp [hd]))]
    simp
theorem cl_of {l : List UInt8} (h : ∀ b ∈ l, b ≠ 10 ∧ b ≠ 13) : cl l = true := by
  unfold cl
  rw [List.all_eq_true]
  intro b hb
  have := h b hb
  simp [this.1, this.2]
theorem inB_of {l : List UInt8} (h : inB 32 126 l = true) : cl l = true := cl_of fun b hb => by
  unfold inB at h
  have := of_decide_eq_true (List.all_eq_true.1 h b hb)
  exact ⟨fun e => by rw [e] at this; exact absurd this (by decide), fun e => by rw [e] at this; exact absurd this (by decide)⟩
theorem nm_mem {l : List UInt8} (h : nmB l = true) {b : UInt8} (hb : b ∈ l) : b ≠ 10 ∧ b ≠ 13 ∧ b ≠ 58 ∧ impl_lower.one b = b := by
  unfold nmB at h
  have := of_decide_eq_true (List.all_eq_true.1 h b hb)
  refine ⟨fun e => by rw [e] at this; exact absurd this (by decide), fun e => by rw [e] at this; exact absurd this (by decide), fun e => by rw [e] at this; exact absurd this (by decide), ?_⟩
  unfold impl_lower.one
  rw [if_neg (by omega)]
/-- A field's line. -/
def lineL (f : S41) : List UInt8 := f.f0.data.toList ++ 58 :: 32 :: f.f1.data.toList
theorem field_parts {f : S41} (h : fieldB f.f0 f.f1 = true) : nmB f.f0.data.toList = true ∧ 0 < f.f0.size ∧ inB 32 126 f.f1.data.toList = true ∧ Lib.trimB f.f1.data.toList 32 = f.f1.data.toList := by
  unfold fieldB nameB edgeB at h
  simp only [Bool.and_eq_true, decide_eq_true_iff] at h
  exact ⟨h.1.1, by omega, h.2.2.1, h.2.2.2⟩
theorem lineL_cl {f : S41} (h : fieldB f.f0 f.f1 = true) : cl (lineL f) = true := by
  obtain ⟨h1, _, h3, _⟩ := field_parts h
  unfold lineL
  have e1 : cl f.f0.data.toList = true := cl_of fun b hb => ⟨(nm_mem h1 hb).1, (nm_mem h1 hb).2.1⟩
  rw [cl_app, e1, cl_cons, cl_cons, inB_of h3]
  decide
theorem lineL_ne {f : S41} (_ : fieldB f.f0 f.f1 = true) : lineL f ≠ [] := by
  unfold lineL; simp
theorem lineL_fld {f : S41} (h : fieldB f.f0 f.f1 = true) : fldL (lineL f) = some f := by
  obtain ⟨h1, _, h3, h4⟩ := field_parts h
  have e := ct_at (c := 58) (x := f.f0.data.toList) (fun b hb => (nm_mem h1 hb).2.2.1) (32 :: f.f1.data.toList)
  have em : f.f0.data.toList.map impl_lower.one = f.f0.data.toList := by
    conv => rhs; rw [← List.map_id f.f0.data.toList]
    exact List.map_congr_left fun b hb => (nm_mem h1 hb).2.2.2
  have et : Lib.trimB (32 :: f.f1.data.toList) 32 = f.f1.data.toList := by
    rw [← trim_swap]
    have : Lib.trimLeftB (32 :: f.f1.data.toList) 32 = Lib.trimLeftB f.f1.data.toList 32 := by unfold Lib.trimLeftB; rw [List.dropWhile_cons_of_pos (by simp)]
    rw [this, trim_swap, h4]
  unfold fldL fldF lineL
  simp only [e, em, et, ba_of]
  rw [if_pos ⟨trivial, h⟩]
theorem fieldsT_L (f : S41) (r : List S41) (z : List UInt8) : (fieldsT (f :: r) ++ crlf).data.toList ++ z = lineL f ++ 13 :: 10 :: ((fieldsT r ++ crlf).data.toList ++ z) := by
  simp [fieldsT, lineF, crlf, lineL]
theorem crlf_L (z : List UInt8) : (fieldsT ([] : List S41) ++ crlf).data.toList ++ z = 13 :: 10 :: z := by
  simp [fieldsT, crlf]
theorem rd_back_l (n : Nat) (a : ByteArray) (z : List UInt8) (r : List S41) : ∀ (d : Nat) (l : List S41), ((fieldsT r ++ crlf).data.toList ++ z).length < d → fieldsB r = true → headB a (l ++ r) = true → l.length + r.length ≤ 8 → ¬ ((n - z.length : Nat) : Int) > 300 → rdL n d ((fieldsT r ++ crlf).data.toList ++ z) a l = (a, l ++ r, ((n - z.length : Nat) : Int), 0) := by
  induction r with
  | nil =>
    intro d l hd hf hb hl hn
    cases d with
    | zero => omega
    | succ d =>
      rw [List.append_nil] at hb ⊢
      rw [crlf_L, rdL_done (show ln (13 :: 10 :: z) = some ([], some z) from ln_at (x := []) rfl z), doneR_ok hb hn]
  | cons f r ih =>
    intro d l hd hf hb hl hn
    cases d with
    | zero => omega
    | succ d =>
      rw [fieldsB_cons, Bool.and_eq_true] at hf
      rw [List.length_cons] at hl
      rw [fieldsT_L, List.length_append, List.length_cons, List.length_cons] at hd
      rw [fieldsT_L, rdL_go (ln_at (lineL_cl hf.1) _) (lineL_ne hf.1) (lineL_fld hf.1) (by omega), ih d (l ++ [f]) (by omega) hf.2 (by rw [List.append_assoc]; exact hb) (by rw [List.length_append, List.length_singleton]; omega) hn, List.append_assoc]
      rfl
theorem headT_L (a : ByteArray) (l : List S41) (z : List UInt8) : (headT a l).data.toList ++ z = a.data.toList ++ 13 :: 10 :: ((fieldsT l ++ crlf).data.toList ++ z) := by
  simp [headT, crlf]
theorem head_parts {a : ByteArray} {l : List S41} (h : headB a l = true) : fieldsB l = true ∧ lineB a = true ∧ l.length ≤ 8 ∧ (headT a l).size ≤ 300 := by
  unfold headB at h
  simp only [Bool.and_eq_true, decide_eq_true_iff] at h
  exact ⟨h.1, h.2.1, by omega, by omega⟩
theorem line_parts {a : ByteArray} (h : lineB a = true) : cl a.data.toList = true ∧ 0 < a.size ∧ a.size ≤ 80 ∧ inB 32 126 a.data.toList = true := by
  unfold lineB at h
  simp only [Bool.and_eq_true, decide_eq_true_iff] at h
  exact ⟨inB_of h.2, by omega, by omega, h.2⟩
theorem rd_back {a : ByteArray} {l : List S41} (h : headB a l = true) (z : List UInt8) : rdH ((headT a l).data.toList ++ z) = (a, l, ((headT a l).size : Int), 0) := by
  obtain ⟨h1, h2, h3, h4⟩ := head_parts h
  obtain ⟨h5, _⟩ := line_parts h2
  have e := headT_L a l z
  have hz : ((headT a l).data.toList ++ z).length - z.length = (headT a l).size := by rw [List.length_append, sizeL]; omega
  have hlt : ((fieldsT l ++ crlf).data.toList ++ z).length < ((headT a l).data.toList ++ z).length := by
    rw [e]; simp only [List.length_append, List.length_cons]; omega
  rw [rdH_go (by rw [e]; exact ln_at h5 _) (by rw [ba_of]; exact h2), ba_of, rd_back_l _ a z l _ [] hlt h1 h (by rw [List.length_nil]; omega) (by rw [hz]; omega), hz]
  rfl
end Go.Proofs.YthjigecaojaalaaDoor.Q
namespace Go.Proofs.YthjigecaojaalaaDoor.Q
open Go.RowKit Go.Proofs.YthjigecaojaalaaDoorW.PrintWords Go.Proofs.YthjigecaojaalaaDoorW.PrintLast Go.Proofs.YthjigecaojaalaaDoorW.PrintMore
theorem and255v (a : Int) : Go.bits .and .i64 a 255 = a % 256 := by
  unfold Go.bits
  simp only [IntKind.wrap_i64]
  have e1 : (BitVec.ofInt IntKind.i64.bits a).toNat = (a % 18446744073709551616).toNat := by rw [BitVec.toNat_ofInt]; rfl
  have e2 : (BitVec.ofInt IntKind.i64.bits 255).toNat = 2 ^ 8 - 1 := by decide
  rw [BitVec.toNat_and, e1, e2, Nat.and_two_pow_sub_one_eq_mod]
  omega
/-- A place in the code that is drawn from. -/
def cu (l : List Int) (i : Int) : Prop := (0 ≤ i ∧ i ≤ l.length) ∧ l.length ≤ 4611686018427387904
theorem byte_ok (l : List Int) (i h : Int) (hc : cu l i) : ∃ x i' h', spec_l01Byte.f l i h = some (x, i', h') ∧ 0 ≤ x ∧ x ≤ 255 ∧ cu l i' := by
  obtain ⟨⟨h0, h1⟩, hl⟩ := hc
  unfold spec_l01Byte.f
  by_cases c : i < (l.length : Int)
  · rw [if_pos c, if_pos h0, w64 (n := i + 1) (by omega) (by omega), and255v]
    exact ⟨_, _, _, rfl, by omega, by omega, ⟨by omega, by omega⟩, hl⟩
  · rw [if_neg c, and255v]
    exact ⟨_, _, _, rfl, by omega, by omega, ⟨by omega, by omega⟩, hl⟩
theorem below_ok (l : List Int) (i h n : Int) (hn : 1 ≤ n) (hc : cu l i) : ∃ x i' h', spec_l01Below.f l i h n = some (x, i', h') ∧ 0 ≤ x ∧ x < n ∧ cu l i' := by
  unfold spec_l01Below.f
  obtain ⟨x1, i1, g1, e1, a1, b1, c1⟩ := byte_ok l i h hc
  rw [if_neg (by omega), e1]
  simp only [Option.bind_some]
  by_cases c : n ≤ 256
  · rw [if_pos c, if_neg (by omega), Int.tmod_eq_emod_of_nonneg a1]
    exact ⟨_, _, _, rfl, Int.emod_nonneg _ (by omega), Int.emod_lt_of_pos _ (by omega), c1⟩
  · obtain ⟨x2, i2, g2, e2, a2, b2, c2⟩ := byte_ok l i1 g1 c1
    obtain ⟨x3, i3, g3, e3, a3, b3, c3⟩ := byte_ok l i2 g2 c2
    obtain ⟨x4, i4, g4, e4, a4, b4, c4⟩ := byte_ok l i3 g3 c3
    rw [if_neg c, e2]
    simp only [Option.bind_some]
    rw [e3]
    simp only [Option.bind_some]
    rw [e4]
    simp only [Option.bind_some]
    rw [w64 (n := x1 * 16777216) (by omega) (by omega), w64 (n := x2 * 65536) (by omega) (by omega), w64 (n := x3 * 256) (by omega) (by omega), w64 (n := x1 * 16777216 + x2 * 65536) (by omega) (by omega), w64 (n := x1 * 16777216 + x2 * 65536 + x3 * 256) (by omega) (by omega),
      w64 (n := x1 * 16777216 + x2 * 65536 + x3 * 256 + x4) (by omega) (by omega), if_neg (by omega), Int.tmod_eq_emod_of_nonneg (by omega)]
    exact ⟨_, _, _, rfl, Int.emod_nonneg _ (by omega), Int.emod_lt_of_pos _ (by omega), c4⟩
theorem byteP (l : List Int) (i h : Int) (hc : cu l i) : EvP (fun _ => spec_l01Byte.f l i h) (fun r => (0 ≤ r.1 ∧ r.1 ≤ 255) ∧ cu l r.2.1) := by
  obtain ⟨x, i', h', e, a, b, c⟩ := byte_ok l i h hc
  exact EvP.const e ⟨⟨a, b⟩, c⟩
theorem belowP (l : List Int) (i h n : Int) (hn : 1 ≤ n) (hc : cu l i) : EvP (fun _ => spec_l01Below.f l i h n) (fun r => (0 ≤ r.1 ∧ r.1 < n) ∧ cu l r.2.1) := by
  obtain ⟨x, i', h', e, a, b, c⟩ := below_ok l i h n hn hc
  exact EvP.const e ⟨⟨a, b⟩, c⟩
theorem cu_zero {l : List Int} (hl : l.length ≤ 4611686018427387904) : cu l 0 := ⟨⟨by omega, by omega⟩, hl⟩
theorem newP_l (l : List Int) (hl : l.length ≤ 4611686018427387904) (d : Nat) : ∀ (h : Int) (i : Nat), i ≤ l.length → l.length - i = d → EvP (fun k => spec_l01New.l0 k l h (i : Int)) (fun r => r.1 = l ∧ cu l r.2.1) := by
  induction d with
  | zero => intro h i hi hd; refine EvP.succ ?_; simp only [spec_l01New.l0]; exact EvP.no (by omega) (EvP.ret ⟨rfl, cu_zero hl⟩)
  | succ d ih =>
    intro h i hi hd
    have hlt : i < l.length := by omega
    refine EvP.succ ?_
    simp only [spec_l01New.l0]
    refine EvP.yes (by omega) (EvP.ite (fun c => EvP.yes (by omega) ?_) (fun c => EvP.ret ⟨rfl, cu_zero hl⟩))
    rw [wnat i _ hlt (by omega)]
    exact ih _ (i + 1) (by omega) (by omega)
theorem newP (l : List Int) (hl : l.length ≤ 4611686018427387904) : EvP (fun k => spec_l01New.f k l) (fun r => r.1 = l ∧ cu l r.2.1) := newP_l l hl l.length _ 0 (by omega) (by omega)
end Go.Proofs.YthjigecaojaalaaDoor.Q
namespace Go.Proofs.YthjigecaojaalaaDoor.Q
open Go.RowKit Go.Proofs.YthjigecaojaalaaDoorW.PrintWords Go.Proofs.YthjigecaojaalaaDoorW.PrintLast Go.Proofs.YthjigecaojaalaaDoorW.PrintMore
theorem pickM (l : List Int) (i h : Int) (x : List ByteArray) (hx : 1 ≤ x.length) (hm : x.length ≤ 1000) (hc : cu l i) : EvP (fun _ => spec_l01Pick.f l i h x) (fun r => r.1 ∈ x ∧ cu l r.2.1) := by
  simp only [spec_l01Pick.f]
  refine EvP.bind (belowP l i h _ (by omega) hc) fun r hr => EvP.yes hr.1.1 (EvP.yes hr.1.2 (EvP.ret ⟨?_, hr.2⟩))
  unfold rdOf
  have hlt : r.1.toNat < x.length := by omega
  simp only [List.getD_eq_getElem?_getD, List.getElem?_eq_getElem hlt, Option.getD_some]
  exact List.getElem_mem hlt
end Go.Proofs.YthjigecaojaalaaDoor.Q
namespace Go.Proofs.YthjigecaojaalaaDoor.Q
open Go.RowKit Go.Proofs.YthjigecaojaalaaDoorW.PrintWords Go.Proofs.YthjigecaojaalaaDoorW.PrintLast Go.Proofs.YthjigecaojaalaaDoorW.PrintMore
def names6 : List ByteArray := [(⟨#[99, 97, 99, 104, 101, 45, 99, 111, 110, 116, 114, 111, 108]⟩ : ByteArray), (⟨#[104, 111, 115, 116]⟩ : ByteArray), (⟨#[99, 111, 110, 116, 101, 110, 116, 45, 108, 101, 110, 103, 116, 104]⟩ : ByteArray), (⟨#[120]⟩ : ByteArray), (⟨#[97, 117, 116, 104, 111, 114, 105, 122, 97, 116, 105, 111, 110]⟩ : ByteArray), (⟨#[116, 114, 97, 110, 115, 102, 101, 114, 45, 101, 110, 99, 111, 100, 105, 110, 103]⟩ : ByteArray)]
def values10 : List ByteArray := [(⟨#[]⟩ : ByteArray), (⟨#[97]⟩ : ByteArray), (⟨#[110, 111, 45, 115, 116, 111, 114, 101]⟩ : ByteArray), (⟨#[109, 97, 120, 45, 97, 103, 101, 61, 54, 48]⟩ : ByteArray), (⟨#[109, 97, 120, 45, 97, 103, 101, 61, 53, 44, 32, 112, 114, 105, 118, 97, 116, 101]⟩ : ByteArray), (⟨#[115, 45, 109, 97, 120, 97, 103, 101, 61, 57]⟩ : ByteArray), (⟨#[49, 50]⟩ : ByteArray), (⟨#[99, 104, 117, 110, 107, 101, 100]⟩ : ByteArray), (⟨#[98, 32, 32, 99]⟩ : ByteArray), (⟨#[51]⟩ : ByteArray)]
def lines6 : List ByteArray := [(⟨#[71, 69, 84, 32, 47, 97, 32, 72, 84, 84, 80, 47, 49, 46, 49]⟩ : ByteArray), (⟨#[71, 69, 84, 32, 47, 98, 32, 72, 84, 84, 80, 47, 49, 46, 49]⟩ : ByteArray), (⟨#[72, 84, 84, 80, 47, 49, 46, 49, 32, 50, 48, 48, 32, 111, 107]⟩ : ByteArray), (⟨#[72, 84, 84, 80, 47, 49, 46, 49, 32, 52, 48, 52, 32, 110, 111]⟩ : ByteArray), (⟨#[80, 79, 83, 84, 32, 47, 97, 32, 72, 84, 84, 80, 47, 49, 46, 49]⟩ : ByteArray), (⟨#[120]⟩ : ByteArray)]
def dF (f : S41) : Prop := f.f0 ∈ names6 ∧ f.f1 ∈ values10
theorem fieldM (l : List Int) (i h : Int) (hc : cu l i) : EvP (fun _ => spec_l09FieldOf.f l i h) (fun r => dF ⟨r.1, r.2.1⟩ ∧ cu l r.2.2.1) := by
  simp only [spec_l09FieldOf.f]
  refine EvP.bind (pickM l _ _ _ (by decide) (by decide) hc) fun a ha => EvP.bind (pickM l _ _ _ (by decide) (by decide) ha.2) fun b hb => EvP.ret ⟨⟨ha.1, hb.1⟩, hb.2⟩
def dFs (l : List S41) : Prop := l.length ≤ 3 ∧ ∀ f ∈ l, dF f
theorem headM_l (l : List Int) (a : ByteArray) (d : Nat) : ∀ (x : List S41) (j : Nat) (i h : Int), x.length = j → j ≤ 3 → 4 - j = d → dFs x → cu l i → EvP (fun k => spec_l09Head.l0 k (j : Int) l i h a x) (fun r => r.1 = a ∧ dFs r.2.1 ∧ cu l r.2.2.1) := by
  induction d with
  | zero => intro x j i h h0 h1 h2; omega
  | succ d ih =>
    intro x j i h h0 h1 h2 hf hc
    refine EvP.succ ?_
    simp only [spec_l09Head.l0]
    refine EvP.bind (belowP l _ _ 4 (by omega) hc) fun y hy => EvP.ite (fun c => ?_) (fun _ => EvP.ret ⟨rfl, hf, hy.2⟩)
    rw [wnat j 4 (by omega) (by omega)]
    refine EvP.bind (fieldM l _ _ hy.2) fun q hq => EvP.yes (by omega) (ih _ (j + 1) _ _ (by simp; omega) (by omega) (by omega) ⟨by simp; omega, fun f hm => ?_⟩ hq.2)
    rcases List.mem_append.mp hm with hm | hm
    · exact hf.2 f hm
    · rw [List.mem_singleton.mp hm]; exact hq.1
theorem headM (l : List Int) (i h : Int) (hc : cu l i) : EvP (fun k => spec_l09Head.f k l i h) (fun r => r.1 ∈ lines6 ∧ dFs r.2.1 ∧ cu l r.2.2.1) := by
  simp only [spec_l09Head.f]
  refine EvP.bind (pickM l _ _ _ (by decide) (by decide) hc) fun a ha => ?_
  refine (headM_l l a.1 4 [] 0 _ _ rfl (by omega) (by omega) ⟨by simp, fun f hf => absurd hf (by simp)⟩ ha.2).imp fun r hr => ?_
  exact ⟨by rw [hr.1]; exact ha.1, hr.2⟩
end Go.Proofs.YthjigecaojaalaaDoor.Q
namespace Go.Proofs.YthjigecaojaalaaDoor.Q
open Go.RowKit Go.Proofs.YthjigecaojaalaaDoorW.PrintWords Go.Proofs.YthjigecaojaalaaDoorW.PrintLast Go.Proofs.YthjigecaojaalaaDoorW.PrintMore
def Pl (r : List Int) : Prop := r.length = 12 ∧ ∀ p ∈ r, 0 ≤ p ∧ p < 10000
theorem placesP_l (l : List Int) (d : Nat) : ∀ (i : Nat) (x : List Int) (ci ch : Int), i ≤ 12 → 12 - i = d → x.length = i → (∀ p ∈ x, 0 ≤ p ∧ p < 10000) → cu l ci → EvP (fun k => spec_DrawPlaces.l0 k x (i : Int) l ci ch) Pl := by
  induction d with
  | zero =>
    intro i x ci ch hi hd hx hp hc
    refine EvP.succ ?_
    simp only [spec_DrawPlaces.l0]
    exact EvP.no (by omega) (EvP.ret ⟨by omega, hp⟩)
  | succ d ih =>
    intro i x ci ch hi hd hx hp hc
    refine EvP.succ ?_
    simp only [spec_DrawPlaces.l0]
    rw [wnat i 12 (by omega) (by omega)]
    refine EvP.yes (by omega) (EvP.bind (belowP l _ _ 10000 (by omega) hc) fun y hy => EvP.yes (by omega) ?_)
    refine ih (i + 1) _ _ _ (by omega) (by omega) (by simp; omega) (fun p h => ?_) hy.2
    rcases List.mem_append.mp h with h | h
    · exact hp p h
    · rw [List.mem_singleton.mp h]; exact hy.1
theorem placesP (l : List Int) (hl : l.length ≤ 4611686018427387904) : EvP (fun k => spec_DrawPlaces.f k l) Pl := by
  simp only [spec_DrawPlaces.f]
  refine EvP.bind (newP l hl) fun c hc => ?_
  rw [hc.1]
  exact EvP.bind (byteP l _ _ hc.2) fun y hy => placesP_l l 12 0 [] _ _ (by omega) (by omega) rfl (fun p h => absurd h (by simp)) hy.2
end Go.Proofs.YthjigecaojaalaaDoor.Q
namespace Go.Proofs.YthjigecaojaalaaDoor.Q
open Go.RowKit Go.Proofs.YthjigecaojaalaaDoorW.PrintWords Go.Proofs.YthjigecaojaalaaDoorW.PrintLast Go.Proofs.YthjigecaojaalaaDoorW.PrintMore
theorem all_fields : ∀ n ∈ names6, ∀ v ∈ values10, fieldB n v = true ∧ n.size ≤ 20 ∧ v.size ≤ 20 := by decide +kernel
theorem all_lines : ∀ a ∈ lines6, lineB a = true ∧ a.size ≤ 20 := by decide +kernel
end Go.Proofs.YthjigecaojaalaaDoor.Q
namespace Go.Proofs.YthjigecaojaalaaDoor.Q
open Go.RowKit Go.Proofs.YthjigecaojaalaaDoorW.PrintWords Go.Proofs.YthjigecaojaalaaDoorW.PrintLast Go.Proofs.YthjigecaojaalaaDoorW.PrintMore
theorem son_size (x : List Int) : (strOfNums x).size = x.length := by
  show ((List.map (fun n : Int => UInt8.ofNat n.toNat) x).toArray).size = x.length
  simp
end Go.Proofs.YthjigecaojaalaaDoor.Q
namespace Go.Proofs.YthjigecaojaalaaDoor.Q
open Go.RowKit Go.Proofs.YthjigecaojaalaaDoorW.PrintWords Go.Proofs.YthjigecaojaalaaDoorW.PrintLast Go.Proofs.YthjigecaojaalaaDoorW.PrintMore
theorem longP_l (n : Nat) (b : Int) (d : Nat) : ∀ (x : List Int) (i : Nat), x.length = n → n ≤ 1000 → i ≤ n → n - i = d → EvP (fun k => spec_l01Long.l0 k (n : Int) b x (i : Int)) (fun r => r.size = n) := by
  induction d with
  | zero =>
    intro x i hx hn hi hd
    refine EvP.succ ?_
    simp only [spec_l01Long.l0]
    refine EvP.no (by omega) (EvP.ret ?_)
    show (strOfNums x).size = n
    rw [← hx]; exact son_size x
  | succ d ih =>
    intro x i hx hn hi hd
    refine EvP.succ ?_
    simp only [spec_l01Long.l0]
    rw [wnat i n (by omega) (by omega)]
    exact EvP.yes (by omega) (EvP.yes (by omega) (EvP.yes (by omega) (ih _ (i + 1) (by simpa using hx) hn (by omega) (by omega))))
theorem longP (n : Int) (b : Int) (h0 : 0 ≤ n) (h1 : n ≤ 1000) : EvP (fun k => spec_l01Long.f k n b) (fun r => (r.size : Int) = n) := by
  obtain ⟨m, rfl⟩ : ∃ m : Nat, n = (m : Int) := ⟨n.toNat, by omega⟩
  simp only [spec_l01Long.f, Int.toNat_natCast]
  exact EvP.yes (by omega) (EvP.yes (by omega) ((longP_l m b m _ 0 (by simp) (by omega) (by omega) (by omega)).imp fun r hr => by omega))
end Go.Proofs.YthjigecaojaalaaDoor.Q
namespace Go.Proofs.YthjigecaojaalaaDoor.Q
open Go.RowKit Go.Proofs.YthjigecaojaalaaDoorW.PrintWords Go.Proofs.YthjigecaojaalaaDoorW.PrintLast Go.Proofs.YthjigecaojaalaaDoorW.PrintMore
def aOk (a : ByteArray) (l : List S41) : Prop := a.size ≤ 100 ∧ l.length ≤ 9 ∧ ∀ f ∈ l, f.f0.size ≤ 100 ∧ f.f1.size ≤ 100
theorem aOk_hsz {l : List S41} (h : ∀ f ∈ l, f.f0.size ≤ 100 ∧ f.f1.size ≤ 100) : hsz l ≤ 204 * l.length := by
  induction l with
  | nil => simp [hsz]
  | cons f r ih =>
    have h1 := h f (by simp)
    have h2 := ih (fun g hg => h g (by simp [hg]))
    rw [hsz, List.length_cons]; omega
theorem rdOf_size {y : List ByteArray} (h : ∀ b ∈ y, b.size ≤ 100) (n : Int) : (rdOf ByteArray.empty y n).size ≤ 100 := by
  unfold rdOf
  rw [List.getD_eq_getElem?_getD]
  cases e : y[n.toNat]? with
  | none => exact Nat.zero_le _
  | some b => exact h b (List.mem_of_getElem? e)
theorem aOk_set {a : ByteArray} {l : List S41} {f : S41} (h : aOk a l) (hf : f.f0.size ≤ 100 ∧ f.f1.size ≤ 100) : aOk a (l.set 0 f) := by
  refine ⟨h.1, by rw [List.length_set]; exact h.2.1, fun g hg => ?_⟩
  rcases List.mem_or_eq_of_mem_set hg with hg | rfl
  · exact h.2.2 g hg
  · exact hf
theorem any_l (l : List Int) (i h : Int) (hc : cu l i) (x : Int) (hx : 0 ≤ x ∧ x < 60) (a : ByteArray) (_ : a.size ≤ 100) (d : Nat) : ∀ y : List S41, 9 - y.length = d → aOk a y → EvP (fun k => spec_l09Any.l0 k x l i h a y) (fun r => aOk r.1 r.2.1 ∧ cu l r.2.2.1) := by
  have hx0 := hx.1
  have hm : Int.tmod x 2 = x % 2 := Int.tmod_eq_emod_of_nonneg hx.1
  have hm2 : Int.tmod x 40 = x % 40 := Int.tmod_eq_emod_of_nonneg hx.1
  have hw : wrap64 (8 + (Int.tmod x 2)) ≤ 9 := by rw [hm, w64 (by omega) (by omega)]; omega
  induction d with
  | zero =>
    intro y hd hy
    refine EvP.succ ?_
    simp only [spec_l09Any.l0]
    have := hy.2.1
    exact EvP.no (by omega) (EvP.ret ⟨hy, hc⟩)
  | succ d ih =>
    intro y hd hy
    refine EvP.succ ?_
    simp only [spec_l09Any.l0]
    refine EvP.ite (fun c => ?_) (fun _ => EvP.ret ⟨hy, hc⟩)
    rw [hm2]
    refine EvP.bind (longP (x % 40) 97 (by omega) (by omega)) fun t ht => EvP.yes (by omega) (ih _ (by simp; omega) ⟨hy.1, by simp; omega, fun f hf => ?_⟩)
    rcases List.mem_append.1 hf with hf | hf
    · exact hy.2.2 f hf
    · rw [List.mem_singleton.1 hf]; exact ⟨by show (1 : Nat) ≤ 100; omega, by show t.size ≤ 100; omega⟩
theorem anyP (l : List Int) (i h : Int) (hc : cu l i) : EvP (fun k => spec_l09Any.f k l i h) (fun r => aOk r.1 r.2.1 ∧ cu l r.2.2.1) := by
  simp only [spec_l09Any.f, Option.bind_some]
  refine EvP.bind (belowP l _ _ 12 (by omega) hc) fun k hk => EvP.bind (belowP l _ _ 60 (by omega) hk.2) fun x hx => EvP.bind (headM l _ _ hx.2) fun q hq => ?_
  have ha : aOk q.1 q.2.1 := by
    refine ⟨by have := (all_lines _ hq.1).2; omega, by have := hq.2.1.1; omega, fun f hf => ?_⟩
    have h1 := hq.2.1.2 f hf
    have := all_fields _ h1.1 _ h1.2
    omega
  have hc' := hq.2.2
  have x0 := hx.1.1
  rw [Int.tmod_eq_emod_of_nonneg (b := 7) x0, Int.tmod_eq_emod_of_nonneg (b := 5) x0]
  refine EvP.ite (fun _ => ?_) (fun _ => EvP.ite (fun _ => EvP.ite (fun c => ?_) (fun _ => EvP.ret ⟨ha, hc'⟩)) (fun _ => EvP.ite (fun _ => EvP.ite (fun c => ?_) (fun _ => EvP.ret ⟨ha, hc'⟩)) (fun _ => EvP.ite (fun _ => ?_) (fun _ => EvP.ret ⟨ha, hc'⟩))))
  · refine EvP.bind (longP 80 65 (by omega) (by omega)) fun t ht => EvP.bind (longP 81 65 (by omega) (by omega)) fun u hu => EvP.yes (by omega) (EvP.yes (by show x.1 % 7 < 7; omega) (EvP.ret ⟨⟨rdOf_size ?_ _, ha.2⟩, hc'⟩))
    intro b hb
    simp only [List.mem_cons, List.not_mem_nil, or_false] at hb
    rcases hb with rfl | rfl | rfl | rfl | rfl | rfl | rfl
    · exact Nat.zero_le _
    · omega
    · omega
    · show (3 : Nat) ≤ 100; omega
    · show (17 : Nat) ≤ 100; omega
    · show (14 : Nat) ≤ 100; omega
    · show (14 : Nat) ≤ 100; omega
  · have hl : 0 < q.2.1.length := by omega
    have e0 := rdF_get q.2.1 0 hl
    rw [show ((0 : Nat) : Int) = 0 from rfl] at e0
    refine EvP.bind (longP 21 97 (by omega) (by omega)) fun t ht => EvP.yes (by omega) (EvP.yes (by show x.1 % 5 < 5; omega) (EvP.yes (by omega) (EvP.ret ⟨aOk_set ha ⟨rdOf_size ?_ _, by rw [e0]; exact (ha.2.2 _ (List.getElem_mem hl)).2⟩, hc'⟩)))
    intro b hb
    simp only [List.mem_cons, List.not_mem_nil, or_false] at hb
    rcases hb with rfl | rfl | rfl | rfl | rfl
    · exact Nat.zero_le _
    · show (1 : Nat) ≤ 100; omega
    · show (3 : Nat) ≤ 100; omega
    · omega
    · show (1 : Nat) ≤ 100; omega
  · have hl : 0 < q.2.1.length := by omega
    have e0 := rdF_get q.2.1 0 hl
    rw [show ((0 : Nat) : Int) = 0 from rfl] at e0
    refine EvP.bind (longP 60 97 (by omega) (by omega)) fun t ht => EvP.bind (longP 61 97 (by omega) (by omega)) fun u hu => EvP.yes (by omega) (EvP.yes (by show x.1 % 5 < 5; omega) (EvP.yes (by omega) (EvP.ret ⟨aOk_set ha ⟨by rw [e0]; exact (ha.2.2 _ (List.getElem_mem hl)).1, rdOf_size ?_ _⟩, hc'⟩)))
    intro b hb
    simp only [List.mem_cons, List.not_mem_nil, or_false] at hb
    rcases hb with rfl | rfl | rfl | rfl | rfl
    · show (2 : Nat) ≤ 100; omega
    · show (2 : Nat) ≤ 100; omega
    · omega
    · omega
    · show (1 : Nat) ≤ 100; omega
  · exact any_l l _ _ hc' x.1 hx.1 _ ha.1 _ _ rfl ha
end Go.Proofs.YthjigecaojaalaaDoor.Q
namespace Go.Proofs.YthjigecaojaalaaDoor.Q
open Go.RowKit Go.Proofs.YthjigecaojaalaaDoorW.PrintWords Go.Proofs.YthjigecaojaalaaDoorW.PrintLast Go.Proofs.YthjigecaojaalaaDoorW.PrintMore
def numL : Int → List UInt8 → Int
  | acc, [] => acc
  | acc, b :: r => numL (10 * acc + ((b.toNat : Int) - 48)) r
theorem inB_cons (lo hi : Int) (b : UInt8) (r : List UInt8) : inB lo hi (b :: r) = (decide (lo ≤ (b.toNat : Int) ∧ (b.toNat : Int) ≤ hi) && inB lo hi r) := by simp [inB]
theorem pow_le6 (i : Nat) (h : i ≤ 6) : 10 ^ i ≤ 1000000 := Nat.pow_le_pow_right (by omega) h
theorem figures_l (s : ByteArray) (hs : s.size ≤ 6) (d : Nat) : ∀ (i : Nat) (acc : Int), i ≤ s.size → s.size - i = d → inB 48 57 (s.data.toList.drop i) = true → 0 ≤ acc → acc < ((10 ^ i : Nat) : Int) → Ev (fun k => impl_figuresOf.l0 k s acc (s.size : Int) (i : Int)) (numL acc (s.data.toList.drop i), true) := by
  induction d with
  | zero =>
    intro i acc hi hd hb h0 h1
    refine Ev.succ ?_
    simp only [impl_figuresOf.l0]
    rw [List.drop_eq_nil_of_le (by rw [sizeL]; omega)]
    exact Ev.no (by omega) (Ev.now _)
  | succ d ih =>
    intro i acc hi hd hb h0 h1
    have hlt : i < s.size := by omega
    have hp := pow_le6 i (by omega)
    have hl : i < s.data.toList.length := by rw [sizeL]; exact hlt
    refine Ev.succ ?_
    simp only [impl_figuresOf.l0]
    rw [bt_get s i hlt, wnat i _ hlt (by omega), drop_get _ i hl, numL]
    rw [drop_get _ i hl, inB_cons, Bool.and_eq_true, decide_eq_true_eq] at hb
    generalize s.data.toList[i]'hl = b at hb ⊢
    rw [show (((b.toNat : Nat) : Int) - 48) % 256 = ((b.toNat : Nat) : Int) - 48 by omega, w64 (n := (10 : Int) * acc) (by omega) (by omega), w64 (n := (10 : Int) * acc + (((b.toNat : Nat) : Int) - 48)) (by omega) (by omega)]
    refine Ev.yes (by omega) (Ev.yes (by omega) (Ev.yes (by omega) ?_))
    exact ih (i + 1) _ (by omega) (by omega) hb.2 (by omega) (by rw [Nat.pow_succ]; omega)
theorem figures_ev (s : ByteArray) (m : Nat) (hm : m ≤ 6) (hs : s.size ≤ 9223372036854775807) : Ev (fun k => impl_figuresOf.f k s (m : Int)) (if 1 ≤ s.size ∧ s.size ≤ m ∧ inB 48 57 s.data.toList = true then (numL 0 s.data.toList, true) else (0, false)) := by
  simp only [impl_figuresOf.f, in_impl, Option.bind_some]
  by_cases c : 1 ≤ s.size ∧ s.size ≤ m
  · refine Ev.yes (decide_eq_true (by omega)) (Ev.bind (bytesIn_ev s 48 57 hs) (Ev.succ ?_))
    simp only [impl_figuresOf.j0]
    by_cases c2 : inB 48 57 s.data.toList = true
    · rw [if_pos ⟨c.1, c.2, c2⟩, c2]
      have h := figures_l s (by omega) s.size 0 0 (by omega) (by omega) (by rw [List.drop_zero]; exact c2) (by omega) (by decide)
      rw [List.drop_zero] at h
      exact Ev.no (by decide) h
    · rw [if_neg (fun q => c2 q.2.2)]
      exact Ev.yes (by simpa using c2) (Ev.now _)
  · rw [if_neg (fun q => c ⟨q.1, q.2.1⟩)]
    refine Ev.no (by simp; omega) (Ev.succ ?_)
    simp only [impl_figuresOf.j0]
    exact Ev.yes trivial (Ev.now _)
end Go.Proofs.YthjigecaojaalaaDoor.Q
namespace Go.Proofs.YthjigecaojaalaaDoor.Q
open Go.RowKit Go.Proofs.YthjigecaojaalaaDoorW.PrintWords Go.Proofs.YthjigecaojaalaaDoorW.PrintLast Go.Proofs.YthjigecaojaalaaDoorW.PrintMore
def nameL : ByteArray := ⟨#[99, 111, 110, 116, 101, 110, 116, 45, 108, 101, 110, 103, 116, 104]⟩
def nameC : ByteArray := ⟨#[116, 114, 97, 110, 115, 102, 101, 114, 45, 101, 110, 99, 111, 100, 105, 110, 103]⟩
def isL (f : S41) : Prop := f.f0.toList = ([99, 111, 110, 116, 101, 110, 116, 45, 108, 101, 110, 103, 116, 104] : List UInt8)
instance (f : S41) : Decidable (isL f) := by unfold isL; exact inferInstance
def okN (s : ByteArray) : Prop := 1 ≤ s.size ∧ s.size ≤ 3 ∧ inB 48 57 s.data.toList = true
instance (s : ByteArray) : Decidable (okN s) := by unfold okN; exact inferInstance
def nm (s : ByteArray) : Int := numL 0 s.data.toList
def lenP : Int → List S41 → Int × Bool
  | x, [] => (x, decide (0 ≤ x ∧ x ≤ 400))
  | x, f :: r => if isL f then (if okN f.f1 then (if 0 ≤ x then (if nm f.f1 = x then lenP (nm f.f1) r else (0, false)) else lenP (nm f.f1) r) else (0, false)) else lenP x r
theorem length_impl_l (l : List S41) (hg : ∀ f ∈ l, f.f1.size ≤ 9223372036854775807) (hl : l.length ≤ 4611686018427387904) (d : Nat) : ∀ (i : Nat) (x : Int), i ≤ l.length → l.length - i = d → Ev (fun k => impl_lengthOf.l0 k x l (l.length : Int) (i : Int)) (lenP x (l.drop i)) := by
  induction d with
  | zero =>
    intro i x hi hd
    refine Ev.succ ?_
    simp only [impl_lengthOf.l0, in_impl, Option.bind_some]
    rw [List.drop_eq_nil_of_le (by omega), lenP]
    exact Ev.no (by omega) (Ev.now _)
  | succ d ih =>
    intro i x hi hd
    have hlt : i < l.length := by omega
    refine Ev.succ ?_
    simp only [impl_lengthOf.l0]
    rw [rdF_get l i hlt, wnat i _ hlt (by omega), drop_get l i hlt, lenP]
    refine Ev.yes (by omega) (Ev.yes (by omega) (Ev.yes (by omega) ?_))
    by_cases c : isL l[i]
    · rw [if_pos c]
      have h := figures_ev l[i].f1 3 (by omega) (hg _ (List.getElem_mem hlt))
      refine Ev.yes c (Ev.bind h ?_)
      by_cases c2 : okN l[i].f1
      · rw [if_pos c2, if_pos (show 1 ≤ l[i].f1.size ∧ l[i].f1.size ≤ 3 ∧ inB 48 57 l[i].f1.data.toList = true from c2)]
        refine Ev.yes rfl ?_
        by_cases c4 : 0 ≤ x
        · rw [if_pos c4]
          refine Ev.yes c4 ?_
          by_cases c5 : nm l[i].f1 = x
          · rw [if_pos c5]; exact Ev.yes c5 (ih (i + 1) _ (by omega) (by omega))
          · rw [if_neg c5]; exact Ev.no c5 (Ev.now _)
        · rw [if_neg c4]; exact Ev.no c4 (ih (i + 1) _ (by omega) (by omega))
      · rw [if_neg c2, if_neg (show ¬ (1 ≤ l[i].f1.size ∧ l[i].f1.size ≤ 3 ∧ inB 48 57 l[i].f1.data.toList = true) from c2)]
        exact Ev.no (by simp) (Ev.now _)
    · rw [if_neg c]; exact Ev.no c (ih (i + 1) x (by omega) (by omega))
/-- Its length alone is told: what it answers. -/
def lenR (y : Int × Bool) (t : ByteArray) : ByteArray × Int × Int := if y.2 = true then (if y.1 > (t.size : Int) then ((⟨#[]⟩ : ByteArray), 0, 1) else (t.extract 0 y.1.toNat, y.1, 0)) else ((⟨#[]⟩ : ByteArray), 0, 2)
theorem body_len (a : ByteArray) (l : List S41) (t : ByteArray) (hg : ∀ f ∈ l, f.f1.size ≤ 9223372036854775807) (hl : l.length ≤ 4611686018427387904) (hc : (fieldF nameC l).2 = false) (hL : (fieldF nameL l).2 = true) (h0 : (lenP (-1) l).2 = true → 0 ≤ (lenP (-1) l).1) : Ev (fun k => impl_BodyOf.f k a l t) (lenR (lenP (-1) l) t) := by
  have f2 := fieldOf_impl a l nameC (by omega)
  have f3 := fieldOf_impl a l nameL (by omega)
  have hP := length_impl_l l hg hl l.length 0 (-1) (by omega) (by omega)
  rw [List.drop_zero] at hP
  have hP' : Ev (fun k => impl_lengthOf.f k a l) (lenP (-1) l) := hP
  simp only [impl_BodyOf.f]
  generalize fieldF nameC l = C at hc f2
  generalize fieldF nameL l = L at hL f3
  generalize lenP (-1) l = Y at h0 hP'
  obtain ⟨c1, c2⟩ := C
  obtain ⟨l1, l2⟩ := L
  obtain ⟨y1, y2⟩ := Y
  dsimp only at hc hL h0
  subst hc
  subst hL
  refine Ev.bind f2 (Ev.bind f3 (Ev.no (by simp) (Ev.succ ?_)))
  simp only [impl_BodyOf.j0]
  refine Ev.no (by simp) (Ev.no (by simp) (Ev.yes trivial (Ev.bind hP' ?_)))
  cases y2 with
  | false => exact Ev.no (by simp) (Ev.now _)
  | true =>
    have h0 := h0 rfl
    refine Ev.yes rfl ?_
    by_cases c : y1 > (t.size : Int)
    · rw [show lenR (y1, true) t = ((⟨#[]⟩ : ByteArray), 0, 1) from by unfold lenR; rw [if_pos rfl]; exact if_pos c]
      exact Ev.yes c (Ev.now _)
    · rw [show lenR (y1, true) t = (t.extract 0 y1.toNat, y1, 0) from by unfold lenR; rw [if_pos rfl]; exact if_neg c]
      exact Ev.no c (Ev.yes h0 (Ev.yes (by omega) (Ev.now _)))
end Go.Proofs.YthjigecaojaalaaDoor.Q

namespace Go.Proofs.YthjigecaojaalaaDoor.Q
open Go.RowKit Go.Proofs.YthjigecaojaalaaDoorW.PrintWords Go.Proofs.YthjigecaojaalaaDoorW.PrintLast Go.Proofs.YthjigecaojaalaaDoorW.PrintMore
def jt : List ByteArray → ByteArray
  | [] => ⟨#[]⟩
  | x :: r => (⟨#[44, 32]⟩ : ByteArray) ++ x ++ jt r
def t0 (b : Bool) : List ByteArray := if b = true then [(⟨#[110, 111, 45, 115, 116, 111, 114, 101]⟩ : ByteArray)] else []
def t1 (b : Bool) : List ByteArray := if b = true then [(⟨#[110, 111, 45, 99, 97, 99, 104, 101]⟩ : ByteArray)] else []
def t2 (n : Int) : List ByteArray := if 0 ≤ n ∧ n ≤ 999999 then [(⟨#[109, 97, 120, 45, 97, 103, 101, 61]⟩ : ByteArray) ++ decB n.toNat] else []
def t3 (n : Int) : List ByteArray := if 0 ≤ n ∧ n ≤ 999999 then [(⟨#[115, 45, 109, 97, 120, 97, 103, 101, 61]⟩ : ByteArray) ++ decB n.toNat] else []
end Go.Proofs.YthjigecaojaalaaDoor.Q
namespace Go.Proofs.YthjigecaojaalaaDoor.Q
open Go.RowKit Go.Proofs.YthjigecaojaalaaDoorW.PrintWords Go.Proofs.YthjigecaojaalaaDoorW.PrintLast Go.Proofs.YthjigecaojaalaaDoorW.PrintMore
theorem decD_digits (n : Nat) : ∀ b ∈ dd n, 48 ≤ b.toNat ∧ b.toNat ≤ 57 := by
  induction n using Nat.strongRecOn with
  | _ n ih =>
    by_cases h : n = 0
    · subst h; simp [dd]
    · rw [dd_pos h]
      intro b hb
      rcases List.mem_append.1 hb with hb | hb
      · exact ih (n / 10) (by omega) b hb
      · rw [List.mem_singleton.1 hb, UInt8.toNat_ofNat']
        omega
theorem decD_len (k : Nat) : ∀ n, n < 10 ^ k → (dd n).length ≤ k := by
  induction k with
  | zero => intro n h; simp at h; subst h; simp [dd]
  | succ k ih =>
    intro n h
    by_cases c : n = 0
    · subst c; simp [dd]
    · rw [dd_pos c, List.length_append, List.length_singleton]
      have := ih (n / 10) (by rw [Nat.pow_succ] at h; omega)
      omega
theorem decB_dd {n : Nat} (h : n ≠ 0) : (decB n).data.toList = dd n := by unfold decB dd; rw [if_neg h]
theorem decB_zero : (decB 0).data.toList = [48] := by unfold decB; rw [Lib.decDigits_one (by omega)]; rfl
theorem decB_all (n : Nat) (h : n < 10000) : (decB n).data.toList.length ≤ 4 ∧ ∀ b ∈ (decB n).data.toList, 48 ≤ b.toNat ∧ b.toNat ≤ 57 := by
  by_cases c : n = 0
  · subst c; rw [decB_zero]; simp
  · rw [decB_dd c]; exact ⟨decD_len 4 n h, decD_digits n⟩
end Go.Proofs.YthjigecaojaalaaDoor.Q
namespace Go.Proofs.YthjigecaojaalaaDoor.Q
open Go.RowKit Go.Proofs.YthjigecaojaalaaDoorW.PrintWords Go.Proofs.YthjigecaojaalaaDoorW.PrintLast Go.Proofs.YthjigecaojaalaaDoorW.PrintMore
theorem numL_app (l : List UInt8) (b : UInt8) : ∀ acc : Int, numL acc (l ++ [b]) = 10 * numL acc l + ((b.toNat : Int) - 48) := by
  induction l with
  | nil => intro acc; rfl
  | cons a l ih => intro acc; rw [List.cons_append, numL, numL, ih]
theorem numL_dd (n : Nat) : numL 0 (dd n) = (n : Int) := by
  induction n using Nat.strongRecOn with
  | _ n ih =>
    by_cases h : n = 0
    · subst h; simp [dd, numL]
    · rw [dd_pos h, numL_app, ih (n / 10) (by omega), UInt8.toNat_ofNat']
      omega
theorem numL_dec (n : Nat) : numL 0 (decB n).data.toList = (n : Int) := by
  by_cases c : n = 0
  · subst c; rw [decB_zero]; rfl
  · rw [decB_dd c]; exact numL_dd n
theorem dec_digits (n : Nat) : ∀ b ∈ (decB n).data.toList, 48 ≤ b.toNat ∧ b.toNat ≤ 57 := by
  by_cases c : n = 0
  · subst c; rw [decB_zero]; simp
  · rw [decB_dd c]; exact decD_digits n
theorem dec_len (k n : Nat) (hk : 1 ≤ k) (h : n < 10 ^ k) : (decB n).data.toList.length ≤ k ∧ 1 ≤ (decB n).data.toList.length := by
  by_cases c : n = 0
  · subst c; rw [decB_zero]; exact ⟨hk, Nat.le_refl _⟩
  · rw [decB_dd c]
    refine ⟨decD_len k n h, ?_⟩
    rw [dd_pos c, List.length_append, List.length_singleton]; omega
theorem dec_inB (n : Nat) : inB 48 57 (decB n).data.toList = true := by
  unfold inB
  rw [List.all_eq_true]
  intro b hb
  have := dec_digits n b hb
  exact decide_eq_true ⟨by omega, by omega⟩
theorem trim_all {l : List UInt8} (h : ∀ b ∈ l, b ≠ 32) : Lib.trimB l 32 = l := by
  have d : ∀ m : List UInt8, (∀ b ∈ m, b ≠ 32) → m.dropWhile (· == (32 : UInt8)) = m := fun m hm => by
    cases m with
    | nil => rfl
    | cons a m => rw [List.dropWhile_cons_of_neg (p := fun x => x == (32 : UInt8)) (fun e => hm a (by simp) (beq_iff_eq.1 e))]
  unfold Lib.trimB Lib.trimLeftB Lib.trimRightB
  rw [d l.reverse (fun b hb => h b (List.mem_reverse.1 hb)), List.reverse_reverse, d l h]
theorem onceP (l : List Int) (i h n : Int) (hn : 1 ≤ n) (hc : cu l i) : EvP (fun _ => spec_l01Once.f l i h n) (fun r => cu l r.2.1) := by
  simp only [spec_l01Once.f]
  exact EvP.bind (belowP l i h n hn hc) fun r hr => EvP.ret hr.2
end Go.Proofs.YthjigecaojaalaaDoor.Q
namespace Go.Proofs.YthjigecaojaalaaDoor.Q
open Go.RowKit Go.Proofs.YthjigecaojaalaaDoorW.PrintWords Go.Proofs.YthjigecaojaalaaDoorW.PrintLast Go.Proofs.YthjigecaojaalaaDoorW.PrintMore
theorem row_all (n : Nat) (b : UInt8) (d : Nat) : ∀ (i : Nat) (o : ByteArray), i ≤ n → n ≤ 100000 → n - i = d → o.data.toList = List.replicate i b → Ev (fun k => laws_row.l0 k (n : Int) (⟨#[b]⟩ : ByteArray) o (i : Int)) (ba (List.replicate n b)) := by
  induction d with
  | zero =>
    intro i o hi hn hd ho
    obtain rfl : i = n := by omega
    refine Ev.succ ?_
    simp only [laws_row.l0]
    rw [← ho, ba_of]
    exact Ev.no (by omega) (Ev.now _)
  | succ d ih =>
    intro i o hi hn hd ho
    refine Ev.succ ?_
    simp only [laws_row.l0]
    rw [wnat i n (by omega) (by omega)]
    have hz : o.size = i := by rw [← sizeL, ho, List.length_replicate]
    exact Ev.yes (by omega) (Ev.yes (by rw [hz]; show i + 1 ≤ _; omega) (ih (i + 1) _ (by omega) hn (by omega) (by rw [List.replicate_succ', ← ho]; simp)))
theorem row_ev (n : Nat) (b : UInt8) (hn : n ≤ 100000) : Ev (fun k => laws_row.f k (n : Int) (⟨#[b]⟩ : ByteArray)) (ba (List.replicate n b)) := by
  simp only [laws_row.f]
  exact row_all n b n 0 (⟨#[]⟩ : ByteArray) (by omega) hn (by omega) rfl
def ln200 : ByteArray := ⟨#[72, 84, 84, 80, 47, 49, 46, 49, 32, 50, 48, 48, 32, 111, 107]⟩
def nmX : ByteArray := ⟨#[120]⟩
theorem dig_inB {l : List UInt8} (h : ∀ b ∈ l, 48 ≤ b.toNat ∧ b.toNat ≤ 57) : inB 32 126 l = true ∧ Lib.trimB l 32 = l := by
  refine ⟨List.all_eq_true.2 fun b hb => decide_eq_true (by have := h b hb; omega), trim_all fun b hb e => ?_⟩
  have := h b hb
  subst e
  exact absurd this.1 (by decide)
theorem field_dec (nm_ : ByteArray) (n : Nat) (h : nameB nm_ = true) (hn : n < 10000) : fieldB nm_ (decB n) = true := by
  obtain ⟨h1, h2⟩ := decB_all n hn
  obtain ⟨h3, h4⟩ := dig_inB h2
  unfold fieldB edgeB
  rw [h, h3, decide_eq_true h4, decide_eq_true (by rw [← sizeL]; omega)]
  rfl
def fdX (n : Nat) : S41 := ⟨nmX, decB n⟩
theorem x_other (n : Nat) : (fieldF nmLen [fdX n]).2 = false ∧ (fieldF nmCod [fdX n]).2 = false := by
  refine ⟨?_, ?_⟩
  · rw [fieldF, if_neg (by rw [toL, toL]; exact (by decide : ¬ nmX.data.toList = nmLen.data.toList))]
    rfl
  · rw [fieldF, if_neg (by rw [toL, toL]; exact (by decide : ¬ nmX.data.toList = nmCod.data.toList))]
    rfl
theorem x_body (n m : Nat) (hm : m ≤ 400) : (fieldF nameC (withLen [fdX n] (ba (List.replicate m 98)))).2 = false ∧ (fieldF nameL (withLen [fdX n] (ba (List.replicate m 98)))).2 = true ∧ lenP (-1) (withLen [fdX n] (ba (List.replicate m 98))) = ((m : Int), true) := by
  have hz : (ba (List.replicate m (98 : UInt8))).size = m := by rw [ba_size, List.length_replicate]
  unfold withLen
  rw [hz]
  obtain ⟨d1, d2⟩ := dec_len 3 m (by omega) (by omega)
  rw [sizeL] at d1 d2
  have hok : okN (decB m) := ⟨d2, d1, dec_inB m⟩
  have hnm : nm (decB m) = (m : Int) := numL_dec m
  refine ⟨?_, ?_, ?_⟩
  · show (fieldF nameC [fdX n, ⟨nmLen, decB m⟩]).2 = false
    rw [fieldF, if_neg (by rw [toL, toL]; exact (by decide : ¬ nmX.data.toList = nameC.data.toList)), fieldF, if_neg (by rw [toL, toL]; exact (by decide : ¬ nmLen.data.toList = nameC.data.toList))]
    rfl
  · show (fieldF nameL [fdX n, ⟨nmLen, decB m⟩]).2 = true
    rw [fieldF, if_neg (by rw [toL, toL]; exact (by decide : ¬ nmX.data.toList = nameL.data.toList)), fieldF, if_pos (by rw [toL, toL]; exact (by decide : nmLen.data.toList = nameL.data.toList))]
  show lenP (-1) [fdX n, ⟨nmLen, decB m⟩] = _
  rw [lenP, if_neg (by unfold isL; rw [toL]; exact (by decide : ¬ nmX.data.toList = [99, 111, 110, 116, 101, 110, 116, 45, 108, 101, 110, 103, 116, 104])), lenP, if_pos (by unfold isL; rw [toL]; exact (by decide : nmLen.data.toList = [99, 111, 110, 116, 101, 110, 116, 45, 108, 101, 110, 103, 116, 104])), if_pos hok, if_neg (by decide), hnm, lenP, decide_eq_true (by omega)]
theorem drawAns (l0 : List Int) (hl : l0.length ≤ 4611686018427387904) : EvP (fun k => spec_DrawAnswerText.f k l0) (fun r => aOk r.1 r.2.1 ∧ r.2.2.size ≤ 1000) := by
  simp only [spec_DrawAnswerText.f]
  refine EvP.bind (newP l0 hl) fun c hc => ?_
  rw [hc.1]
  refine EvP.bind (belowP l0 _ _ 30 (by omega) hc.2) fun y hy => EvP.bind (onceP l0 _ _ 10 (by omega) hy.2) fun o ho => EvP.ite (fun _ => ?_) (fun _ => ?_)
  · refine EvP.bind (belowP l0 _ _ 2 (by omega) ho) fun z hz => EvP.bind (anyP l0 _ _ hz.2) fun q hq => ?_
    rw [w64 (n := 400 + z.1) (by omega) (by omega)]
    exact EvP.bind (longP _ 98 (by omega) (by omega)) fun t ht => EvP.ret ⟨hq.1, by show t.size ≤ 1000; omega⟩
  · exact EvP.bind (anyP l0 _ _ ho) fun q hq => EvP.bind (longP _ 98 (by omega) (by omega)) fun t ht => EvP.ret ⟨hq.1, by show t.size ≤ 1000; omega⟩
theorem pureFnAnswers (l0 : List Int) (_ : l0.length ≤ maxLen) (_ : ∀ x ∈ l0, (Lit.int .u8 x).wf = true) : ∃ k, laws_FnAnswers.f k l0 = some true := by
  refine Ev.rounds (g := fun k => laws_FnAnswers.f k l0) ?_
  simp only [laws_FnAnswers.f, laws_big.f, Option.bind_some]
  by_cases c : (l0.length : Int) > 1048576
  · exact Ev.yes (decide_eq_true c) (Ev.now _)
  refine Ev.no (by simpa using c) ?_
  obtain ⟨p, ep, hp, hq⟩ := placesP l0 (by omega)
  have p0 := hq _ (List.getElem_mem (show 0 < p.length by omega))
  have p1 := hq _ (List.getElem_mem (show 1 < p.length by omega))
  have g0 := rd_get p 0 (by omega)
  have g1 := rd_get p 1 (by omega)
  rw [show ((0 : Nat) : Int) = 0 from rfl] at g0
  rw [show ((1 : Nat) : Int) = 1 from rfl] at g1
  refine Ev.bind ep (Ev.yes (by omega) ?_)
  rw [g0, g1, Int.tmod_eq_emod_of_nonneg p0.1]
  obtain ⟨m, hm, hm4⟩ : ∃ m : Nat, p[0] % 401 = (m : Int) ∧ m ≤ 400 := ⟨(p[0] % 401).toNat, by omega, by omega⟩
  generalize p[1] = y at p1
  obtain ⟨n, rfl⟩ : ∃ n : Nat, y = (n : Int) := ⟨y.toNat, by omega⟩
  rw [hm]
  have er := row_ev m 98 (by omega)
  have ed := dec_spec n (by omega)
  obtain ⟨b1, b2, b3⟩ := x_body n m hm4
  have hz : (ba (List.replicate m (98 : UInt8))).size = m := by rw [ba_size, List.length_replicate]
  generalize ba (List.replicate m (98 : UInt8)) = b at er b1 b2 b3 hz
  obtain ⟨n1, n2⟩ := decB_all n (by omega)
  obtain ⟨m1, m2⟩ := decB_all m (by omega)
  rw [sizeL] at n1 m1
  have hw : withLen [fdX n] b = [fdX n, ⟨nmLen, decB m⟩] := by unfold withLen; rw [hz]; rfl
  have hh : headB ln200 (withLen [fdX n] b) = true := by
    rw [hw]
    unfold headB
    rw [fieldsB_cons, fieldsB_cons, headT_size]
    rw [show fieldB (fdX n).f0 (fdX n).f1 = true from field_dec nmX n (by decide +kernel) (by omega), show fieldB nmLen (decB m) = true from field_dec nmLen m (by decide +kernel) (by omega), show fieldsB [] = true from rfl, show lineB ln200 = true from by decide +kernel, decide_eq_true (by show (2 : Int) ≤ 8; omega), decide_eq_true (by show ((15 + (1 + (decB n).size + 4 + (14 + (decB m).size + 4 + 0)) + 4 : Nat) : Int) ≤ 300; omega)]
    rfl
  have hx : hsz [fdX n] = 1 + (decB n).size + 4 + 0 := rfl
  have ea := ans_impl ln200 [fdX n] b (by show 1 ≤ _; omega) (by rw [hx]; show 15 + _ ≤ _; omega) (by omega)
  rw [show ansF ln200 [fdX n] b = (headT ln200 (withLen [fdX n] b) ++ b, true) from by unfold ansF; rw [if_neg (fun h => by rcases h with h | h | h; exact absurd h (by rw [(x_other n).1]; decide); exact absurd h (by rw [(x_other n).2]; decide); omega), if_pos hh]] at ea
  obtain ⟨h1, h2, h3, h4⟩ := head_parts hh
  have e1 := rd_impl (headT ln200 (withLen [fdX n] b) ++ b) (by rw [ByteArray.size_append]; omega)
  have b4 := rd_back hh b.data.toList
  rw [show (headT ln200 (withLen [fdX n] b) ++ b).data.toList = (headT ln200 (withLen [fdX n] b)).data.toList ++ b.data.toList from by simp, b4] at e1
  refine Ev.bind er (Ev.yes (by omega) (Ev.bind ed (Ev.bind ea (Ev.bind e1 (Ev.yes rfl (Ev.succ ?_))))))
  simp only [laws_FnAnswers.j0]
  have hs : (headT ln200 (withLen [fdX n] b) ++ b).size = (headT ln200 (withLen [fdX n] b)).size + m := by rw [ByteArray.size_append, hz]
  have lw : (withLen [fdX n] b).length = 2 := by rw [hw]; rfl
  have fw : ∀ f ∈ withLen [fdX n] b, f.f1.size ≤ 9223372036854775807 := by
    rw [hw]
    intro f hf
    rcases List.mem_cons.1 hf with rfl | hf
    · show (decB n).size ≤ _; omega
    · rw [List.mem_singleton.1 hf]; show (decB m).size ≤ _; omega
  have body : ∀ t, Ev (fun k => impl_BodyOf.f k ln200 (withLen [fdX n] b) t) (lenR ((m : Int), true) t) := fun t => by
    have := body_len ln200 (withLen [fdX n] b) t fw (by omega) b1 b2 (by rw [b3]; intro _; show (0 : Int) ≤ (m : Int); omega)
    rw [b3] at this
    exact this
  generalize withLen [fdX n] b = w at *
  generalize hH : headT ln200 w = H at *
  have x1 : (H ++ b).extract H.size (H ++ b).size = b := by
    apply ba_ext
    rw [Lib.extract_data, hs, ByteArray.data_append, Array.toList_append, List.drop_left' (by rw [sizeL]), List.take_of_length_le (by rw [sizeL]; omega)]
  obtain ⟨⟨da, dl, db⟩, edr, dr⟩ := drawAns l0 (by omega)
  obtain ⟨dr1, dr2⟩ := dr
  simp only at dr1 dr2
  have dz := aOk_hsz dr1.2.2
  have dx := dr1.1
  have dy := dr1.2.1
  have ai := ans_impl da dl db (by omega) (by omega) (by omega)
  have as_ := ans_spec da dl db (by omega) (by omega) (by omega)
  have t1 : lenR ((m : Int), true) (b ++ (⟨#[98, 101, 104, 105, 110, 100]⟩ : ByteArray)) = (b, (m : Int), 0) := by
    unfold lenR
    rw [if_pos rfl, if_neg (by rw [ByteArray.size_append, hz]; show ¬ ((m : Int) > ((m + 6 : Nat) : Int)); omega)]
    have : (b ++ (⟨#[98, 101, 104, 105, 110, 100]⟩ : ByteArray)).extract 0 (m : Int).toNat = b := by
      apply ba_ext
      rw [Lib.extract_data, List.drop_zero, ByteArray.data_append, Array.toList_append, List.take_left' (by rw [sizeL]; omega)]
    rw [this]
  have B1 := body (b ++ (⟨#[98, 101, 104, 105, 110, 100]⟩ : ByteArray))
  rw [t1] at B1
  have fl : laws_flag.f (decide ((b.size : Int) > 0)) = some (if 0 < m then 1 else 0) := by
    unfold laws_flag.f
    by_cases q : 0 < m
    · rw [if_pos q, decide_eq_true (by omega)]; rfl
    · rw [if_neg q, decide_eq_false (by omega)]; rfl
  refine Ev.no (by simp) (Ev.yes (by omega) (Ev.yes (by omega) ?_))
  rw [show ((H.size : Nat) : Int).toNat = H.size from by omega, x1]
  refine Ev.yes (by omega) (Ev.bind B1 (Ev.via fl ?_))
  have hv : (if 0 < m then (1 : Int) else 0) ≤ m ∧ 0 ≤ (if 0 < m then (1 : Int) else 0) := by split <;> omega
  rw [w64 (n := (((H ++ b).size : Nat) : Int) - (if 0 < m then (1 : Int) else 0)) (by omega) (by omega)]
  have B2 := body ((H ++ b).extract H.size ((((H ++ b).size : Nat) : Int) - (if 0 < m then (1 : Int) else 0)).toNat)
  have t2 : ((lenR ((m : Int), true) ((H ++ b).extract H.size ((((H ++ b).size : Nat) : Int) - (if 0 < m then (1 : Int) else 0)).toNat)).2.2 == 1) = decide ((b.size : Int) > 0) := by
    unfold lenR
    rw [if_pos rfl, ext_size _ _ _ (by omega)]
    by_cases q : 0 < m
    · rw [if_pos (by rw [if_pos q]; omega), decide_eq_true (by omega)]; rfl
    · rw [if_neg (by rw [if_neg q]; omega), decide_eq_false (by omega)]; rfl
  refine Ev.yes (by omega) (Ev.yes (by omega) (Ev.bind B2 (Ev.bind edr (Ev.bind ai (Ev.bind as_ (Ev.yes rfl (Ev.yes rfl (Ev.yes (by rw [hz]) (Ev.yes ?_ (Ev.yes (by simp) ?_))))))))))
  · rw [t2]; simp
  · simp only [beq_self_eq_true]; exact Ev.now _
end Go.Proofs.YthjigecaojaalaaDoor.Q
