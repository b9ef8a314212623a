import Derived.Test.YthjigecaojaalaaDoorKtWords
import Derived.Lib.Strings
import Derived.Test.YthjigecaojaalaaDoorKtG29
import Derived.Test.YthjigecaojaalaaDoorKtG30
import Derived.Lib.IndexAny
import Derived.Test.YthjigecaojaalaaDoorKtG35
import Derived.Lib.ItoaNum
import Derived.Test.YthjigecaojaalaaDoorKtG60
import Derived.Test.YthjigecaojaalaaDoorKtG43
import Derived.Lib.Join
import Derived.Test.YthjigecaojaalaaDoorKtG8
import Derived.Test.YthjigecaojaalaaDoorKtG9
namespace Go.Proofs.YthjigecaojaalaaDoor.Q
open Go.RowKit Go.Proofs.YthjigecaojaalaaDoorW.PrintWords Go.Proofs.YthjigecaojaalaaDoorW.PrintLast Go.Proofs.YthjigecaojaalaaDoorW.PrintMore
/-- With enough rounds g tells something of which P holds. -/
def EvP {α : Type} (g : Nat → Option α) (P : α → Prop) : Prop := ∃ r, Ev g r ∧ P r
theorem Ev.succ {α : Type} {g : Nat → Option α} {r : α} (h : Ev (fun k => g (k + 1)) r) : Ev g r := Ev.step (fun _ => rfl) h
theorem Ev.yes {α : Type} {f g : Nat → Option α} {r : α} {c : Prop} [Decidable c] (hc : c) (h : Ev f r) : Ev (fun k => if c then f k else g k) r := Ev.congr (fun _ => if_pos hc) h
theorem Ev.no {α : Type} {f g : Nat → Option α} {r : α} {c : Prop} [Decidable c] (hc : ¬ c) (h : Ev g r) : Ev (fun k => if c then f k else g k) r := Ev.congr (fun _ => if_neg hc) h
theorem Ev.via {α β : Type} {g : Option α} {f : Nat → α → Option β} {a : α} {r : β} (h : g = some a) (k : Ev (fun n => f n a) r) : Ev (fun n => g.bind (f n)) r := Ev.congr (fun _ => by rw [h]; rfl) k
theorem EvP.bind {α β : Type} {g : Nat → Option α} {f : Nat → α → Option β} {P : α → Prop} {Q : β → Prop} (h : EvP g P) (k : ∀ a, P a → EvP (fun n => f n a) Q) : EvP (fun n => (g n).bind (f n)) Q := by
  obtain ⟨a, ha, hp⟩ := h
  obtain ⟨r, hr, hq⟩ := k a hp
  exact ⟨r, Ev.bind ha hr, hq⟩
theorem EvP.ite {α : Type} {f g : Nat → Option α} {P : α → Prop} {c : Prop} [Decidable c] (h1 : c → EvP f P) (h2 : ¬ c → EvP g P) : EvP (fun k => if c then f k else g k) P := by
  by_cases hc : c
  · obtain ⟨r, hr, hp⟩ := h1 hc; exact ⟨r, Ev.yes hc hr, hp⟩
  · obtain ⟨r, hr, hp⟩ := h2 hc; exact ⟨r, Ev.no hc hr, hp⟩
theorem EvP.yes {α : Type} {f g : Nat → Option α} {P : α → Prop} {c : Prop} [Decidable c] (hc : c) (h : EvP f P) : EvP (fun k => if c then f k else g k) P := EvP.ite (fun _ => h) (fun hn => absurd hc hn)
theorem EvP.no {α : Type} {f g : Nat → Option α} {P : α → Prop} {c : Prop} [Decidable c] (hc : ¬ c) (h : EvP g P) : EvP (fun k => if c then f k else g k) P := EvP.ite (fun hn => absurd hn hc) (fun _ => h)
theorem EvP.succ {α : Type} {g : Nat → Option α} {P : α → Prop} (h : EvP (fun k => g (k + 1)) P) : EvP g P := by
  obtain ⟨r, hr, hp⟩ := h
  exact ⟨r, Ev.succ hr, hp⟩
theorem EvP.is {α : Type} {g : Nat → Option α} {r : α} (h : EvP g (fun x => x = r)) : Ev g r := by
  obtain ⟨_, hr, rfl⟩ := h
  exact hr
end Go.Proofs.YthjigecaojaalaaDoor.Q
namespace Go.Proofs.YthjigecaojaalaaDoor.Q
open Go.RowKit Go.Proofs.YthjigecaojaalaaDoorW.PrintWords Go.Proofs.YthjigecaojaalaaDoorW.PrintLast Go.Proofs.YthjigecaojaalaaDoorW.PrintMore
theorem w64 {n : Int} (h0 : -9223372036854775808 ≤ n) (h1 : n < 9223372036854775808) : wrap64 n = n := by unfold wrap64; omega
theorem wnat (i n : Nat) (h : i < n) (hn : n ≤ 9223372036854775807) : wrap64 ((i : Int) + 1) = ((i + 1 : Nat) : Int) := by rw [w64 (by omega) (by omega)]; rfl
theorem drop_get {α : Type} (l : List α) (i : Nat) (h : i < l.length) : l.drop i = l[i] :: l.drop (i + 1) := List.drop_eq_getElem_cons h
theorem sizeL (s : ByteArray) : s.data.toList.length = s.size := (Lib.size_eq s).symm
theorem ba_ext {s t : ByteArray} (h : s.data.toList = t.data.toList) : s = t := ByteArray.ext (Array.toList_inj.1 h)
theorem bt_get (s : ByteArray) (i : Nat) (h : i < s.size) : bt s (i : Int) = ((s.data.toList[i]'(by rw [sizeL]; exact h)).toNat : Int) := by simp [bt, h]; rfl
end Go.Proofs.YthjigecaojaalaaDoor.Q
namespace Go.Proofs.YthjigecaojaalaaDoor.Q
open Go.RowKit Go.Proofs.YthjigecaojaalaaDoorW.PrintWords Go.Proofs.YthjigecaojaalaaDoorW.PrintLast Go.Proofs.YthjigecaojaalaaDoorW.PrintMore
theorem in_spec (a b c : Int) : spec_l01In.f a b c = some (decide (b ≤ a ∧ a ≤ c)) := by
  unfold spec_l01In.f
  by_cases h : a ≥ b
  · rw [if_pos h]; simp [show b ≤ a from h]
  · rw [if_neg h]; simp [show ¬ b ≤ a from h]
theorem in_impl (a b c : Int) : impl_within.f a b c = some (decide (b ≤ a ∧ a ≤ c)) := by
  unfold impl_within.f
  by_cases h : a ≥ b
  · rw [if_pos h]; simp [show b ≤ a from h]
  · rw [if_neg h]; simp [show ¬ b ≤ a from h]
end Go.Proofs.YthjigecaojaalaaDoor.Q
namespace Go.Proofs.YthjigecaojaalaaDoor.Q
open Go.RowKit Go.Proofs.YthjigecaojaalaaDoorW.PrintWords Go.Proofs.YthjigecaojaalaaDoorW.PrintLast Go.Proofs.YthjigecaojaalaaDoorW.PrintMore
set_option linter.unusedSimpArgs false
end Go.Proofs.YthjigecaojaalaaDoor.Q
namespace Go.Proofs.YthjigecaojaalaaDoor.Q
open Go.RowKit Go.Proofs.YthjigecaojaalaaDoorW.PrintWords Go.Proofs.YthjigecaojaalaaDoorW.PrintLast Go.Proofs.YthjigecaojaalaaDoorW.PrintMore
def dd (n : Nat) : List UInt8 := if n = 0 then [] else Lib.decDigits n
theorem dd_pos {n : Nat} (h : n ≠ 0) : dd n = dd (n / 10) ++ [UInt8.ofNat (48 + n % 10)] := by
  unfold dd
  rw [if_neg h]
  by_cases c : n < 10
  · rw [if_pos (by omega), Lib.decDigits_one c, List.nil_append, Nat.mod_eq_of_lt c]
  · rw [if_neg (by omega), Lib.decDigits, dif_neg c]
theorem dd_len (n : Nat) : (dd n).length ≤ n := by
  induction n using Nat.strongRecOn with
  | _ n ih =>
    by_cases h : n = 0
    · subst h; simp [dd]
    · rw [dd_pos h, List.length_append, List.length_singleton]
      have := ih (n / 10) (by omega)
      omega
theorem dd_app (x : List UInt8) (c : UInt8) (acc : ByteArray) : (⟨(x ++ [c]).toArray⟩ : ByteArray) ++ acc = (⟨x.toArray⟩ : ByteArray) ++ ((⟨#[c]⟩ : ByteArray) ++ acc) := by
  apply ba_ext
  simp
theorem figure_eq (d : Int) (h0 : 0 ≤ d) (h1 : d < 10) : spec_l01Figure.f d = some (48 + d) := by
  unfold spec_l01Figure.f
  rw [if_pos h1, w64 (by omega) (by omega), Int.emod_eq_of_lt (by omega) (by omega)]
theorem dec_spec_l (n : Nat) : ∀ (acc : ByteArray), n ≤ 4611686018427387904 → acc.size + n ≤ 4611686018427387904 → Ev (fun k => spec_Decimal.l0 k (n : Int) false acc) ((⟨(dd n).toArray⟩ : ByteArray) ++ acc) := by
  induction n using Nat.strongRecOn with
  | _ n ih =>
    intro acc hn hs
    refine Ev.succ ?_
    simp only [spec_Decimal.l0]
    by_cases h : n = 0
    · subst h
      rw [show (⟨(dd 0).toArray⟩ : ByteArray) ++ acc = acc from by apply ba_ext; simp [dd]]
      exact Ev.yes rfl (Ev.no (by simp) (Ev.now _))
    · have hm : Int.tmod (n : Int) 10 = ((n % 10 : Nat) : Int) := by rw [Int.tmod_eq_emod_of_nonneg (by omega)]; rfl
      have hd : Int.tdiv (n : Int) 10 = ((n / 10 : Nat) : Int) := by rw [Int.tdiv_eq_ediv_of_nonneg (by omega)]; rfl
      rw [hm, hd, w64 (n := ((n / 10 : Nat) : Int)) (by omega) (by omega)]
      refine Ev.no (by omega) (Ev.no (by omega) (Ev.via (figure_eq _ (by omega) (by omega)) ?_))
      simp only [Option.bind_some]
      have e1 : strOfNums [48 + ((n % 10 : Nat) : Int)] = (⟨#[UInt8.ofNat (48 + n % 10)]⟩ : ByteArray) := by
        unfold strOfNums
        have : (48 + ((n % 10 : Nat) : Int)).toNat = 48 + n % 10 := by omega
        simp only [List.map_cons, List.map_nil, this]
      rw [e1, dd_pos h, dd_app]
      refine Ev.yes (by show 1 + acc.size ≤ _; omega) (ih (n / 10) (by omega) _ (by omega) (by rw [ByteArray.size_append]; show 1 + acc.size + n / 10 ≤ _; omega))
def decB (n : Nat) : ByteArray := ⟨(Lib.decDigits n).toArray⟩
theorem decB_size (n : Nat) : (decB n).size ≤ n + 1 := by
  unfold decB
  show (Lib.decDigits n).toArray.size ≤ n + 1
  rw [List.size_toArray]
  by_cases h : n = 0
  · subst h; rw [Lib.decDigits_one (by omega)]; simp
  · have := dd_len n
    unfold dd at this
    rw [if_neg h] at this
    omega
theorem dec_spec (n : Nat) (hn : n ≤ 4611686018427387904) : Ev (fun k => spec_Decimal.f k (n : Int)) (decB n) := by
  simp only [spec_Decimal.f]
  by_cases h : n = 0
  · subst h
    rw [show decB 0 = (⟨#[48]⟩ : ByteArray) from by unfold decB; rw [Lib.decDigits_one (by omega)]; rfl]
    exact Ev.yes rfl (Ev.now _)
  · refine Ev.no (by omega) ?_
    rw [decide_eq_false (show ¬ ((n : Int) < 0) by omega)]
    have := dec_spec_l n ⟨#[]⟩ hn (by show 0 + n ≤ _; omega)
    rw [show (⟨(dd n).toArray⟩ : ByteArray) ++ (⟨#[]⟩ : ByteArray) = decB n from by apply ba_ext; unfold decB dd; rw [if_neg h]; simp] at this
    exact this
theorem dec_impl (n : Nat) (hn : n ≤ 4611686018427387904) : impl_Decimal.f (n : Int) = some (decB n) := by
  unfold impl_Decimal.f strconv_Itoa.f
  rw [if_pos (by omega)]
  unfold Lib.itoa decB
  rw [if_neg (by omega), Int.toNat_natCast]
  rfl
end Go.Proofs.YthjigecaojaalaaDoor.Q
namespace Go.Proofs.YthjigecaojaalaaDoor.Q
open Go.RowKit Go.Proofs.YthjigecaojaalaaDoorW.PrintWords Go.Proofs.YthjigecaojaalaaDoorW.PrintLast Go.Proofs.YthjigecaojaalaaDoorW.PrintMore
def jt : List ByteArray → ByteArray
  | [] => ⟨#[]⟩
  | x :: r => (⟨#[44, 32]⟩ : ByteArray) ++ x ++ jt r
def jn : List ByteArray → ByteArray
  | [] => ⟨#[]⟩
  | x :: r => x ++ jt r
theorem bnil_app (s : ByteArray) : (⟨#[]⟩ : ByteArray) ++ s = s := ByteArray.empty_append
theorem app_bnil (s : ByteArray) : s ++ (⟨#[]⟩ : ByteArray) = s := ByteArray.append_empty
theorem jt_size (l : List ByteArray) (h : ∀ x ∈ l, x.size ≤ 2000000) : (jt l).size ≤ 2000002 * l.length := by
  induction l with
  | nil => exact Nat.zero_le _
  | cons x r ih =>
    have h1 := h x (by simp)
    have h2 := ih (fun y hy => h y (by simp [hy]))
    rw [jt, ByteArray.size_append, ByteArray.size_append, List.length_cons]
    have : (⟨#[44, 32]⟩ : ByteArray).size = 2 := rfl
    omega
theorem jn_size (l : List ByteArray) (h : ∀ x ∈ l, x.size ≤ 2000000) : (jn l).size ≤ 2000002 * l.length := by
  cases l with
  | nil => exact Nat.zero_le _
  | cons x r =>
    have h1 := h x (by simp)
    have h2 := jt_size r (fun y hy => h y (by simp [hy]))
    rw [jn, ByteArray.size_append, List.length_cons]; omega
theorem jt_join (r : List ByteArray) : (jt r).data.toList = Lib.joinTail [44, 32] (r.map (·.data.toList)) := by
  induction r with
  | nil => rfl
  | cons x r ih => unfold Lib.joinTail at *; rw [jt]; simp [ih]
theorem jn_join (l : List ByteArray) : Lib.join (l.map (·.data.toList)) [44, 32] = (jn l).data.toList := by
  cases l with
  | nil => rfl
  | cons x r => rw [List.map_cons, Lib.join_cons, jn, ← jt_join]; simp
theorem join_ev (l : List ByteArray) (hl : l.length ≤ 8) (h : ∀ x ∈ l, x.size ≤ 2000000) : strings_Join.f l (⟨#[44, 32]⟩ : ByteArray) = some (jn l) := by
  have hs := jn_size l h
  unfold strings_Join.f
  rw [show (⟨#[44, 32]⟩ : ByteArray).data.toList = [44, 32] from rfl, jn_join, if_pos ⟨by omega, by rw [sizeL]; omega⟩]
theorem rdO_get2 (l : List ByteArray) (i : Nat) (h : i < l.length) : rdOf ByteArray.empty l (i : Int) = l[i] := by
  unfold rdOf
  rw [Int.toNat_natCast, List.getD_eq_getElem?_getD, List.getElem?_eq_getElem h, Option.getD_some]
theorem stext_l (l : List ByteArray) (hl : l.length ≤ 8) (h : ∀ x ∈ l, x.size ≤ 2000000) (d : Nat) : ∀ (i : Nat) (acc : ByteArray), 0 < i → i ≤ l.length → l.length - i = d → acc.size ≤ 3000000 * i → Ev (fun k => spec_ControlText.l0 k l acc (i : Int)) (acc ++ jt (l.drop i)) := by
  induction d with
  | zero =>
    intro i acc h0 hi hd hs
    refine Ev.succ ?_
    simp only [spec_ControlText.l0]
    rw [show l.drop i = [] from List.drop_eq_nil_of_le (by omega), jt, app_bnil]
    exact Ev.no (by omega) (Ev.now _)
  | succ d ih =>
    intro i acc h0 hi hd hs
    have hlt : i < l.length := by omega
    have hx := h _ (List.getElem_mem hlt)
    refine Ev.succ ?_
    simp only [spec_ControlText.l0]
    rw [rdO_get2 l i hlt, wnat i l.length hlt (by omega), drop_get l i hlt, jt]
    have z2 : (⟨#[44, 32]⟩ : ByteArray).size = 2 := rfl
    have := ih (i + 1) ((acc ++ (⟨#[44, 32]⟩ : ByteArray)) ++ l[i]) (by omega) (by omega) (by omega) (by rw [ByteArray.size_append, ByteArray.size_append]; omega)
    rw [ByteArray.append_assoc (a := acc), ByteArray.append_assoc (a := acc)] at this
    exact Ev.yes (by omega) (Ev.yes (by omega) (Ev.yes (by omega) (Ev.yes (by omega) (Ev.yes (by rw [ByteArray.size_append]; omega) (by rw [ByteArray.append_assoc (a := acc)]; exact this)))))
theorem stext (l : List ByteArray) (hl : l.length ≤ 8) (h : ∀ x ∈ l, x.size ≤ 2000000) : Ev (fun k => spec_ControlText.j3 k l) (jn l) := by
  refine Ev.succ ?_
  simp only [spec_ControlText.j3]
  refine Ev.succ ?_
  simp only [spec_ControlText.l0]
  cases l with
  | nil => exact Ev.no (by simp) (Ev.now _)
  | cons x r =>
    have hx := h x (by simp)
    have e := rdO_get2 (x :: r) 0 (by simp)
    rw [show ((0 : Nat) : Int) = 0 from rfl] at e
    have := stext_l (x :: r) hl h r.length 1 x (by omega) (by simp) (by simp) (by omega)
    rw [List.drop_succ_cons, List.drop_zero, show ((1 : Nat) : Int) = 1 from rfl] at this
    rw [e, bnil_app]
    have z0 : (⟨#[]⟩ : ByteArray).size = 0 := rfl
    have w1 : wrap64 (0 + 1) = 1 := by rw [w64 (by omega) (by omega)]; rfl
    rw [w1]
    exact Ev.yes (by simp only [List.length_cons]; omega) (Ev.no (by omega) (Ev.yes (by omega) (Ev.yes (by show 0 + x.size ≤ _; omega) this)))
def t0 (b : Bool) : List ByteArray := if b = true then [(⟨#[110, 111, 45, 115, 116, 111, 114, 101]⟩ : ByteArray)] else []
def t1 (b : Bool) : List ByteArray := if b = true then [(⟨#[110, 111, 45, 99, 97, 99, 104, 101]⟩ : ByteArray)] else []
def t2 (n : Int) : List ByteArray := if 0 ≤ n ∧ n ≤ 999999 then [(⟨#[109, 97, 120, 45, 97, 103, 101, 61]⟩ : ByteArray) ++ decB n.toNat] else []
def t3 (n : Int) : List ByteArray := if 0 ≤ n ∧ n ≤ 999999 then [(⟨#[115, 45, 109, 97, 120, 97, 103, 101, 61]⟩ : ByteArray) ++ decB n.toNat] else []
def ctlL (a b : Bool) (m n : Int) : List ByteArray := t0 a ++ (t1 b ++ (t2 m ++ t3 n))
def sm (m : Nat) (x : List ByteArray) : Prop := x.length ≤ m ∧ ∀ y ∈ x, y.size ≤ 2000000
theorem sm_app {m n : Nat} {x y : List ByteArray} (h : sm m x) (k : sm n y) : sm (m + n) (x ++ y) := ⟨by rw [List.length_append]; have := h.1; have := k.1; omega, fun z hz => by rcases List.mem_append.1 hz with q | q; exact h.2 z q; exact k.2 z q⟩
theorem sm_one {x : ByteArray} (h : x.size ≤ 2000000) : sm 1 [x] := ⟨by simp, fun y hy => by rw [List.mem_singleton.1 hy]; exact h⟩
theorem sm_nil (m : Nat) : sm m [] := ⟨Nat.zero_le _, fun y hy => absurd hy (by simp)⟩
theorem dec_nat (n : Int) (h : 0 ≤ n ∧ n ≤ 999999) : ∃ m : Nat, n = (m : Int) ∧ n.toNat = m ∧ (decB m).size ≤ 1000000 := ⟨n.toNat, by omega, rfl, by have := decB_size n.toNat; omega⟩
theorem ct_impl_2 (x : List ByteArray) (a b : Bool) (m n : Int) (hx : sm 3 x) : Ev (fun k => impl_ControlText.j2 k x a b m n) (jn (x ++ t3 n)) := by
  refine Ev.succ ?_
  simp only [impl_ControlText.j2]
  refine Ev.via (in_impl _ _ _) ?_
  have hl := hx.1
  unfold t3
  by_cases c : 0 ≤ n ∧ n ≤ 999999
  · rw [if_pos c]
    obtain ⟨q, rfl, e, hq⟩ := dec_nat n c
    rw [e]
    have k9 : (⟨#[115, 45, 109, 97, 120, 97, 103, 101, 61]⟩ : ByteArray).size = 9 := rfl
    have hs := sm_app hx (sm_one (x := (⟨#[115, 45, 109, 97, 120, 97, 103, 101, 61]⟩ : ByteArray) ++ decB q) (by rw [ByteArray.size_append]; omega))
    exact Ev.yes (decide_eq_true c) (Ev.via (dec_impl q (by omega)) (Ev.yes (by omega) (Ev.yes (by omega) (Ev.via (join_ev _ (by have := hs.1; omega) hs.2) (Ev.now _)))))
  · rw [if_neg c, List.append_nil]
    exact Ev.no (by rw [decide_eq_false c]; simp) (Ev.via (join_ev _ (by omega) hx.2) (Ev.now _))
theorem ct_impl_1 (x : List ByteArray) (a b : Bool) (m n : Int) (hx : sm 2 x) : Ev (fun k => impl_ControlText.j1 k x a b m n) (jn (x ++ (t2 m ++ t3 n))) := by
  refine Ev.succ ?_
  simp only [impl_ControlText.j1]
  refine Ev.via (in_impl _ _ _) ?_
  have hl := hx.1
  rw [← List.append_assoc]
  unfold t2
  by_cases c : 0 ≤ m ∧ m ≤ 999999
  · rw [if_pos c]
    obtain ⟨q, rfl, e, hq⟩ := dec_nat m c
    rw [e]
    have k8 : (⟨#[109, 97, 120, 45, 97, 103, 101, 61]⟩ : ByteArray).size = 8 := rfl
    have hs := sm_app hx (sm_one (x := (⟨#[109, 97, 120, 45, 97, 103, 101, 61]⟩ : ByteArray) ++ decB q) (by rw [ByteArray.size_append]; omega))
    exact Ev.yes (decide_eq_true c) (Ev.via (dec_impl q (by omega)) (Ev.yes (by omega) (Ev.yes (by omega) (ct_impl_2 _ a b _ n hs))))
  · rw [if_neg c, List.append_nil]
    exact Ev.no (by rw [decide_eq_false c]; simp) (ct_impl_2 _ a b _ n ⟨by omega, hx.2⟩)
theorem ct_impl_0 (x : List ByteArray) (a b : Bool) (m n : Int) (hx : sm 1 x) : Ev (fun k => impl_ControlText.j0 k x a b m n) (jn (x ++ (t1 b ++ (t2 m ++ t3 n)))) := by
  refine Ev.succ ?_
  simp only [impl_ControlText.j0]
  have hl := hx.1
  rw [← List.append_assoc]
  unfold t1
  by_cases c : b = true
  · rw [if_pos c]
    exact Ev.yes c (Ev.yes (by omega) (ct_impl_1 _ a b m n (sm_app hx (sm_one (by decide)))))
  · rw [if_neg c, List.append_nil]
    exact Ev.no c (ct_impl_1 _ a b m n ⟨by omega, hx.2⟩)
theorem ct_impl (a b : Bool) (m n : Int) : Ev (fun k => impl_ControlText.f k a b m n) (jn (ctlL a b m n)) := by
  simp only [impl_ControlText.f, Option.bind_some, List.nil_append]
  unfold ctlL t0
  by_cases c : a = true
  · rw [if_pos c]
    exact Ev.yes c (Ev.yes (by simp) (ct_impl_0 _ a b m n (sm_one (by decide))))
  · rw [if_neg c, List.nil_append]
    have := ct_impl_0 [] a b m n (sm_nil 1)
    rw [List.nil_append] at this
    exact Ev.no c this
theorem ct_spec_2 (x : List ByteArray) (a b : Bool) (m n : Int) (hx : sm 3 x) : Ev (fun k => spec_ControlText.j2 k x a b m n) (jn (x ++ t3 n)) := by
  refine Ev.succ ?_
  simp only [spec_ControlText.j2]
  refine Ev.via (in_spec _ _ _) ?_
  have hl := hx.1
  unfold t3
  by_cases c : 0 ≤ n ∧ n ≤ 999999
  · rw [if_pos c]
    obtain ⟨q, rfl, e, hq⟩ := dec_nat n c
    rw [e]
    have k9 : (⟨#[115, 45, 109, 97, 120, 97, 103, 101, 61]⟩ : ByteArray).size = 9 := rfl
    have hs := sm_app hx (sm_one (x := (⟨#[115, 45, 109, 97, 120, 97, 103, 101, 61]⟩ : ByteArray) ++ decB q) (by rw [ByteArray.size_append]; omega))
    exact Ev.yes (decide_eq_true c) (Ev.bind (dec_spec q (by omega)) (Ev.yes (by omega) (Ev.yes (by omega) (stext _ (by have := hs.1; omega) hs.2))))
  · rw [if_neg c, List.append_nil]
    exact Ev.no (by rw [decide_eq_false c]; simp) (stext _ (by omega) hx.2)
theorem ct_spec_1 (x : List ByteArray) (a b : Bool) (m n : Int) (hx : sm 2 x) : Ev (fun k => spec_ControlText.j1 k x a b m n) (jn (x ++ (t2 m ++ t3 n))) := by
  refine Ev.succ ?_
  simp only [spec_ControlText.j1]
  refine Ev.via (in_spec _ _ _) ?_
  have hl := hx.1
  rw [← List.append_assoc]
  unfold t2
  by_cases c : 0 ≤ m ∧ m ≤ 999999
  · rw [if_pos c]
    obtain ⟨q, rfl, e, hq⟩ := dec_nat m c
    rw [e]
    have k8 : (⟨#[109, 97, 120, 45, 97, 103, 101, 61]⟩ : ByteArray).size = 8 := rfl
    have hs := sm_app hx (sm_one (x := (⟨#[109, 97, 120, 45, 97, 103, 101, 61]⟩ : ByteArray) ++ decB q) (by rw [ByteArray.size_append]; omega))
    exact Ev.yes (decide_eq_true c) (Ev.bind (dec_spec q (by omega)) (Ev.yes (by omega) (Ev.yes (by omega) (ct_spec_2 _ a b _ n hs))))
  · rw [if_neg c, List.append_nil]
    exact Ev.no (by rw [decide_eq_false c]; simp) (ct_spec_2 _ a b _ n ⟨by omega, hx.2⟩)
theorem ct_spec_0 (x : List ByteArray) (a b : Bool) (m n : Int) (hx : sm 1 x) : Ev (fun k => spec_ControlText.j0 k x a b m n) (jn (x ++ (t1 b ++ (t2 m ++ t3 n)))) := by
  refine Ev.succ ?_
  simp only [spec_ControlText.j0]
  have hl := hx.1
  rw [← List.append_assoc]
  unfold t1
  by_cases c : b = true
  · rw [if_pos c]
    exact Ev.yes c (Ev.yes (by omega) (ct_spec_1 _ a b m n (sm_app hx (sm_one (by decide)))))
  · rw [if_neg c, List.append_nil]
    exact Ev.no c (ct_spec_1 _ a b m n ⟨by omega, hx.2⟩)
theorem ct_spec (a b : Bool) (m n : Int) : Ev (fun k => spec_ControlText.f k a b m n) (jn (ctlL a b m n)) := by
  simp only [spec_ControlText.f, Option.bind_some, List.nil_append]
  unfold ctlL t0
  by_cases c : a = true
  · rw [if_pos c]
    exact Ev.yes c (Ev.yes (by simp) (ct_spec_0 _ a b m n (sm_one (by decide))))
  · rw [if_neg c, List.nil_append]
    have := ct_spec_0 [] a b m n (sm_nil 1)
    rw [List.nil_append] at this
    exact Ev.no c this
end Go.Proofs.YthjigecaojaalaaDoor.Q
namespace Go.Proofs.YthjigecaojaalaaDoor.Q
open Go.RowKit Go.Proofs.YthjigecaojaalaaDoorW.PrintWords Go.Proofs.YthjigecaojaalaaDoorW.PrintLast Go.Proofs.YthjigecaojaalaaDoorW.PrintMore
theorem pureControlText (a b : Bool) (m n : Int) (_ : (Lit.int .i64 m).wf = true) (_ : (Lit.int .i64 n).wf = true) : ∃ k, laws_FnExactControlText.f k a b m n = some true := by
  refine Ev.rounds (g := fun k => laws_FnExactControlText.f k a b m n) ?_
  simp only [laws_FnExactControlText.f, laws_toControl.f, Option.bind_some]
  exact Ev.bind (ct_spec a b m n) (Ev.bind (ct_impl a b m n) (Ev.yes rfl (Ev.now _)))
end Go.Proofs.YthjigecaojaalaaDoor.Q
