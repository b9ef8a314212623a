import Derived.Test.YtoopdknphikgkaaSkWords
import Derived.Test.YtoopdknphikgkaaSkG100
import Derived.Test.YtoopdknphikgkaaSkG101
import Derived.Test.YtoopdknphikgkaaSkG20
import Derived.Test.YtoopdknphikgkaaSkG87
import Derived.Test.YtoopdknphikgkaaSkG13
namespace Go.Proofs.Ytoopdknphikgkaa.Q
open Go.RowKit Go.Proofs.YtoopdknphikgkaaW.PrintWords Go.Proofs.YtoopdknphikgkaaW.PrintLast Go.Proofs.YtoopdknphikgkaaW.PrintMore
/-- With enough rounds g tells something of which P holds. -/
def EvP {α : Type} (g : Nat → Option α) (P : α → Prop) : Prop := ∃ r, Ev g r ∧ P r
theorem Ev.succ {α : Type} {g : Nat → Option α} {r : α} (h : Ev (fun k => g (k + 1)) r) : Ev g r := Ev.step (fun _ => rfl) h
theorem Ev.yes {α : Type} {f g : Nat → Option α} {r : α} {c : Prop} [Decidable c] (hc : c) (h : Ev f r) : Ev (fun k => if c then f k else g k) r := Ev.congr (fun _ => if_pos hc) h
theorem Ev.no {α : Type} {f g : Nat → Option α} {r : α} {c : Prop} [Decidable c] (hc : ¬ c) (h : Ev g r) : Ev (fun k => if c then f k else g k) r := Ev.congr (fun _ => if_neg hc) h
theorem Ev.const {α : Type} {g : Option α} {a : α} (h : g = some a) : Ev (fun _ => g) a := ⟨0, fun _ _ => h⟩
theorem EvP.bind {α β : Type} {g : Nat → Option α} {f : Nat → α → Option β} {P : α → Prop} {Q : β → Prop} (h : EvP g P) (k : ∀ a, P a → EvP (fun n => f n a) Q) : EvP (fun n => (g n).bind (f n)) Q := by
  obtain ⟨a, ha, hp⟩ := h
  obtain ⟨r, hr, hq⟩ := k a hp
  exact ⟨r, Ev.bind ha hr, hq⟩
theorem EvP.ite {α : Type} {f g : Nat → Option α} {P : α → Prop} {c : Prop} [Decidable c] (h1 : c → EvP f P) (h2 : ¬ c → EvP g P) : EvP (fun k => if c then f k else g k) P := by
  by_cases hc : c
  · obtain ⟨r, hr, hp⟩ := h1 hc; exact ⟨r, Ev.yes hc hr, hp⟩
  · obtain ⟨r, hr, hp⟩ := h2 hc; exact ⟨r, Ev.no hc hr, hp⟩
theorem EvP.yes {α : Type} {f g : Nat → Option α} {P : α → Prop} {c : Prop} [Decidable c] (hc : c) (h : EvP f P) : EvP (fun k => if c then f k else g k) P := EvP.ite (fun _ => h) (fun hn => absurd hc hn)
theorem EvP.no {α : Type} {f g : Nat → Option α} {P : α → Prop} {c : Prop} [Decidable c] (hc : ¬ c) (h : EvP g P) : EvP (fun k => if c then f k else g k) P := EvP.ite (fun hn => absurd hn hc) (fun _ => h)
theorem EvP.ret {α : Type} {a : α} {P : α → Prop} (h : P a) : EvP (fun _ => some a) P := ⟨a, Ev.now a, h⟩
theorem EvP.ev {α : Type} {g : Nat → Option α} {r : α} {P : α → Prop} (h : Ev g r) (hp : P r) : EvP g P := ⟨r, h, hp⟩
theorem EvP.const {α : Type} {g : Option α} {a : α} {P : α → Prop} (h : g = some a) (hp : P a) : EvP (fun _ => g) P := ⟨a, Ev.const h, hp⟩
theorem EvP.succ {α : Type} {g : Nat → Option α} {P : α → Prop} (h : EvP (fun k => g (k + 1)) P) : EvP g P := by
  obtain ⟨r, hr, hp⟩ := h
  exact ⟨r, Ev.succ hr, hp⟩
theorem EvP.imp {α : Type} {g : Nat → Option α} {P Q : α → Prop} (h : EvP g P) (k : ∀ r, P r → Q r) : EvP g Q := by
  obtain ⟨r, hr, hp⟩ := h
  exact ⟨r, hr, k r hp⟩
theorem EvP.is {α : Type} {g : Nat → Option α} {r : α} (h : EvP g (fun x => x = r)) : Ev g r := by
  obtain ⟨_, hr, rfl⟩ := h
  exact hr
end Go.Proofs.Ytoopdknphikgkaa.Q
namespace Go.Proofs.Ytoopdknphikgkaa.Q
open Go.RowKit Go.Proofs.YtoopdknphikgkaaW.PrintWords Go.Proofs.YtoopdknphikgkaaW.PrintLast Go.Proofs.YtoopdknphikgkaaW.PrintMore
theorem w64 {n : Int} (h0 : -9223372036854775808 ≤ n) (h1 : n < 9223372036854775808) : wrap64 n = n := by unfold wrap64; omega
theorem wnat (i n : Nat) (h : i < n) (hn : n ≤ 9223372036854775807) : wrap64 ((i : Int) + 1) = ((i + 1 : Nat) : Int) := by rw [w64 (by omega) (by omega)]; rfl
theorem rd_get (l : List Int) (i : Nat) (h : i < l.length) : rd l i = l[i] := by simp [rd, h]
theorem drop_get {α : Type} (l : List α) (i : Nat) (h : i < l.length) : l.drop i = l[i] :: l.drop (i + 1) := List.drop_eq_getElem_cons h
theorem take_set {α : Type} (x : List α) (i : Nat) (v : α) (h : i < x.length) : (x.set i v).take (i + 1) = x.take i ++ [v] := by
  have h2 : i < (x.set i v).length := by rw [List.length_set]; exact h
  rw [List.take_succ_eq_append_getElem h2, List.take_set, List.set_eq_of_length_le (by simp; omega)]
  simp
end Go.Proofs.Ytoopdknphikgkaa.Q
namespace Go.Proofs.Ytoopdknphikgkaa.Q
open Go.RowKit Go.Proofs.YtoopdknphikgkaaW.PrintWords Go.Proofs.YtoopdknphikgkaaW.PrintLast Go.Proofs.YtoopdknphikgkaaW.PrintMore
theorem rdL_get (l : List (List Int)) (i : Nat) (h : i < l.length) : rd_L2 l i = l[i] := by simp [rd_L2, h]
end Go.Proofs.Ytoopdknphikgkaa.Q
namespace Go.Proofs.Ytoopdknphikgkaa.Q
open Go.RowKit Go.Proofs.YtoopdknphikgkaaW.PrintWords Go.Proofs.YtoopdknphikgkaaW.PrintLast Go.Proofs.YtoopdknphikgkaaW.PrintMore
theorem in_spec (a b c : Int) : spec_l01In.f a b c = some (decide (b ≤ a ∧ a ≤ c)) := by
  unfold spec_l01In.f
  by_cases h : a ≥ b
  · rw [if_pos h]; simp [show b ≤ a from h]
  · rw [if_neg h]; simp [show ¬ b ≤ a from h]
theorem in_impl (a b c : Int) : impl_within.f a b c = some (decide (b ≤ a ∧ a ≤ c)) := by
  unfold impl_within.f
  by_cases h : a ≥ b
  · rw [if_pos h]; simp [show b ≤ a from h]
  · rw [if_neg h]; simp [show ¬ b ≤ a from h]
end Go.Proofs.Ytoopdknphikgkaa.Q
namespace Go.Proofs.Ytoopdknphikgkaa.Q
open Go.RowKit Go.Proofs.YtoopdknphikgkaaW.PrintWords Go.Proofs.YtoopdknphikgkaaW.PrintLast Go.Proofs.YtoopdknphikgkaaW.PrintMore
def nOk (n : Int) : Bool := decide (0 ≤ n ∧ n ≤ 15)
def rOk (r : List Int) : Bool := decide (r.length = 16) && r.all nOk
def skOk (l : List (List Int)) (a : Int) : Bool := decide (l.length = 3) && (decide (0 ≤ a ∧ a ≤ 63) && l.all rOk)
theorem sk_row_spec (l : List (List Int)) (a : Int) (i : Nat) (hi : i < l.length) (hl : l.length ≤ 1048576) (hr : l[i].length = 16) (g : Bool) (hg : Ev (fun k => spec_SketchOk.l0 k ((i + 1 : Nat) : Int) l a) g) (d : Nat) : ∀ j : Nat, j ≤ 16 → 16 - j = d → Ev (fun k => spec_SketchOk.l1 k (i : Int) (j : Int) l a) ((l[i].drop j).all nOk && g) := by
  induction d with
  | zero =>
    intro j hj hd
    refine Ev.succ ?_
    simp only [spec_SketchOk.l1]
    rw [rdL_get l i hi, wnat i _ hi (by omega), List.drop_eq_nil_of_le (by omega)]
    simp only [List.all_nil, Bool.true_and]
    exact Ev.yes (by omega) (Ev.yes (by omega) (Ev.no (by omega) hg))
  | succ d ih =>
    intro j hj hd
    have hlt : j < l[i].length := by omega
    refine Ev.succ ?_
    simp only [spec_SketchOk.l1]
    rw [rdL_get l i hi, rd_get _ j hlt, wnat j _ hlt (by omega), drop_get _ j hlt]
    simp only [in_spec, Option.bind_some, List.all_cons]
    refine Ev.yes (by omega) (Ev.yes (by omega) (Ev.yes (by omega) (Ev.yes (by omega) ?_)))
    by_cases c : 0 ≤ l[i][j] ∧ l[i][j] ≤ 15
    · rw [show nOk l[i][j] = true from decide_eq_true c, Bool.true_and]
      exact Ev.yes (decide_eq_true c) (ih (j + 1) (by omega) (by omega))
    · rw [show nOk l[i][j] = false from decide_eq_false c, Bool.false_and, Bool.false_and]
      exact Ev.no (by simpa using c) (Ev.now _)
theorem sk_rows_spec (l : List (List Int)) (a : Int) (hl : l.length ≤ 1048576) (d : Nat) : ∀ i : Nat, i ≤ l.length → l.length - i = d → Ev (fun k => spec_SketchOk.l0 k (i : Int) l a) ((l.drop i).all rOk) := by
  induction d with
  | zero =>
    intro i hi hd
    refine Ev.succ ?_
    simp only [spec_SketchOk.l0]
    rw [List.drop_eq_nil_of_le (by omega)]
    exact Ev.no (by omega) (Ev.now _)
  | succ d ih =>
    intro i hi hd
    have hlt : i < l.length := by omega
    refine Ev.succ ?_
    simp only [spec_SketchOk.l0]
    rw [rdL_get l i hlt, drop_get l i hlt]
    simp only [List.all_cons]
    refine Ev.yes (by omega) (Ev.yes (by omega) ?_)
    by_cases c : l[i].length = 16
    · have h := sk_row_spec l a i hlt hl c _ (ih (i + 1) (by omega) (by omega)) 16 0 (by omega) (by omega)
      rw [List.drop_zero] at h
      rw [rOk, decide_eq_true c, Bool.true_and]
      exact Ev.yes (by omega) h
    · rw [rOk, decide_eq_false c, Bool.false_and, Bool.false_and]
      exact Ev.no (by omega) (Ev.now _)
theorem sk_spec (l : List (List Int)) (a : Int) (hl : l.length ≤ 1048576) : Ev (fun k => spec_SketchOk.f k l a) (skOk l a) := by
  simp only [spec_SketchOk.f, in_spec, Option.bind_some, skOk]
  by_cases c : l.length = 3
  · rw [decide_eq_true c, Bool.true_and]
    refine Ev.yes (by omega) (Ev.succ ?_)
    simp only [spec_SketchOk.j0]
    by_cases c2 : 0 ≤ a ∧ a ≤ 63
    · rw [decide_eq_true c2, Bool.true_and]
      have h := sk_rows_spec l a hl l.length 0 (by omega) (by omega)
      rw [List.drop_zero] at h
      exact Ev.no (by simp) h
    · rw [decide_eq_false c2, Bool.false_and]
      exact Ev.yes (by simp) (Ev.now _)
  · rw [decide_eq_false c, Bool.false_and]
    refine Ev.no (by omega) (Ev.succ ?_)
    simp only [spec_SketchOk.j0]
    exact Ev.yes trivial (Ev.now _)
theorem sk_row_impl (l : List (List Int)) (a : Int) (i : Nat) (r : List Int) (hr : r.length ≤ 1048576) (g : Bool) (hi : i < l.length) (hl : l.length ≤ 1048576) (hg : Ev (fun k => impl_SketchOk.l0 k l (l.length : Int) ((i + 1 : Nat) : Int) l a) g) (d : Nat) : ∀ j : Nat, j ≤ r.length → r.length - j = d → Ev (fun k => impl_SketchOk.l1 k r l (l.length : Int) (i : Int) r (r.length : Int) (j : Int) l a) ((r.drop j).all nOk && (decide (r.length = 16) && g)) := by
  induction d with
  | zero =>
    intro j hj hd
    refine Ev.succ ?_
    simp only [impl_SketchOk.l1]
    rw [wnat i _ hi (by omega), List.drop_eq_nil_of_le (by omega)]
    simp only [List.all_nil, Bool.true_and]
    refine Ev.no (by omega) ?_
    by_cases c : r.length = 16
    · rw [decide_eq_true c, Bool.true_and]; exact Ev.yes (by omega) hg
    · rw [decide_eq_false c, Bool.false_and]; exact Ev.no (by omega) (Ev.now _)
  | succ d ih =>
    intro j hj hd
    have hlt : j < r.length := by omega
    refine Ev.succ ?_
    simp only [impl_SketchOk.l1]
    rw [rd_get _ j hlt, wnat j _ hlt (by omega), drop_get _ j hlt]
    simp only [in_impl, Option.bind_some, List.all_cons]
    refine Ev.yes (by omega) (Ev.yes (by omega) (Ev.yes (by omega) ?_))
    by_cases c : 0 ≤ r[j] ∧ r[j] ≤ 15
    · rw [show nOk r[j] = true from decide_eq_true c, Bool.true_and]
      exact Ev.yes (decide_eq_true c) (ih (j + 1) (by omega) (by omega))
    · rw [show nOk r[j] = false from decide_eq_false c, Bool.false_and, Bool.false_and]
      exact Ev.no (by simpa using c) (Ev.now _)
theorem sk_rows_impl (l : List (List Int)) (a : Int) (hl : l.length ≤ 1048576) (hg : ∀ r ∈ l, r.length ≤ 1048576) (d : Nat) : ∀ i : Nat, i ≤ l.length → l.length - i = d → Ev (fun k => impl_SketchOk.l0 k l (l.length : Int) (i : Int) l a) ((l.drop i).all rOk && (decide (l.length = 3) && decide (0 ≤ a ∧ a ≤ 63))) := by
  induction d with
  | zero =>
    intro i hi hd
    refine Ev.succ ?_
    simp only [impl_SketchOk.l0]
    rw [List.drop_eq_nil_of_le (by omega)]
    simp only [in_impl, Option.bind_some, List.all_nil, Bool.true_and]
    refine Ev.no (by omega) ?_
    by_cases c : l.length = 3
    · rw [decide_eq_true c, Bool.true_and]; exact Ev.yes (by omega) (Ev.now _)
    · rw [decide_eq_false c, Bool.false_and]; exact Ev.no (by omega) (Ev.now _)
  | succ d ih =>
    intro i hi hd
    have hlt : i < l.length := by omega
    have hr := hg _ (List.getElem_mem hlt)
    refine Ev.succ ?_
    simp only [impl_SketchOk.l0]
    rw [rdL_get l i hlt, drop_get l i hlt]
    simp only [List.all_cons]
    have h := sk_row_impl l a i l[i] hr _ hlt hl (ih (i + 1) (by omega) (by omega)) l[i].length 0 (by omega) (by omega)
    rw [List.drop_zero] at h
    refine Ev.yes (by omega) (Ev.yes (by omega) (Ev.yes (by omega) ?_))
    rw [show ((rOk l[i] && (l.drop (i + 1)).all rOk) && (decide (l.length = 3) && decide (0 ≤ a ∧ a ≤ 63))) = (l[i].all nOk && (decide (l[i].length = 16) && ((l.drop (i + 1)).all rOk && (decide (l.length = 3) && decide (0 ≤ a ∧ a ≤ 63))))) from by
      rw [rOk]; cases l[i].all nOk <;> cases decide (l[i].length = 16) <;> simp]
    exact h
theorem sk_impl (l : List (List Int)) (a : Int) (hl : l.length ≤ 1048576) (hg : ∀ r ∈ l, r.length ≤ 1048576) : Ev (fun k => impl_SketchOk.f k l a) (skOk l a) := by
  simp only [impl_SketchOk.f]
  have h := sk_rows_impl l a hl hg l.length 0 (by omega) (by omega)
  rw [List.drop_zero, show (l.all rOk && (decide (l.length = 3) && decide (0 ≤ a ∧ a ≤ 63))) = skOk l a from by rw [skOk]; cases l.all rOk <;> cases decide (l.length = 3) <;> cases decide (0 ≤ a ∧ a ≤ 63) <;> rfl] at h
  exact h
end Go.Proofs.Ytoopdknphikgkaa.Q
namespace Go.Proofs.Ytoopdknphikgkaa.Q
open Go.RowKit Go.Proofs.YtoopdknphikgkaaW.PrintWords Go.Proofs.YtoopdknphikgkaaW.PrintLast Go.Proofs.YtoopdknphikgkaaW.PrintMore
theorem xor32_range (a b : Int) : 0 ≤ Go.bits .xor .u32 a b ∧ Go.bits .xor .u32 a b < 4294967296 := by
  unfold Go.bits; simp only [IntKind.wrap_u32]; omega
theorem and255 (a : Int) : Go.bits .and .i64 a 255 % 256 = a % 256 := by
  unfold Go.bits
  simp only [IntKind.wrap_i64]
  have e1 : (BitVec.ofInt IntKind.i64.bits a).toNat = (a % 18446744073709551616).toNat := by rw [BitVec.toNat_ofInt]; rfl
  have e2 : (BitVec.ofInt IntKind.i64.bits 255).toNat = 2 ^ 8 - 1 := by decide
  rw [BitVec.toNat_and, e1, e2, Nat.and_two_pow_sub_one_eq_mod]
  omega
theorem sum_inner (d : Nat) : ∀ (x i j : Int) (s : ByteArray), 0 ≤ x → x < 4294967296 → 0 ≤ j → j ≤ 8 → 8 - j = d →
    ∃ y, 0 ≤ y ∧ y < 4294967296 ∧ (∀ k, spec_SumMore.l1 (k + d + 1) x s i j = spec_SumMore.l0 k y s (wrap64 (i + 1))) ∧ (∀ k, impl_SumMore.l1 (k + d + 1) x s i j = impl_SumMore.l0 k y s (wrap64 (i + 1))) := by
  induction d with
  | zero =>
    intro x i j s h0 h1 h2 h3 h4
    exact ⟨x, h0, h1, fun k => by simp only [spec_SumMore.l1]; rw [if_neg (by omega)], fun k => by simp only [impl_SumMore.l1]; rw [if_neg (by omega)]⟩
  | succ d ih =>
    intro x i j s h0 h1 h2 h3 h4
    have ht : 0 ≤ (Int.tdiv x 2) % 4294967296 ∧ (Int.tdiv x 2) % 4294967296 < 4294967296 := by omega
    have hx := xor32_range ((Int.tdiv x 2) % 4294967296) 3558460437
    have hw : wrap64 (j + 1) = j + 1 := w64 (by omega) (by omega)
    by_cases c : Int.tmod x 2 = 1
    · obtain ⟨y, a, b, hs, hi⟩ := ih _ i (j + 1) s hx.1 hx.2 (by omega) (by omega) (by omega)
      refine ⟨y, a, b, fun k => ?_, fun k => ?_⟩
      · rw [← hs k, show k + (d + 1) + 1 = (k + d + 1) + 1 by omega]; simp only [spec_SumMore.l1]; rw [if_pos (by omega), if_pos c, hw]
      · rw [← hi k, show k + (d + 1) + 1 = (k + d + 1) + 1 by omega]; simp only [impl_SumMore.l1]; rw [if_pos (by omega), if_pos c, hw]
    · obtain ⟨y, a, b, hs, hi⟩ := ih _ i (j + 1) s ht.1 ht.2 (by omega) (by omega) (by omega)
      refine ⟨y, a, b, fun k => ?_, fun k => ?_⟩
      · rw [← hs k, show k + (d + 1) + 1 = (k + d + 1) + 1 by omega]; simp only [spec_SumMore.l1]; rw [if_pos (by omega), if_neg c, hw]
      · rw [← hi k, show k + (d + 1) + 1 = (k + d + 1) + 1 by omega]; simp only [impl_SumMore.l1]; rw [if_pos (by omega), if_neg c, hw]
theorem sum_outer (s : ByteArray) (hs : s.size ≤ 9223372036854775807) (d : Nat) : ∀ (x i : Int), 0 ≤ x → x < 4294967296 → 0 ≤ i → i ≤ s.size → (s.size : Int) - i = d →
    ∃ r, 0 ≤ r ∧ r < 4294967296 ∧ Ev (fun k => spec_SumMore.l0 k x s i) r ∧ Ev (fun k => impl_SumMore.l0 k x s i) r := by
  induction d with
  | zero =>
    intro x i h0 h1 h2 h3 h4
    refine ⟨x, h0, h1, ⟨1, fun k hk => ?_⟩, ⟨1, fun k hk => ?_⟩⟩
    · obtain ⟨k, rfl⟩ : ∃ m, k = m + 1 := ⟨k - 1, by omega⟩
      simp only [spec_SumMore.l0]; rw [if_neg (by omega)]
    · obtain ⟨k, rfl⟩ : ∃ m, k = m + 1 := ⟨k - 1, by omega⟩
      simp only [impl_SumMore.l0]; rw [if_neg (by omega)]
  | succ d ih =>
    intro x i h0 h1 h2 h3 h4
    have hx := xor32_range x ((bt s i) % 4294967296)
    obtain ⟨y, y0, y1, hi1, hi2⟩ := sum_inner 8 _ i 0 s hx.1 hx.2 (by omega) (by omega) (by omega)
    obtain ⟨r, r0, r1, ⟨K1, e1⟩, ⟨K2, e2⟩⟩ := ih y (i + 1) y0 y1 (by omega) (by omega) (by omega)
    have hw : wrap64 (i + 1) = i + 1 := w64 (by omega) (by omega)
    rw [hw] at hi1 hi2
    refine ⟨r, r0, r1, ⟨K1 + 10, fun k hk => ?_⟩, ⟨K2 + 10, fun k hk => ?_⟩⟩
    · obtain ⟨k, rfl⟩ : ∃ m, k = (m + 8 + 1) + 1 := ⟨k - 10, by omega⟩
      show spec_SumMore.l0 ((k + 8 + 1) + 1) x s i = some r
      simp only [spec_SumMore.l0]; rw [if_pos (by omega), if_pos h2, hi1]; exact e1 k (by omega)
    · obtain ⟨k, rfl⟩ : ∃ m, k = (m + 8 + 1) + 1 := ⟨k - 10, by omega⟩
      show impl_SumMore.l0 ((k + 8 + 1) + 1) x s i = some r
      simp only [impl_SumMore.l0]; rw [if_pos (by omega), if_pos h2, hi2]; exact e2 k (by omega)
/-- The sum of a text: one number, by both texts. -/
theorem sum_of (s : ByteArray) (hs : s.size ≤ 9223372036854775807) : ∃ r, 0 ≤ r ∧ r < 4294967296 ∧ Ev (fun k => spec_SumOf.f k s) r ∧ Ev (fun k => impl_SumOf.f k s) r := by
  obtain ⟨r, r0, r1, ⟨K1, e1⟩, ⟨K2, e2⟩⟩ := sum_outer s hs s.size 4294967295 0 (by omega) (by omega) (by omega) (by omega) (by omega)
  dsimp only at e1 e2
  exact ⟨r, r0, r1, ⟨K1, fun k hk => by simp only [spec_SumOf.f, spec_SumMore.f]; rw [e1 k hk]; rfl⟩, ⟨K2, fun k hk => by simp only [impl_SumOf.f, impl_SumMore.f]; rw [e2 k hk]; rfl⟩⟩
/-- The place of a key: the same by both, 0 to 15. -/
theorem place_of (row : Int) (key : ByteArray) (hk : key.size ≤ 140737488351232) : ∃ p, 0 ≤ p ∧ p < 16 ∧ Ev (fun k => spec_SketchPlace.f k row key) p ∧ Ev (fun k => impl_SketchPlace.f k row key) p := by
  have hz : (strOfNums [row % 256]).size = 1 := by simp [strOfNums]; rfl
  have hl : (key ++ strOfNums [row % 256]).size = key.size + 1 := by rw [ByteArray.size_append, hz]
  obtain ⟨r, r0, r1, ⟨K1, e1⟩, ⟨K2, e2⟩⟩ := sum_of (key ++ strOfNums [row % 256]) (by omega)
  dsimp only at e1 e2
  have hm : Int.tmod r 16 = r % 16 := Int.tmod_eq_emod_of_nonneg r0
  refine ⟨r % 16, by omega, by omega, ⟨K1, fun k hk => ?_⟩, ⟨K2, fun k hk => ?_⟩⟩
  · simp only [spec_SketchPlace.f, Option.bind_some]
    rw [if_pos (by omega), e1 k hk]; simp only [Option.bind_some]; rw [hm, w64 (by omega) (by omega)]
  · simp only [impl_SketchPlace.f, Option.bind_some, and255]
    rw [if_pos (by omega), e2 k hk]; simp only [Option.bind_some]; rw [w64 (by omega) (by omega), hm]
end Go.Proofs.Ytoopdknphikgkaa.Q
namespace Go.Proofs.Ytoopdknphikgkaa.Q
open Go.RowKit Go.Proofs.YtoopdknphikgkaaW.PrintWords Go.Proofs.YtoopdknphikgkaaW.PrintLast Go.Proofs.YtoopdknphikgkaaW.PrintMore
def gsL (pl : Nat → Int) : List (List Int) → Nat → Int → Int
  | [], _, m => m
  | r :: t, i, m => gsL pl t (i + 1) (mn m (rd r (pl i)))
def gs (l : List (List Int)) (pl : Nat → Int) (i : Nat) (m : Int) : Int := gsL pl (l.drop i) i m
theorem mn_if (m x : Int) : mn m x = if x < m then x else m := rfl
theorem guess_spec_l (l : List (List Int)) (a : Int) (key : ByteArray) (pl : Nat → Int) (hp : ∀ i, 0 ≤ pl i ∧ pl i < 16 ∧ Ev (fun k => spec_SketchPlace.f k (i : Int) key) (pl i)) (hl : l.length ≤ 1048576) (hg : ∀ r ∈ l, r.length = 16) (d : Nat) : ∀ (i : Nat) (m : Int), i ≤ l.length → l.length - i = d → Ev (fun k => spec_SketchGuess.l0 k key m (i : Int) l a) (gs l pl i m) := by
  induction d with
  | zero =>
    intro i m hi hd
    refine Ev.succ ?_
    simp only [spec_SketchGuess.l0]
    rw [show gs l pl i m = m from by show gsL pl (l.drop i) i m = m; rw [List.drop_eq_nil_of_le (by omega)]; rfl]
    exact Ev.no (by omega) (Ev.now _)
  | succ d ih =>
    intro i m hi hd
    have hlt : i < l.length := by omega
    have hr := hg _ (List.getElem_mem hlt)
    obtain ⟨p0, p1, pe⟩ := hp i
    refine Ev.succ ?_
    simp only [spec_SketchGuess.l0]
    rw [rdL_get l i hlt, wnat i _ hlt (by omega)]
    have e : gs l pl i m = gs l pl (i + 1) (mn m (rd l[i] (pl i))) := by show gsL pl (l.drop i) i m = _; rw [drop_get l i hlt]; rfl
    rw [e, mn_if]
    refine Ev.yes (by omega) (Ev.yes (by omega) (Ev.bind pe (Ev.yes p0 (Ev.yes (by omega) ?_))))
    by_cases c : rd l[i] (pl i) < m
    · rw [if_pos c]; exact Ev.yes c (ih (i + 1) _ (by omega) (by omega))
    · rw [if_neg c]; exact Ev.no c (ih (i + 1) _ (by omega) (by omega))
theorem guess_impl_l (l : List (List Int)) (key : ByteArray) (pl : Nat → Int) (hp : ∀ i, 0 ≤ pl i ∧ pl i < 16 ∧ Ev (fun k => impl_SketchPlace.f k (i : Int) key) (pl i)) (hl : l.length ≤ 1048576) (hg : ∀ r ∈ l, r.length = 16) (d : Nat) : ∀ (i : Nat) (m : Int), i ≤ l.length → l.length - i = d → Ev (fun k => impl_SketchGuess.l0 k key m l (l.length : Int) (i : Int)) (gs l pl i m) := by
  induction d with
  | zero =>
    intro i m hi hd
    refine Ev.succ ?_
    simp only [impl_SketchGuess.l0]
    rw [show gs l pl i m = m from by show gsL pl (l.drop i) i m = m; rw [List.drop_eq_nil_of_le (by omega)]; rfl]
    exact Ev.no (by omega) (Ev.now _)
  | succ d ih =>
    intro i m hi hd
    have hlt : i < l.length := by omega
    have hr := hg _ (List.getElem_mem hlt)
    obtain ⟨p0, p1, pe⟩ := hp i
    refine Ev.succ ?_
    simp only [impl_SketchGuess.l0]
    rw [rdL_get l i hlt, wnat i _ hlt (by omega)]
    have e : gs l pl i m = gs l pl (i + 1) (mn m (rd l[i] (pl i))) := by show gsL pl (l.drop i) i m = _; rw [drop_get l i hlt]; rfl
    rw [e]
    exact Ev.yes (by omega) (Ev.yes (by omega) (Ev.yes (by omega) (Ev.bind pe (Ev.yes p0 (Ev.yes (by omega) (ih (i + 1) _ (by omega) (by omega)))))))
theorem skOk_rows {l : List (List Int)} {a : Int} (h : skOk l a = true) : l.length = 3 ∧ (0 ≤ a ∧ a ≤ 63) ∧ ∀ r ∈ l, r.length = 16 ∧ ∀ n ∈ r, 0 ≤ n ∧ n ≤ 15 := by
  simp only [skOk, Bool.and_eq_true, decide_eq_true_eq, List.all_eq_true] at h
  refine ⟨h.1, h.2.1, fun r hr => ?_⟩
  have := h.2.2 r hr
  simp only [rOk, Bool.and_eq_true, decide_eq_true_eq, List.all_eq_true] at this
  exact ⟨this.1, fun n hn => of_decide_eq_true (this.2 n hn)⟩
/-- Both guess the same. -/
theorem guess_both (l : List (List Int)) (a : Int) (key : ByteArray) (hk : key.size ≤ 140737488351232) (hl : l.length ≤ 1048576) (hg : ∀ r ∈ l, r.length ≤ 1048576) : ∃ g, Ev (fun k => spec_SketchGuess.f k l a key) g ∧ Ev (fun k => impl_SketchGuess.f k l a key) g := by
  simp only [spec_SketchGuess.f, impl_SketchGuess.f]
  cases c : skOk l a with
  | false =>
    have s := sk_spec l a hl
    have i := sk_impl l a hl hg
    rw [c] at s i
    exact ⟨0, Ev.bind s (Ev.no (by simp) (Ev.now _)), Ev.bind i (Ev.no (by simp) (Ev.now _))⟩
  | true =>
    have s := sk_spec l a hl
    have i := sk_impl l a hl hg
    rw [c] at s i
    have hr := fun r hr => ((skOk_rows c).2.2 r hr).1
    have hp := fun i : Nat => place_of (i : Int) key hk
    refine ⟨gs l (fun i => Classical.choose (hp i)) 0 15, Ev.bind s (Ev.yes rfl ?_), Ev.bind i (Ev.yes rfl ?_)⟩
    · exact guess_spec_l l a key _ (fun i => ⟨(Classical.choose_spec (hp i)).1, (Classical.choose_spec (hp i)).2.1, (Classical.choose_spec (hp i)).2.2.1⟩) hl hr l.length 0 15 (by omega) (by omega)
    · exact guess_impl_l l key _ (fun i => ⟨(Classical.choose_spec (hp i)).1, (Classical.choose_spec (hp i)).2.1, (Classical.choose_spec (hp i)).2.2.2⟩) hl hr l.length 0 15 (by omega) (by omega)
end Go.Proofs.Ytoopdknphikgkaa.Q
namespace Go.Proofs.Ytoopdknphikgkaa.Q
open Go.RowKit Go.Proofs.YtoopdknphikgkaaW.PrintWords Go.Proofs.YtoopdknphikgkaaW.PrintLast Go.Proofs.YtoopdknphikgkaaW.PrintMore
def half (n : Int) : Int := wrap64 (Int.tdiv n 2)
def halfFrom (j : Nat) (r : List Int) : List Int := r.take j ++ (r.drop j).map half
theorem halfFrom_set (r : List Int) (j : Nat) (h : j < r.length) : halfFrom (j + 1) (r.set j (half r[j])) = halfFrom j r := by
  unfold halfFrom
  rw [take_set r j _ h, List.drop_set_of_lt (by omega), drop_get r j h, List.map_cons, List.append_assoc, List.singleton_append]
theorem halfFrom_all (r : List Int) (j : Nat) (h : r.length ≤ j) : halfFrom j r = r := by
  unfold halfFrom
  rw [List.take_of_length_le h, List.drop_eq_nil_of_le h]; simp
theorem halfFrom_zero (r : List Int) : halfFrom 0 r = r.map half := by unfold halfFrom; simp
theorem rdL_set (l : List (List Int)) (i : Nat) (v : List Int) (h : i < l.length) : rd_L2 (l.set i v) i = v := by
  rw [rdL_get _ i (by rw [List.length_set]; exact h), List.getElem_set_self]
theorem half_row_spec (i : Nat) (g : List (List Int) × Int) (d : Nat) : ∀ (j : Nat) (cur : List (List Int)), i < cur.length → cur.length ≤ 1048576 → (rd_L2 cur i).length ≤ 1048576 → j ≤ (rd_L2 cur i).length → (rd_L2 cur i).length - j = d → Ev (fun k => spec_SketchBump.l1 k ((i + 1 : Nat) : Int) (cur.set i (halfFrom j (rd_L2 cur i))) 0) g → Ev (fun k => spec_SketchBump.l2 k (i : Int) (j : Int) cur 0) g := by
  induction d with
  | zero =>
    intro j cur hi hl hr hj hd hg
    refine Ev.succ ?_
    simp only [spec_SketchBump.l2]
    rw [wnat i _ hi (by omega)]
    rw [halfFrom_all _ j (by omega), rdL_get cur i hi, List.set_getElem_self] at hg
    exact Ev.yes (by omega) (Ev.yes (by omega) (Ev.no (by omega) hg))
  | succ d ih =>
    intro j cur hi hl hr hj hd hg
    have hlt : j < (rd_L2 cur i).length := by omega
    refine Ev.succ ?_
    simp only [spec_SketchBump.l2, Int.toNat_natCast]
    rw [wnat j _ hlt (by omega), rd_get _ j hlt]
    refine Ev.yes (by omega) (Ev.yes (by omega) (Ev.yes (by omega) (Ev.yes (by omega) ?_)))
    have e := rdL_set cur i ((rd_L2 cur i).set j (wrap64 (Int.tdiv (rd_L2 cur i)[j] 2))) hi
    refine ih (j + 1) _ (by simpa using hi) (by simpa using hl) ?_ ?_ ?_ ?_
    · rw [e]; simpa using hr
    · rw [e]; simp only [List.length_set]; omega
    · rw [e]; simp only [List.length_set]; omega
    · rw [e, List.set_set, show (rd_L2 cur i).set j (wrap64 (Int.tdiv (rd_L2 cur i)[j] 2)) = (rd_L2 cur i).set j (half (rd_L2 cur i)[j]) from rfl, halfFrom_set _ j hlt]
      exact hg
theorem take_cons_drop (l : List (List Int)) (i : Nat) (v : List Int) (h : i < l.length) (f : List Int → List Int) (hv : v = f l[i]) : (l.set i v).take (i + 1) ++ ((l.set i v).drop (i + 1)).map f = l.take i ++ (l.drop i).map f := by
  rw [take_set l i _ h, List.drop_set_of_lt (by omega), drop_get l i h, hv, List.map_cons, List.append_assoc, List.singleton_append]
theorem half_rows_spec (d : Nat) : ∀ (i : Nat) (cur : List (List Int)), cur.length ≤ 1048576 → (∀ r ∈ cur, r.length ≤ 1048576) → i ≤ cur.length → cur.length - i = d → Ev (fun k => spec_SketchBump.l1 k (i : Int) cur 0) (cur.take i ++ (cur.drop i).map (·.map half), 0) := by
  induction d with
  | zero =>
    intro i cur hl hr hi hd
    refine Ev.succ ?_
    simp only [spec_SketchBump.l1]
    rw [List.drop_eq_nil_of_le (by omega), List.take_of_length_le (by omega)]
    simp only [List.map_nil, List.append_nil]
    exact Ev.no (by omega) (Ev.now _)
  | succ d ih =>
    intro i cur hl hr hi hd
    have hlt : i < cur.length := by omega
    refine Ev.succ ?_
    simp only [spec_SketchBump.l1]
    refine Ev.yes (by omega) ?_
    have hri := hr _ (List.getElem_mem hlt)
    refine half_row_spec i _ _ 0 cur hlt hl (by rw [rdL_get cur i hlt]; exact hri) (by omega) rfl ?_
    rw [halfFrom_zero, rdL_get cur i hlt, ← take_cons_drop cur i (cur[i].map half) hlt (·.map half) rfl]
    refine ih (i + 1) _ (by simpa using hl) ?_ (by simp; omega) (by simp; omega)
    intro r hm
    rcases List.mem_or_eq_of_mem_set hm with hm | rfl
    · exact hr r hm
    · simpa using hri
theorem half_row_impl (n : Int) (i : Nat) (m : Nat) (rows : List (List Int)) (hi : i < rows.length) (hl : rows.length ≤ 1048576) (hm : m ≤ 1048576) (g : List (List Int) × Int) (d : Nat) : ∀ (j : Nat) (ys : List Int), ys.length = m → j ≤ m → m - j = d → Ev (fun k => impl_SketchBump.l1 k n ((i + 1 : Nat) : Int) (rows.set i (halfFrom j ys))) g → Ev (fun k => impl_SketchBump.l2 k n (i : Int) (m : Int) (j : Int) ys rows) g := by
  induction d with
  | zero =>
    intro j ys hy hj hd hg
    refine Ev.succ ?_
    simp only [impl_SketchBump.l2, Int.toNat_natCast]
    rw [wnat i _ hi (by omega)]
    rw [halfFrom_all _ j (by omega)] at hg
    exact Ev.no (by omega) hg
  | succ d ih =>
    intro j ys hy hj hd hg
    have hlt : j < ys.length := by omega
    refine Ev.succ ?_
    simp only [impl_SketchBump.l2, Int.toNat_natCast]
    rw [wnat j _ hlt (by omega), rd_get _ j hlt]
    refine Ev.yes (by omega) (Ev.yes (by omega) (Ev.yes (by omega) ?_))
    refine ih (j + 1) _ (by simpa using hy) (by omega) (by omega) ?_
    rw [show ys.set j (wrap64 (Int.tdiv ys[j] 2)) = ys.set j (half ys[j]) from rfl, halfFrom_set _ j hlt]
    exact hg
theorem half_rows_impl (n : Nat) (d : Nat) : ∀ (i : Nat) (cur : List (List Int)), cur.length = n → n ≤ 1048576 → (∀ r ∈ cur, r.length ≤ 1048576) → i ≤ n → n - i = d → Ev (fun k => impl_SketchBump.l1 k (n : Int) (i : Int) cur) (cur.take i ++ (cur.drop i).map (·.map half), 0) := by
  induction d with
  | zero =>
    intro i cur hn hl hr hi hd
    refine Ev.succ ?_
    simp only [impl_SketchBump.l1]
    rw [List.drop_eq_nil_of_le (by omega), List.take_of_length_le (by omega)]
    simp only [List.map_nil, List.append_nil]
    exact Ev.no (by omega) (Ev.now _)
  | succ d ih =>
    intro i cur hn hl hr hi hd
    have hlt : i < cur.length := by omega
    refine Ev.succ ?_
    simp only [impl_SketchBump.l1]
    have hri := hr _ (List.getElem_mem hlt)
    refine Ev.yes (by omega) (Ev.yes (by omega) (Ev.yes (by omega) ?_))
    refine half_row_impl (n : Int) i _ cur hlt (by omega) (by rw [rdL_get cur i hlt]; exact hri) _ _ 0 _ rfl (by omega) rfl ?_
    rw [halfFrom_zero, rdL_get cur i hlt, ← take_cons_drop cur i (cur[i].map half) hlt (·.map half) rfl]
    refine ih (i + 1) _ (by simpa using hn) hl ?_ (by omega) (by omega)
    intro r hm
    rcases List.mem_or_eq_of_mem_set hm with hm | rfl
    · exact hr r hm
    · simpa using hri
def bumpRow (r : List Int) (p : Int) : List Int := r.set p.toNat (mn (rd r p + 1) 15)
def bumpL (pl : Nat → Int) : List (List Int) → Nat → List (List Int)
  | [], _ => []
  | r :: t, i => bumpRow r (pl i) :: bumpL pl t (i + 1)
def fin (rows : List (List Int)) (a : Int) : List (List Int) × Int := if a + 1 = 64 then (rows.map (·.map half), 0) else (rows, a + 1)
theorem set_rd (r : List Int) (p : Int) (h0 : 0 ≤ p) (h1 : p < (r.length : Int)) : r.set p.toNat (rd r p) = r := by
  have h : p.toNat < r.length := by omega
  have e : rd r p = r[p.toNat] := by
    have := rd_get r p.toNat h
    rwa [Int.toNat_of_nonneg h0] at this
  rw [e, List.set_getElem_self]
theorem rd_in {r : List Int} {p : Int} (h0 : 0 ≤ p) (h1 : p < (r.length : Int)) : rd r p ∈ r := by
  have h : p.toNat < r.length := by omega
  have e : rd r p = r[p.toNat] := by
    have := rd_get r p.toNat h
    rwa [Int.toNat_of_nonneg h0] at this
  rw [e]; exact List.getElem_mem h
theorem bump_set (pl : Nat → Int) (cur : List (List Int)) (i : Nat) (h : i < cur.length) : (cur.set i (bumpRow cur[i] (pl i))).take (i + 1) ++ bumpL pl ((cur.set i (bumpRow cur[i] (pl i))).drop (i + 1)) (i + 1) = cur.take i ++ bumpL pl (cur.drop i) i := by
  rw [take_set cur i _ h, List.drop_set_of_lt (by omega), drop_get cur i h, bumpL]
  simp
def rIn (r : List Int) : Prop := r.length = 16 ∧ ∀ n ∈ r, 0 ≤ n ∧ n ≤ 15
theorem bumpRow_in {r : List Int} {p : Int} (h0 : 0 ≤ p) (h1 : p < 16) (h : rIn r) : rIn (bumpRow r p) := by
  refine ⟨by simpa [bumpRow] using h.1, fun n hn => ?_⟩
  rcases List.mem_or_eq_of_mem_set hn with hn | rfl
  · exact h.2 n hn
  · have := h.2 _ (rd_in h0 (by have := h.1; omega))
    unfold mn; split <;> omega
theorem bump_spec_l (key : ByteArray) (a : Int) (ha : 0 ≤ a ∧ a ≤ 63) (pl : Nat → Int) (hp : ∀ i, 0 ≤ pl i ∧ pl i < 16 ∧ Ev (fun k => spec_SketchPlace.f k (i : Int) key) (pl i)) (d : Nat) : ∀ (i : Nat) (cur : List (List Int)), cur.length ≤ 1048576 → (∀ r ∈ cur, rIn r) → i ≤ cur.length → cur.length - i = d → Ev (fun k => spec_SketchBump.l0 k key (i : Int) cur a) (fin (cur.take i ++ bumpL pl (cur.drop i) i) a) := by
  induction d with
  | zero =>
    intro i cur hl hr hi hd
    refine Ev.succ ?_
    simp only [spec_SketchBump.l0]
    rw [List.drop_eq_nil_of_le (by omega), List.take_of_length_le (by omega), w64 (n := a + 1) (by omega) (by omega)]
    simp only [bumpL, List.append_nil]
    refine Ev.no (by omega) ?_
    unfold fin
    by_cases c : a + 1 = 64
    · rw [if_pos c]
      have := half_rows_spec cur.length 0 cur hl (fun r hm => by have := (hr r hm).1; omega) (by omega) (by omega)
      simp only [List.take_zero, List.drop_zero, List.nil_append] at this
      exact Ev.yes c this
    · rw [if_neg c]; exact Ev.no c (Ev.now _)
  | succ d ih =>
    intro i cur hl hr hi hd
    have hlt : i < cur.length := by omega
    have hri := hr _ (List.getElem_mem hlt)
    obtain ⟨p0, p1, pe⟩ := hp i
    refine Ev.succ ?_
    simp only [spec_SketchBump.l0, Int.toNat_natCast]
    rw [rdL_get cur i hlt, wnat i _ hlt (by omega)]
    have hb := hri.2 _ (rd_in p0 (by have := hri.1; omega))
    rw [← bump_set pl cur i hlt]
    have hnext : Ev (fun k => spec_SketchBump.l0 k key ((i + 1 : Nat) : Int) (cur.set i (bumpRow cur[i] (pl i))) a) (fin ((cur.set i (bumpRow cur[i] (pl i))).take (i + 1) ++ bumpL pl ((cur.set i (bumpRow cur[i] (pl i))).drop (i + 1)) (i + 1)) a) := by
      refine ih (i + 1) _ (by simpa using hl) ?_ (by simp; omega) (by simp; omega)
      intro r hm
      rcases List.mem_or_eq_of_mem_set hm with hm | rfl
      · exact hr r hm
      · exact bumpRow_in p0 p1 hri
    refine Ev.yes (by omega) (Ev.bind pe (Ev.yes (by omega) (Ev.yes p0 (Ev.yes (by have := hri.1; omega) ?_))))
    by_cases c : rd cur[i] (pl i) < 15
    · refine Ev.yes c ?_
      have e : bumpRow cur[i] (pl i) = cur[i].set (pl i).toNat (wrap64 (rd cur[i] (pl i) + 1)) := by
        rw [bumpRow, w64 (by omega) (by omega), mn_if, if_neg (by omega)]
      rw [e] at hnext ⊢
      exact hnext
    · refine Ev.no c ?_
      have e : bumpRow cur[i] (pl i) = cur[i] := by
        rw [bumpRow, mn_if, if_pos (by omega)]
        have h15 : rd cur[i] (pl i) = 15 := by omega
        rw [← h15]; exact set_rd _ _ p0 (by have := hri.1; omega)
      rw [e, List.set_getElem_self] at hnext
      rw [e, List.set_getElem_self]
      exact hnext
theorem bump_impl_l (key : ByteArray) (a : Int) (ha : 0 ≤ a ∧ a ≤ 63) (n : Nat) (hn : n ≤ 1048576) (pl : Nat → Int) (hp : ∀ i, 0 ≤ pl i ∧ pl i < 16 ∧ Ev (fun k => impl_SketchPlace.f k (i : Int) key) (pl i)) (d : Nat) : ∀ (i : Nat) (cur : List (List Int)), cur.length = n → (∀ r ∈ cur, rIn r) → i ≤ n → n - i = d → Ev (fun k => impl_SketchBump.l0 k key (n : Int) (i : Int) cur a) (fin (cur.take i ++ bumpL pl (cur.drop i) i) a) := by
  induction d with
  | zero =>
    intro i cur hl hr hi hd
    refine Ev.succ ?_
    simp only [impl_SketchBump.l0]
    rw [List.drop_eq_nil_of_le (by omega), List.take_of_length_le (by omega), w64 (n := a + 1) (by omega) (by omega)]
    simp only [bumpL, List.append_nil]
    refine Ev.no (by omega) ?_
    unfold fin
    by_cases c : a + 1 = 64
    · rw [if_pos c]
      have := half_rows_impl n n 0 cur hl hn (fun r hm => by have := (hr r hm).1; omega) (by omega) (by omega)
      simp only [List.take_zero, List.drop_zero, List.nil_append] at this
      exact Ev.no (by omega) this
    · rw [if_neg c]; exact Ev.yes (by omega) (Ev.now _)
  | succ d ih =>
    intro i cur hl hr hi hd
    have hlt : i < cur.length := by omega
    have hri := hr _ (List.getElem_mem hlt)
    obtain ⟨p0, p1, pe⟩ := hp i
    refine Ev.succ ?_
    simp only [impl_SketchBump.l0, Int.toNat_natCast]
    rw [rdL_get cur i hlt, wnat i _ hlt (by omega)]
    have hb := hri.2 _ (rd_in p0 (by have := hri.1; omega))
    rw [← bump_set pl cur i hlt]
    refine Ev.yes (by omega) (Ev.yes (by omega) (Ev.yes (by omega) (Ev.bind pe (Ev.yes p0 (Ev.yes (by have := hri.1; omega) ?_)))))
    rw [w64 (n := rd cur[i] (pl i) + 1) (by omega) (by omega)]
    refine ih (i + 1) _ (by simpa using hl) ?_ (by omega) (by omega)
    intro r hm
    rcases List.mem_or_eq_of_mem_set hm with hm | rfl
    · exact hr r hm
    · exact bumpRow_in p0 p1 hri
theorem copy_spec_l (l : List (List Int)) (a b : Int) (hl : l.length ≤ 1048576) (hg : ∀ r ∈ l, r.length ≤ 1048576) (d : Nat) : ∀ i : Nat, i ≤ l.length → l.length - i = d → Ev (fun k => spec_l12Copy.l0 k (i : Int) l b (l.take i) a) (l, a) := by
  induction d with
  | zero =>
    intro i hi hd
    refine Ev.succ ?_
    simp only [spec_l12Copy.l0]
    rw [List.take_of_length_le (by omega)]
    exact Ev.no (by omega) (Ev.now _)
  | succ d ih =>
    intro i hi hd
    have hlt : i < l.length := by omega
    have hr := hg _ (List.getElem_mem hlt)
    refine Ev.succ ?_
    simp only [spec_l12Copy.l0, Option.bind_some]
    rw [rdL_get l i hlt, wnat i _ hlt (by omega)]
    have h := ih (i + 1) (by omega) (by omega)
    rw [List.take_succ_eq_append_getElem hlt] at h
    exact Ev.yes (by omega) (Ev.yes (by omega) (Ev.yes (by simp only [List.length_nil]; omega) (Ev.yes (by rw [List.length_take]; omega) h)))
theorem copy_spec (l : List (List Int)) (a : Int) (hl : l.length ≤ 1048576) (hg : ∀ r ∈ l, r.length ≤ 1048576) : Ev (fun k => spec_l12Copy.f k l a) (l, a) := by
  simp only [spec_l12Copy.f]
  have h := copy_spec_l l a a hl hg l.length 0 (by omega) (by omega)
  rw [List.take_zero] at h
  exact h
theorem copy_impl_l (l : List (List Int)) (a : Int) (hl : l.length ≤ 1048576) (hg : ∀ r ∈ l, r.length ≤ 1048576) (d : Nat) : ∀ i : Nat, i ≤ l.length → l.length - i = d → Ev (fun k => impl_copySketch.l0 k l (l.length : Int) (i : Int) (l.take i) a) (l, a) := by
  induction d with
  | zero =>
    intro i hi hd
    refine Ev.succ ?_
    simp only [impl_copySketch.l0]
    rw [List.take_of_length_le (by omega)]
    exact Ev.no (by omega) (Ev.now _)
  | succ d ih =>
    intro i hi hd
    have hlt : i < l.length := by omega
    have hr := hg _ (List.getElem_mem hlt)
    refine Ev.succ ?_
    simp only [impl_copySketch.l0, impl_copyInts.f, Option.bind_some]
    rw [rdL_get l i hlt, wnat i _ hlt (by omega), if_pos (by simp only [List.length_nil]; omega)]
    simp only [Option.bind_some]
    have h := ih (i + 1) (by omega) (by omega)
    rw [List.take_succ_eq_append_getElem hlt] at h
    exact Ev.yes (by omega) (Ev.yes (by omega) (Ev.yes (by omega) (Ev.yes (by rw [List.length_take]; omega) h)))
theorem copy_impl (l : List (List Int)) (a : Int) (hl : l.length ≤ 1048576) (hg : ∀ r ∈ l, r.length ≤ 1048576) : Ev (fun k => impl_copySketch.f k l a) (l, a) := by
  simp only [impl_copySketch.f]
  have h := copy_impl_l l a hl hg l.length 0 (by omega) (by omega)
  rw [List.take_zero] at h
  exact h
/-- The place of a key in row i, by both. -/
noncomputable def plOf (key : ByteArray) (hk : key.size ≤ 140737488351232) (i : Nat) : Int := Classical.choose (place_of (i : Int) key hk)
theorem plOf_is (key : ByteArray) (hk : key.size ≤ 140737488351232) (i : Nat) : 0 ≤ plOf key hk i ∧ plOf key hk i < 16 ∧ Ev (fun k => spec_SketchPlace.f k (i : Int) key) (plOf key hk i) ∧ Ev (fun k => impl_SketchPlace.f k (i : Int) key) (plOf key hk i) := Classical.choose_spec (place_of (i : Int) key hk)
noncomputable def bumped (l : List (List Int)) (a : Int) (key : ByteArray) (hk : key.size ≤ 140737488351232) : List (List Int) × Int := if skOk l a = true then fin (bumpL (plOf key hk) l 0) a else (l, a)
theorem skOk_rin {l : List (List Int)} {a : Int} (h : skOk l a = true) : ∀ r ∈ l, rIn r := fun r hr => ⟨((skOk_rows h).2.2 r hr).1, ((skOk_rows h).2.2 r hr).2⟩
theorem bump_spec (l : List (List Int)) (a : Int) (key : ByteArray) (hk : key.size ≤ 140737488351232) (hl : l.length ≤ 1048576) (hg : ∀ r ∈ l, r.length ≤ 1048576) : Ev (fun k => spec_SketchBump.f k l a key) (bumped l a key hk) := by
  simp only [spec_SketchBump.f]
  refine Ev.bind (copy_spec l a hl hg) (Ev.bind (sk_spec l a hl) ?_)
  unfold bumped
  by_cases c : skOk l a = true
  · rw [if_pos c]
    have h := bump_spec_l key a (skOk_rows c).2.1 (plOf key hk) (fun i => ⟨(plOf_is key hk i).1, (plOf_is key hk i).2.1, (plOf_is key hk i).2.2.1⟩) l.length 0 l hl (skOk_rin c) (by omega) (by omega)
    simp only [List.take_zero, List.drop_zero, List.nil_append] at h
    exact Ev.yes c h
  · rw [if_neg c]; exact Ev.no c (Ev.now _)
theorem bump_impl (l : List (List Int)) (a : Int) (key : ByteArray) (hk : key.size ≤ 140737488351232) (hl : l.length ≤ 1048576) (hg : ∀ r ∈ l, r.length ≤ 1048576) : Ev (fun k => impl_SketchBump.f k l a key) (bumped l a key hk) := by
  simp only [impl_SketchBump.f]
  refine Ev.bind (copy_impl l a hl hg) (Ev.bind (sk_impl l a hl hg) ?_)
  unfold bumped
  by_cases c : skOk l a = true
  · rw [if_pos c]
    have h := bump_impl_l key a (skOk_rows c).2.1 l.length hl (plOf key hk) (fun i => ⟨(plOf_is key hk i).1, (plOf_is key hk i).2.1, (plOf_is key hk i).2.2.2⟩) l.length 0 l rfl (skOk_rin c) (by omega) (by omega)
    simp only [List.take_zero, List.drop_zero, List.nil_append] at h
    exact Ev.yes c h
  · rw [if_neg c]; exact Ev.no c (Ev.now _)
theorem bumpL_len (pl : Nat → Int) (l : List (List Int)) : ∀ i, (bumpL pl l i).length = l.length := by
  induction l with
  | nil => intro i; rfl
  | cons r t ih => intro i; simp [bumpL, ih]
theorem bumpL_in (pl : Nat → Int) (hp : ∀ i, 0 ≤ pl i ∧ pl i < 16) (l : List (List Int)) : ∀ i, (∀ r ∈ l, rIn r) → ∀ r ∈ bumpL pl l i, rIn r := by
  induction l with
  | nil => intro i _ r hr; simp [bumpL] at hr
  | cons q t ih =>
    intro i h r hr
    rcases List.mem_cons.mp hr with rfl | hr
    · exact bumpRow_in (hp i).1 (hp i).2 (h q (List.mem_cons_self ..))
    · exact ih (i + 1) (fun z hz => h z (List.mem_cons_of_mem _ hz)) r hr
end Go.Proofs.Ytoopdknphikgkaa.Q
namespace Go.Proofs.Ytoopdknphikgkaa.Q
open Go.RowKit Go.Proofs.YtoopdknphikgkaaW.PrintWords Go.Proofs.YtoopdknphikgkaaW.PrintLast Go.Proofs.YtoopdknphikgkaaW.PrintMore
theorem and255v (a : Int) : Go.bits .and .i64 a 255 = a % 256 := by
  unfold Go.bits
  simp only [IntKind.wrap_i64]
  have e1 : (BitVec.ofInt IntKind.i64.bits a).toNat = (a % 18446744073709551616).toNat := by rw [BitVec.toNat_ofInt]; rfl
  have e2 : (BitVec.ofInt IntKind.i64.bits 255).toNat = 2 ^ 8 - 1 := by decide
  rw [BitVec.toNat_and, e1, e2, Nat.and_two_pow_sub_one_eq_mod]
  omega
/-- A place in the code that is drawn from. -/
def cu (l : List Int) (i : Int) : Prop := (0 ≤ i ∧ i ≤ l.length) ∧ l.length ≤ 4611686018427387904
theorem byte_ok (l : List Int) (i h : Int) (hc : cu l i) : ∃ x i' h', spec_l01Byte.f l i h = some (x, i', h') ∧ 0 ≤ x ∧ x ≤ 255 ∧ cu l i' := by
  obtain ⟨⟨h0, h1⟩, hl⟩ := hc
  unfold spec_l01Byte.f
  by_cases c : i < (l.length : Int)
  · rw [if_pos c, if_pos h0, w64 (n := i + 1) (by omega) (by omega), and255v]
    exact ⟨_, _, _, rfl, by omega, by omega, ⟨by omega, by omega⟩, hl⟩
  · rw [if_neg c, and255v]
    exact ⟨_, _, _, rfl, by omega, by omega, ⟨by omega, by omega⟩, hl⟩
theorem below_ok (l : List Int) (i h n : Int) (hn : 1 ≤ n) (hc : cu l i) : ∃ x i' h', spec_l01Below.f l i h n = some (x, i', h') ∧ 0 ≤ x ∧ x < n ∧ cu l i' := by
  unfold spec_l01Below.f
  obtain ⟨x1, i1, g1, e1, a1, b1, c1⟩ := byte_ok l i h hc
  rw [if_neg (by omega), e1]
  simp only [Option.bind_some]
  by_cases c : n ≤ 256
  · rw [if_pos c, if_neg (by omega), Int.tmod_eq_emod_of_nonneg a1]
    exact ⟨_, _, _, rfl, Int.emod_nonneg _ (by omega), Int.emod_lt_of_pos _ (by omega), c1⟩
  · obtain ⟨x2, i2, g2, e2, a2, b2, c2⟩ := byte_ok l i1 g1 c1
    obtain ⟨x3, i3, g3, e3, a3, b3, c3⟩ := byte_ok l i2 g2 c2
    obtain ⟨x4, i4, g4, e4, a4, b4, c4⟩ := byte_ok l i3 g3 c3
    rw [if_neg c, e2]
    simp only [Option.bind_some]
    rw [e3]
    simp only [Option.bind_some]
    rw [e4]
    simp only [Option.bind_some]
    rw [w64 (n := x1 * 16777216) (by omega) (by omega), w64 (n := x2 * 65536) (by omega) (by omega), w64 (n := x3 * 256) (by omega) (by omega), w64 (n := x1 * 16777216 + x2 * 65536) (by omega) (by omega), w64 (n := x1 * 16777216 + x2 * 65536 + x3 * 256) (by omega) (by omega),
      w64 (n := x1 * 16777216 + x2 * 65536 + x3 * 256 + x4) (by omega) (by omega), if_neg (by omega), Int.tmod_eq_emod_of_nonneg (by omega)]
    exact ⟨_, _, _, rfl, Int.emod_nonneg _ (by omega), Int.emod_lt_of_pos _ (by omega), c4⟩
theorem byteP (l : List Int) (i h : Int) (hc : cu l i) : EvP (fun _ => spec_l01Byte.f l i h) (fun r => (0 ≤ r.1 ∧ r.1 ≤ 255) ∧ cu l r.2.1) := by
  obtain ⟨x, i', h', e, a, b, c⟩ := byte_ok l i h hc
  exact EvP.const e ⟨⟨a, b⟩, c⟩
theorem belowP (l : List Int) (i h n : Int) (hn : 1 ≤ n) (hc : cu l i) : EvP (fun _ => spec_l01Below.f l i h n) (fun r => (0 ≤ r.1 ∧ r.1 < n) ∧ cu l r.2.1) := by
  obtain ⟨x, i', h', e, a, b, c⟩ := below_ok l i h n hn hc
  exact EvP.const e ⟨⟨a, b⟩, c⟩
theorem cu_zero {l : List Int} (hl : l.length ≤ 4611686018427387904) : cu l 0 := ⟨⟨by omega, by omega⟩, hl⟩
theorem newP_l (l : List Int) (hl : l.length ≤ 4611686018427387904) (d : Nat) : ∀ (h : Int) (i : Nat), i ≤ l.length → l.length - i = d → EvP (fun k => spec_l01New.l0 k l h (i : Int)) (fun r => r.1 = l ∧ cu l r.2.1) := by
  induction d with
  | zero => intro h i hi hd; refine EvP.succ ?_; simp only [spec_l01New.l0]; exact EvP.no (by omega) (EvP.ret ⟨rfl, cu_zero hl⟩)
  | succ d ih =>
    intro h i hi hd
    have hlt : i < l.length := by omega
    refine EvP.succ ?_
    simp only [spec_l01New.l0]
    refine EvP.yes (by omega) (EvP.ite (fun c => EvP.yes (by omega) ?_) (fun c => EvP.ret ⟨rfl, cu_zero hl⟩))
    rw [wnat i _ hlt (by omega)]
    exact ih _ (i + 1) (by omega) (by omega)
theorem newP (l : List Int) (hl : l.length ≤ 4611686018427387904) : EvP (fun k => spec_l01New.f k l) (fun r => r.1 = l ∧ cu l r.2.1) := newP_l l hl l.length _ 0 (by omega) (by omega)
end Go.Proofs.Ytoopdknphikgkaa.Q
namespace Go.Proofs.Ytoopdknphikgkaa.Q
open Go.RowKit Go.Proofs.YtoopdknphikgkaaW.PrintWords Go.Proofs.YtoopdknphikgkaaW.PrintLast Go.Proofs.YtoopdknphikgkaaW.PrintMore
theorem Ev.of_mono {α : Type} {g : Nat → Option α} {r : α} (hm : ∀ k, LeO (g k) (g (k + 1))) (K : Nat) (h : g K = some r) : Ev g r := by
  refine ⟨K, fun k hk => ?_⟩
  induction k with
  | zero => obtain rfl : K = 0 := by omega
            exact h
  | succ k ih =>
    by_cases c : K = k + 1
    · rw [← c]; exact h
    · exact hm k _ (ih (by omega))
theorem guess_impl (l : List (List Int)) (a : Int) (key : ByteArray) (hk : key.size ≤ 140737488351232) (hl : l.length ≤ 1048576) (c : skOk l a = true) : Ev (fun k => impl_SketchGuess.f k l a key) (gsL (plOf key hk) l 0 15) := by
  simp only [impl_SketchGuess.f]
  have hr := fun r hr => ((skOk_rows c).2.2 r hr).1
  have i := sk_impl l a hl (fun r h => by have := hr r h; omega)
  rw [c] at i
  have h := guess_impl_l l key (plOf key hk) (fun i => ⟨(plOf_is key hk i).1, (plOf_is key hk i).2.1, (plOf_is key hk i).2.2.2⟩) hl hr l.length 0 15 (by omega) (by omega)
  unfold gs at h
  rw [List.drop_zero] at h
  exact Ev.bind i (Ev.yes rfl h)
theorem skOk_of {l : List (List Int)} {a : Int} (hl : l.length = 3) (ha : 0 ≤ a ∧ a ≤ 63) (hr : ∀ r ∈ l, rIn r) : skOk l a = true := by
  simp only [skOk, Bool.and_eq_true, decide_eq_true_eq, List.all_eq_true, rOk, nOk]
  exact ⟨hl, ha, fun r h => ⟨(hr r h).1, fun n hn => (hr r h).2 n hn⟩⟩
theorem new_rin : ∀ r ∈ List.replicate 3 (List.replicate 16 (0 : Int)), rIn r := fun r hr => by
  obtain rfl := (List.mem_replicate.mp hr).2
  exact ⟨by simp, fun n hn => by obtain rfl := (List.mem_replicate.mp hn).2; omega⟩
noncomputable def plT (key : ByteArray) (i : Nat) : Int := if h : key.size ≤ 140737488351232 then plOf key h i else 0
theorem plT_eq (key : ByteArray) (h : key.size ≤ 140737488351232) : plT key = plOf key h := by funext i; unfold plT; rw [dif_pos h]
theorem plT_in (key : ByteArray) (i : Nat) : 0 ≤ plT key i ∧ plT key i < 16 := by
  unfold plT
  by_cases h : key.size ≤ 140737488351232
  · rw [dif_pos h]; exact ⟨(plOf_is key h i).1, (plOf_is key h i).2.1⟩
  · rw [dif_neg h]; omega
noncomputable def bumpT (l : List (List Int)) (n : Int) (key : ByteArray) : List (List Int) × Int := if skOk l n = true then fin (bumpL (plT key) l 0) n else (l, n)
theorem bumpT_eq (l : List (List Int)) (n : Int) (key : ByteArray) (hk : key.size ≤ 140737488351232) : bumped l n key hk = bumpT l n key := by unfold bumpT bumped; rw [plT_eq key hk]
noncomputable def gT (l : List (List Int)) (key : ByteArray) : Int := gsL (plT key) l 0 15
theorem half_in {v : Int} (h : 0 ≤ v ∧ v ≤ 15) : 0 ≤ half v ∧ half v ≤ 7 := by
  unfold half
  rw [Int.tdiv_eq_ediv_of_nonneg h.1, w64 (by omega) (by omega)]
  omega
theorem halved_in {l : List (List Int)} (h : ∀ r ∈ l, rIn r) : ∀ r ∈ l.map (·.map half), r.length = 16 ∧ ∀ n ∈ r, 0 ≤ n ∧ n ≤ 7 := by
  intro r hr
  obtain ⟨q, hq, rfl⟩ := List.mem_map.mp hr
  refine ⟨by rw [List.length_map]; exact (h q hq).1, fun n hn => ?_⟩
  obtain ⟨m, hm, rfl⟩ := List.mem_map.mp hn
  exact half_in ((h q hq).2 m hm)
theorem bumpT_in (l : List (List Int)) (n : Int) (key : ByteArray) (c : skOk l n = true) : (bumpT l n key).1.length = 3 ∧ (0 ≤ (bumpT l n key).2 ∧ (bumpT l n key).2 ≤ 63) ∧ (∀ r ∈ (bumpT l n key).1, rIn r) ∧ ((bumpT l n key).2 = 0 → ∀ r ∈ (bumpT l n key).1, r.length = 16 ∧ ∀ n ∈ r, 0 ≤ n ∧ n ≤ 7) := by
  have hs := skOk_rows c
  have hb := bumpL_in (plT key) (plT_in key) l 0 (skOk_rin c)
  unfold bumpT
  rw [if_pos c]
  unfold fin
  by_cases q : n + 1 = 64
  · rw [if_pos q]
    have hh := halved_in hb
    exact ⟨by rw [List.length_map, bumpL_len]; exact hs.1, by omega, fun r hr => ⟨(hh r hr).1, fun n hn => by have := (hh r hr).2 n hn; omega⟩, fun _ => hh⟩
  · rw [if_neg q]
    exact ⟨by rw [bumpL_len]; exact hs.1, by show 0 ≤ n + 1 ∧ n + 1 ≤ 63; omega, hb, fun h => absurd h (by show ¬ n + 1 = 0; omega)⟩
theorem bumpT_ok (l : List (List Int)) (n : Int) (key : ByteArray) (c : skOk l n = true) : skOk (bumpT l n key).1 (bumpT l n key).2 = true := skOk_of (bumpT_in l n key c).1 (bumpT_in l n key c).2.1 (bumpT_in l n key c).2.2.1
/-- The bounds of a sketch that may be no right one. -/
def Sz (l : List (List Int)) : Prop := l.length ≤ 1048576 ∧ ∀ r ∈ l, r.length ≤ 1048576
theorem Sz.of_ok {l : List (List Int)} {n : Int} (c : skOk l n = true) : Sz l := ⟨by have := (skOk_rows c).1; omega, fun r hr => by have := ((skOk_rows c).2.2 r hr).1; omega⟩
theorem bumpT_sz (l : List (List Int)) (n : Int) (key : ByteArray) (h : Sz l) : Sz (bumpT l n key).1 := by
  by_cases c : skOk l n = true
  · exact Sz.of_ok (bumpT_ok l n key c)
  · unfold bumpT; rw [if_neg c]; exact h
theorem bumpT_impl (l : List (List Int)) (n : Int) (key : ByteArray) (hk : key.size ≤ 140737488351232) (h : Sz l) : Ev (fun k => impl_SketchBump.f k l n key) (bumpT l n key) := bumpT_eq l n key hk ▸ bump_impl l n key hk h.1 h.2
theorem bumpT_spec (l : List (List Int)) (n : Int) (key : ByteArray) (hk : key.size ≤ 140737488351232) (h : Sz l) : Ev (fun k => spec_SketchBump.f k l n key) (bumpT l n key) := bumpT_eq l n key hk ▸ bump_spec l n key hk h.1 h.2
theorem gT_impl (l : List (List Int)) (a : Int) (key : ByteArray) (hk : key.size ≤ 140737488351232) (c : skOk l a = true) : Ev (fun k => impl_SketchGuess.f k l a key) (gT l key) := by
  have h := guess_impl l a key hk (by have := (skOk_rows c).1; omega) c
  rwa [← plT_eq key hk] at h
theorem gs_le (pl : Nat → Int) (l : List (List Int)) : ∀ (i : Nat) (m : Int), gsL pl l i m ≤ m ∧ ∀ (j : Nat) (h : j < l.length), gsL pl l i m ≤ rd l[j] (pl (i + j)) := by
  induction l with
  | nil => intro i m; exact ⟨Int.le_refl _, fun j h => absurd h (by simp)⟩
  | cons r t ih =>
    intro i m
    have hh := ih (i + 1) (mn m (rd r (pl i)))
    have hm : mn m (rd r (pl i)) ≤ m ∧ mn m (rd r (pl i)) ≤ rd r (pl i) := by rw [mn_if]; split <;> omega
    refine ⟨Int.le_trans hh.1 hm.1, fun j h => ?_⟩
    cases j with
    | zero => exact Int.le_trans hh.1 hm.2
    | succ j =>
      have := hh.2 j (by simpa using h)
      rw [List.getElem_cons_succ, show i + (j + 1) = i + 1 + j by omega]
      exact this
theorem gT_half (l : List (List Int)) (n : Int) (key q : ByteArray) (c : skOk l n = true) (h0 : (bumpT l n key).2 = 0) : gT (bumpT l n key).1 q ≤ 7 := by
  have h := bumpT_in l n key c
  have h7 := h.2.2.2 h0
  have hl : 0 < (bumpT l n key).1.length := by omega
  have hg := (gs_le (plT q) (bumpT l n key).1 0 15).2 0 hl
  have hr := h7 _ (List.getElem_mem hl)
  have hp := plT_in q (0 + 0)
  have := hr.2 _ (rd_in (r := (bumpT l n key).1[0]) (p := plT q (0 + 0)) hp.1 (by omega))
  unfold gT
  omega
theorem keyP2 (l : List Int) (i h : Int) (hc : cu l i) : EvP (fun _ => spec_l12Key.f l i h) (fun r => r.1.size = 2 ∧ cu l r.2.1) := by
  simp only [spec_l12Key.f, spec_l01Pick.f]
  obtain ⟨x, i', h', e, a, b, c⟩ := below_ok l i h 8 (by omega) hc
  have hx : ∀ m : Fin 8, (rdOf ByteArray.empty ([(⟨#[47, 97]⟩ : ByteArray), (⟨#[47, 98]⟩ : ByteArray), (⟨#[47, 99]⟩ : ByteArray), (⟨#[47, 100]⟩ : ByteArray), (⟨#[47, 101]⟩ : ByteArray), (⟨#[47, 102]⟩ : ByteArray), (⟨#[47, 103]⟩ : ByteArray), (⟨#[47, 104]⟩ : ByteArray)] : List ByteArray) ((m.val : Nat) : Int)).size = 2 := by decide
  have hm := hx ⟨x.toNat, by omega⟩
  rw [show (((⟨x.toNat, by omega⟩ : Fin 8).val : Nat) : Int) = x from Int.toNat_of_nonneg a] at hm
  refine ⟨_, Ev.const (by
    rw [show ((([(⟨#[47, 97]⟩ : ByteArray), (⟨#[47, 98]⟩ : ByteArray), (⟨#[47, 99]⟩ : ByteArray), (⟨#[47, 100]⟩ : ByteArray), (⟨#[47, 101]⟩ : ByteArray), (⟨#[47, 102]⟩ : ByteArray), (⟨#[47, 103]⟩ : ByteArray), (⟨#[47, 104]⟩ : ByteArray)] : List ByteArray).length : Nat) : Int) = 8 from rfl, e]
    simp only [Option.bind_some]
    rw [if_pos a, if_pos b]
    simp only [Option.bind_some]; rfl), hm, c⟩
theorem new_spec : Ev (fun k => spec_SketchNew.f k) (List.replicate 3 (List.replicate 16 0), 0) := Ev.of_mono spec_SketchNew.mono 60 (by decide +kernel)
theorem new_ok : skOk (List.replicate 3 (List.replicate 16 (0 : Int))) 0 = true := skOk_of (by simp) (by omega) new_rin
end Go.Proofs.Ytoopdknphikgkaa.Q
namespace Go.Proofs.Ytoopdknphikgkaa.Q
open Go.RowKit Go.Proofs.YtoopdknphikgkaaW.PrintWords Go.Proofs.YtoopdknphikgkaaW.PrintLast Go.Proofs.YtoopdknphikgkaaW.PrintMore
theorem skP_l (l : List Int) (d : Nat) : ∀ (j : Nat) (ci ch : Int) (rows : List (List Int)) (n : Int), j ≤ 90 → 91 - j = d → skOk rows n = true → cu l ci → EvP (fun k => spec_l12Sketch.l0 k (j : Int) l ci ch rows n) (fun r => skOk r.1 r.2.1 = true ∧ cu l r.2.2.1) := by
  induction d with
  | zero => intro j ci ch rows n h1 h2; omega
  | succ d ih =>
    intro j ci ch rows n h1 h2 hok hc
    refine EvP.succ ?_
    simp only [spec_l12Sketch.l0]
    refine EvP.bind (belowP l ci ch 90 (by omega) hc) fun r hr => EvP.ite (fun c => ?_) (fun c => EvP.ret ⟨hok, hr.2⟩)
    refine EvP.bind (keyP2 l _ _ hr.2) fun q hq => EvP.bind (EvP.ev (P := fun x => x = bumpT rows n q.1) (bumpT_spec rows n q.1 (by omega) (Sz.of_ok hok)) rfl) fun x hx => ?_
    subst hx
    rw [wnat j 91 (by omega) (by omega)]
    exact ih (j + 1) _ _ _ _ (by omega) (by omega) (bumpT_ok rows n q.1 hok) hq.2
theorem skP (l : List Int) (i h : Int) (hc : cu l i) : EvP (fun k => spec_l12Sketch.f k l i h) (fun r => skOk r.1 r.2.1 = true ∧ cu l r.2.2.1) := by
  simp only [spec_l12Sketch.f]
  exact EvP.bind (EvP.ev (P := fun x => x = (List.replicate 3 (List.replicate 16 0), 0)) new_spec rfl) fun x hx => by subst hx; exact skP_l l 91 0 i h _ _ (by omega) (by omega) new_ok hc
/-- Small: three rows of sixteen at most. -/
def Sm3 (l : List (List Int)) : Prop := l.length ≤ 3 ∧ ∀ r ∈ l, r.length ≤ 16
theorem Sm3.sz {l : List (List Int)} (h : Sm3 l) : Sz l := ⟨by have := h.1; omega, fun r hr => by have := h.2 r hr; omega⟩
theorem Sm3.set {l : List (List Int)} (h : Sm3 l) (i : Nat) (v : List Int) (hv : v.length ≤ 16) : Sm3 (l.set i v) := ⟨by rw [List.length_set]; exact h.1, fun r hr => by
  rcases List.mem_or_eq_of_mem_set hr with hr | rfl
  · exact h.2 r hr
  · exact hv⟩
theorem anyP (l : List Int) (i h : Int) (hc : cu l i) : EvP (fun k => spec_l12Any.f k l i h) (fun r => Sm3 r.1 ∧ cu l r.2.2.1) := by
  simp only [spec_l12Any.f]
  refine EvP.bind (belowP l i h 12 (by omega) hc) fun a ha => EvP.bind (belowP l _ _ 60 (by omega) ha.2) fun x hx => EvP.bind (skP l _ _ hx.2) fun s hs => ?_
  have hz := Sz.of_ok hs.1
  have h3 := skOk_rows hs.1
  have hm : Sm3 s.1 := ⟨by omega, fun r hr => by have := (h3.2.2 r hr).1; omega⟩
  refine EvP.bind (EvP.ev (P := fun y => y = (s.1, s.2.1)) (copy_spec s.1 s.2.1 hz.1 hz.2) rfl) fun y hy => ?_
  subst hy
  have hx0 := hx.1.1
  have e3 : Int.tmod x.1 3 = x.1 % 3 := Int.tmod_eq_emod_of_nonneg hx0
  have e16 : Int.tmod x.1 16 = x.1 % 16 := Int.tmod_eq_emod_of_nonneg hx0
  obtain ⟨m, hm3, hml⟩ : ∃ m : Nat, x.1 % 3 = (m : Int) ∧ m < 3 := ⟨(x.1 % 3).toNat, by omega, by omega⟩
  have hlen : ∀ j : Nat, (hj : j < s.1.length) → (rd_L2 s.1 (j : Int)).length = 16 := fun j hj => by rw [rdL_get s.1 j hj]; exact (h3.2.2 _ (List.getElem_mem hj)).1
  have hlm := hlen m (by omega)
  have hl0 := hlen 0 (by omega)
  simp only [Option.bind_some]
  rw [e3, e16, hm3]
  refine EvP.ite (fun c => ?_) (fun c => EvP.ite (fun c1 => ?_) (fun c1 => EvP.ite (fun c2 => ?_) (fun c2 => EvP.ite (fun c3 => ?_) (fun c3 => EvP.ret ⟨hm, hs.2⟩))))
  · refine EvP.yes (by omega) (EvP.yes (by omega) (EvP.yes (by simp; omega) (EvP.yes (by omega) (EvP.yes (by omega) (EvP.ret ⟨hm.set _ _ ?_, hs.2⟩)))))
    rw [List.length_set, hlm]
    exact Nat.le_refl _
  · exact EvP.yes (by omega) (EvP.yes (by simp; omega) (EvP.ret ⟨hm, hs.2⟩))
  · exact EvP.yes (by omega) (EvP.ret ⟨⟨by rw [List.length_drop]; omega, fun r hr => hm.2 r (List.mem_of_mem_drop hr)⟩, hs.2⟩)
  · refine EvP.yes (by omega) (EvP.yes (by rw [show ((0 : Int)) = ((0 : Nat) : Int) from rfl, hl0]; decide) (EvP.ret ⟨hm.set _ _ ?_, hs.2⟩))
    rw [List.length_drop, show ((0 : Int)) = ((0 : Nat) : Int) from rfl, hl0]
    omega
end Go.Proofs.Ytoopdknphikgkaa.Q
namespace Go.Proofs.Ytoopdknphikgkaa.Q
open Go.RowKit Go.Proofs.YtoopdknphikgkaaW.PrintWords Go.Proofs.YtoopdknphikgkaaW.PrintLast Go.Proofs.YtoopdknphikgkaaW.PrintMore
theorem same_ints_l (r : List Int) (hl : r.length ≤ 1048576) (d : Nat) : ∀ i : Nat, i ≤ r.length → r.length - i = d → Ev (fun k => laws_sameInts.l0 k r r (i : Int)) true := by
  induction d with
  | zero => intro i hi hd; refine Ev.succ ?_; simp only [laws_sameInts.l0]; exact Ev.no (by omega) (Ev.now _)
  | succ d ih =>
    intro i hi hd
    refine Ev.succ ?_
    simp only [laws_sameInts.l0]
    rw [wnat i r.length (by omega) (by omega)]
    exact Ev.yes (by omega) (Ev.yes (by omega) (Ev.yes (by omega) (Ev.yes trivial (ih (i + 1) (by omega) (by omega)))))
theorem same_ints (r : List Int) (hl : r.length ≤ 1048576) : Ev (fun k => laws_sameInts.f k r r) true := by
  simp only [laws_sameInts.f]
  exact Ev.yes trivial (same_ints_l r hl r.length 0 (by omega) (by omega))
theorem same_sk_l (l : List (List Int)) (a : Int) (h : Sz l) (d : Nat) : ∀ i : Nat, i ≤ l.length → l.length - i = d → Ev (fun k => laws_sameSketch.l0 k (i : Int) l a l a) true := by
  have hl := h.1
  induction d with
  | zero => intro i hi hd; refine Ev.succ ?_; simp only [laws_sameSketch.l0]; exact Ev.no (by omega) (Ev.now _)
  | succ d ih =>
    intro i hi hd
    have hlt : i < l.length := by omega
    refine Ev.succ ?_
    simp only [laws_sameSketch.l0]
    rw [rdL_get l i hlt, wnat i l.length (by omega) (by omega)]
    exact Ev.yes (by omega) (Ev.yes (by omega) (Ev.yes (by omega) (Ev.bind (same_ints _ (h.2 _ (List.getElem_mem hlt))) (Ev.yes rfl (ih (i + 1) (by omega) (by omega))))))
theorem same_sk (l : List (List Int)) (a : Int) (h : Sz l) : Ev (fun k => laws_sameSketch.f k l a l a) true := by
  simp only [laws_sameSketch.f]
  refine Ev.yes trivial (Ev.succ ?_)
  simp only [laws_sameSketch.j0]
  exact Ev.no (by simp) (same_sk_l l a h l.length 0 (by omega) (by omega))
end Go.Proofs.Ytoopdknphikgkaa.Q
namespace Go.Proofs.Ytoopdknphikgkaa.Q
open Go.RowKit Go.Proofs.YtoopdknphikgkaaW.PrintWords Go.Proofs.YtoopdknphikgkaaW.PrintLast Go.Proofs.YtoopdknphikgkaaW.PrintMore
theorem son_size (x : List Int) : (strOfNums x).size = x.length := by
  show ((List.map (fun n : Int => UInt8.ofNat n.toNat) x).toArray).size = x.length
  simp
theorem textP_l (l : List Int) (n : Int) (hn : n ≤ 5000) (d : Nat) : ∀ (x : List Int) (ci ch : Int), n - (x.length : Int) ≤ (d : Int) → x.length ≤ 5000 → cu l ci → EvP (fun k => spec_l01Text.l0 k n x (x.length : Int) l ci ch) (fun r => ((r.1.size : Int) = n ∨ (n ≤ (x.length : Int) ∧ r.1.size = x.length)) ∧ cu l r.2.1) := by
  induction d with
  | zero =>
    intro x ci ch hd hx hc
    refine EvP.succ ?_
    simp only [spec_l01Text.l0]
    refine EvP.no (by omega) (EvP.ret ⟨.inr ⟨by omega, son_size x⟩, hc⟩)
  | succ d ih =>
    intro x ci ch hd hx hc
    refine EvP.succ ?_
    simp only [spec_l01Text.l0]
    refine EvP.ite (fun c => ?_) (fun c => EvP.ret ⟨.inr ⟨by omega, son_size x⟩, hc⟩)
    refine EvP.bind (byteP l _ _ hc) fun y hy => EvP.yes (by omega) ?_
    rw [wnat x.length 5001 (by omega) (by omega), show ((x.length + 1 : Nat) : Int) = ((x ++ [y.1 % 256]).length : Int) by simp]
    refine (ih (x ++ [y.1 % 256]) _ _ (by simp; omega) (by simp; omega) hy.2).imp fun r hr => ⟨?_, hr.2⟩
    rcases hr.1 with h | ⟨h1, h2⟩
    · exact .inl h
    · simp at h1 h2
      exact .inl (by omega)
theorem textP (l : List Int) (i h n : Int) (hc : cu l i) : EvP (fun k => spec_l01Text.f k l i h n) (fun r => (r.1.size : Int) ≤ 5000 ∧ (0 ≤ n → n ≤ 5000 → (r.1.size : Int) = n) ∧ cu l r.2.1) := by
  simp only [spec_l01Text.f]
  have go : ∀ m : Int, m ≤ 5000 → EvP (fun k => spec_l01Text.j0 k m l i h) (fun r => (r.1.size : Int) ≤ 5000 ∧ (0 ≤ m → (r.1.size : Int) = m) ∧ cu l r.2.1) := by
    intro m hm
    refine EvP.succ ?_
    simp only [spec_l01Text.j0]
    have h := textP_l l m hm 5000 [] i h (by simp; omega) (by simp) hc
    simp only [List.length_nil] at h
    refine h.imp fun r hr => ⟨?_, fun h0 => ?_, hr.2⟩
    · rcases hr.1 with q | ⟨q1, q2⟩ <;> omega
    · rcases hr.1 with q | ⟨q1, q2⟩ <;> omega
  refine EvP.ite (fun c => (go 5000 (by omega)).imp fun r hr => ⟨hr.1, fun _ q => absurd q (by omega), hr.2.2⟩) (fun c => (go n (by omega)).imp fun r hr => ⟨hr.1, fun h0 _ => hr.2.1 h0, hr.2.2⟩)
theorem drawPlaceP (l : List Int) (hl : l.length ≤ 4611686018427387904) : EvP (fun k => spec_DrawSketchPlace.f k l) (fun r => r.2.size ≤ 5000) := by
  simp only [spec_DrawSketchPlace.f]
  refine EvP.bind (newP l hl) fun r hr => ?_
  rw [hr.1]
  refine EvP.bind (P := fun p => cu l p.2.1) ?_ fun p hp => EvP.bind (belowP l _ _ 6 (by omega) hp) fun b hb => EvP.bind (textP l _ _ b.1 hb.2) fun t ht => EvP.ret ?_
  · simp only [spec_l01PickInt.f]
    refine EvP.bind (belowP l _ _ _ (by simp) hr.2) fun b hb => EvP.yes hb.1.1 (EvP.yes hb.1.2 (EvP.ret hb.2))
  · have := ht.1
    show t.1.size ≤ 5000
    omega
theorem sketches_l (key kk B : ByteArray) (n : Int) (hB : B = (⟨#[47, 97]⟩ : ByteArray)) (hk : key.size = 2) (hkk : kk.size ≤ 5000) (l : List (List Int)) (a : Int) (hz : Sz l) (d : Nat) : ∀ (j : Nat) (x : List (List Int)) (xa : Int), j ≤ 64 → 64 - j = d → skOk x xa = true → Ev (fun k => laws_FnSketches.l0 k key n kk (j : Int) l a (bumpT l a key).1 (bumpT l a key).2 (bumpT l a key).1 (bumpT l a key).2 x xa) true := by
  induction d with
  | zero =>
    intro j x xa hj hd hok
    refine Ev.succ ?_
    simp only [laws_FnSketches.l0]
    obtain ⟨g, g1, g2⟩ := guess_both l a key (by omega) hz.1 hz.2
    obtain ⟨p, p0, p1, p2, p3⟩ := place_of n kk (by omega)
    obtain ⟨q, q0, q1, q2, q3⟩ := place_of 1 key (by omega)
    have h1 := sk_impl x xa (Sz.of_ok hok).1 (Sz.of_ok hok).2
    have h2 := sk_impl l a hz.1 hz.2
    have h3 := sk_spec l a hz.1
    rw [hok] at h1
    refine Ev.no (by omega) (Ev.bind (same_sk _ _ (bumpT_sz l a key hz)) (Ev.yes rfl (Ev.bind g2 (Ev.bind g1 (Ev.yes rfl (Ev.bind p3 (Ev.bind p2 (Ev.yes rfl (Ev.bind q3 (Ev.yes (by omega) (Ev.bind q3 (Ev.yes (by omega) (Ev.bind h1 (Ev.yes rfl (Ev.bind h2 (Ev.bind h3 ?_))))))))))))))))
    rw [show (skOk l a == skOk l a) = true from by simp]
    exact Ev.now _
  | succ d ih =>
    intro j x xa hj hd hok
    refine Ev.succ ?_
    simp only [laws_FnSketches.l0]
    rw [← hB, wnat j 64 (by omega) (by omega)]
    have hb := bumpT_impl x xa B (by rw [hB]; decide) (Sz.of_ok hok)
    have hok2 := bumpT_ok x xa B hok
    have hn := ih (j + 1) (bumpT x xa B).1 (bumpT x xa B).2 (by omega) (by omega) hok2
    refine Ev.yes (by omega) (Ev.bind hb ?_)
    by_cases c : (bumpT x xa B).2 = 0
    · have hg := gT_impl (bumpT x xa B).1 (bumpT x xa B).2 B (by rw [hB]; decide) hok2
      have h7 := gT_half x xa B B hok c
      exact Ev.yes c (Ev.bind hg (Ev.no (by omega) hn))
    · exact Ev.no c hn
theorem pureFnSketches (l0 : List Int) (_ : l0.length ≤ maxLen) (_ : ∀ x ∈ l0, (Lit.int .u8 x).wf = true) : ∃ k, laws_FnSketches.f k l0 = some true := by
  refine Ev.rounds (g := fun k => laws_FnSketches.f k l0) ?_
  simp only [laws_FnSketches.f, laws_big.f, Option.bind_some]
  by_cases c : (l0.length : Int) > 1048576
  · exact Ev.yes (decide_eq_true c) (Ev.now _)
  · refine Ev.no (by simpa using c) ?_
    have hl : l0.length ≤ 4611686018427387904 := by omega
    obtain ⟨r, er, hz, hk⟩ : EvP (fun k => spec_DrawSketchBump.f k l0) (fun r => Sz r.1 ∧ r.2.2.size = 2) := by
      simp only [spec_DrawSketchBump.f]
      refine EvP.bind (newP l0 hl) fun r hr => ?_
      rw [hr.1]
      exact EvP.bind (keyP2 l0 _ _ hr.2) fun q hq => EvP.bind (anyP l0 _ _ hq.2) fun s hs => EvP.ret ⟨hs.1.sz, hq.1⟩
    obtain ⟨p, ep, hp⟩ := drawPlaceP l0 hl
    obtain ⟨x, ex, hx⟩ : EvP (fun k => spec_DrawSketch.f k l0) (fun r => skOk r.1 r.2 = true) := by
      simp only [spec_DrawSketch.f]
      refine EvP.bind (newP l0 hl) fun r hr => ?_
      rw [hr.1]
      exact EvP.bind (skP l0 _ _ hr.2) fun s hs => EvP.ret hs.1
    exact Ev.bind er (Ev.bind (bumpT_impl r.1 r.2.1 r.2.2 (by omega) hz) (Ev.bind (bumpT_spec r.1 r.2.1 r.2.2 (by omega) hz) (Ev.bind ep (Ev.bind ex (sketches_l r.2.2 p.2 _ p.1 rfl hk hp r.1 r.2.1 hz 64 0 x.1 x.2 (by omega) (by omega) hx)))))
end Go.Proofs.Ytoopdknphikgkaa.Q
