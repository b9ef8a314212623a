import Derived.Test.YtdbhpcekjcohdaaZpG13
import Derived.Test.YtdbhpcekjcohdaaZpWords
import Derived.Test.YtdbhpcekjcohdaaZpG67
import Derived.Test.YtdbhpcekjcohdaaZpG24
import Derived.Test.YtdbhpcekjcohdaaZpG70
import Derived.Test.YtdbhpcekjcohdaaZpG12
namespace Go.Proofs.Ytdbhpcekjcohdaa.Q
open Go.RowKit Go.Proofs.YtdbhpcekjcohdaaW.PrintWords Go.Proofs.YtdbhpcekjcohdaaW.PrintLast Go.Proofs.YtdbhpcekjcohdaaW.PrintMore
theorem w64 {n : Int} (h0 : -9223372036854775808 ≤ n) (h1 : n < 9223372036854775808) : wrap64 n = n := by unfold wrap64; omega
theorem wnat (i n : Nat) (h : i < n) (hn : n ≤ 9223372036854775807) : wrap64 ((i : Int) + 1) = ((i + 1 : Nat) : Int) := by rw [w64 (by omega) (by omega)]; rfl
theorem Ev.go {α : Type} {g f : Nat → Option α} {r : α} (h : ∀ k, g (k + 1) = f k) (k : Ev f r) : Ev g r := Ev.step h k
theorem Ev.at1 {α : Type} {g : Nat → Option α} {r : α} (h : ∀ k, g (k + 1) = some r) : Ev g r := ⟨1, fun k hk => by obtain ⟨m, rfl⟩ : ∃ m, k = m + 1 := ⟨k - 1, by omega⟩; exact h m⟩
theorem Ev.then_ {α β : Type} {g : Nat → Option α} {f : Nat → α → Option β} {a : α} {r : β} (h : Ev g a) (k : Ev (fun n => f n a) r) : Ev (fun n => (g n).bind (f n)) r := Ev.bind h k
theorem Ev.eq {α : Type} {g f : Nat → Option α} {r : α} (h : ∀ k, g k = f k) (k : Ev f r) : Ev g r := Ev.congr h k
theorem rd_get (l : List Int) (i : Nat) (h : i < l.length) : rd l i = l[i] := by simp [rd, h]
theorem drop_get {α : Type} (l : List α) (i : Nat) (h : i < l.length) : l.drop i = l[i] :: l.drop (i + 1) := List.drop_eq_getElem_cons h
theorem rdG_get (l : List S57) (i : Nat) (h : i < l.length) : rd_T57 l i = l[i] := by simp [rd_T57, h]
def okPin (now p : Int) : Bool := p == 0 || p == now || p == wrap64 (now + 1)
def okGone (now : Int) (g : S57) : Bool := decide (1 ≤ g.f0 ∧ g.f0 ≤ 20) && decide (0 ≤ g.f1 ∧ g.f1 ≤ now)
def okEp (now : Int) (pins : List Int) (gone : List S57) : Bool :=
  (pins.all (okPin now) && gone.all (okGone now)) && (decide (2 ≤ now ∧ now ≤ 1000000000) && (decide (1 ≤ pins.length ∧ pins.length ≤ 4) && decide (gone.length ≤ 40)))
theorem in_spec (a b c : Int) : spec_l01In.f a b c = some (decide (b ≤ a ∧ a ≤ c)) := by
  unfold spec_l01In.f
  by_cases h : a ≥ b
  · rw [if_pos h]; simp [show b ≤ a from h]
  · rw [if_neg h]; simp [show ¬ b ≤ a from h]
theorem in_impl (a b c : Int) : impl_within.f a b c = some (decide (b ≤ a ∧ a ≤ c)) := by
  unfold impl_within.f
  by_cases h : a ≥ b
  · rw [if_pos h]; simp [show b ≤ a from h]
  · rw [if_neg h]; simp [show ¬ b ≤ a from h]
theorem spec_gone (now : Int) (pins : List Int) (gone : List S57) (hg : gone.length ≤ 9223372036854775807) (d : Nat) : ∀ i : Nat, i ≤ gone.length → gone.length - i = d →
    Ev (fun k => spec_EpochsOk.l1 k (i : Int) now pins gone) ((gone.drop i).all (okGone now)) := by
  induction d with
  | zero =>
    intro i hi hd
    refine Ev.at1 fun k => ?_
    simp only [spec_EpochsOk.l1]
    rw [if_neg (by omega), List.drop_eq_nil_of_le (by omega)]; rfl
  | succ d ih =>
    intro i hi hd
    have hlt : i < gone.length := by omega
    have hr := rdG_get gone i hlt
    rw [drop_get gone i hlt, List.all_cons]
    by_cases c : okGone now gone[i] = true
    · rw [c, Bool.true_and]
      refine Ev.go (fun k => ?_) (ih (i + 1) (by omega) (by omega))
      have c' := c
      simp only [okGone, Bool.and_eq_true] at c'
      simp only [spec_EpochsOk.l1]
      rw [if_pos (by omega), if_pos (by omega), hr, in_spec, in_spec]
      simp only [Option.bind_some]
      rw [if_pos c'.1, if_pos c'.2, wnat i _ hlt hg]
    · rw [Bool.eq_false_iff.mpr c, Bool.false_and]
      refine Ev.at1 fun k => ?_
      simp only [okGone, Bool.and_eq_true, not_and] at c
      simp only [spec_EpochsOk.l1]
      rw [if_pos (by omega), if_pos (by omega), hr, in_spec, in_spec]
      simp only [Option.bind_some]
      by_cases c1 : decide (1 ≤ gone[i].f0 ∧ gone[i].f0 ≤ 20) = true
      · rw [if_pos c1, if_neg (c c1)]
      · rw [if_neg c1]
theorem spec_pins (now : Int) (pins : List Int) (gone : List S57) (hp : pins.length ≤ 9223372036854775807) (hg : gone.length ≤ 9223372036854775807) (d : Nat) : ∀ i : Nat, i ≤ pins.length → pins.length - i = d →
    Ev (fun k => spec_EpochsOk.l0 k (i : Int) now pins gone) ((pins.drop i).all (okPin now) && gone.all (okGone now)) := by
  induction d with
  | zero =>
    intro i hi hd
    rw [List.drop_eq_nil_of_le (by omega)]
    refine Ev.go (fun k => ?_) (spec_gone now pins gone hg gone.length 0 (by omega) (by omega))
    simp only [spec_EpochsOk.l0]
    rw [if_neg (by omega)]; rfl
  | succ d ih =>
    intro i hi hd
    have hlt : i < pins.length := by omega
    have hr := rd_get pins i hlt
    rw [drop_get pins i hlt, List.all_cons]
    by_cases c : okPin now pins[i] = true
    · rw [c, Bool.true_and]
      refine Ev.go (fun k => ?_) (ih (i + 1) (by omega) (by omega))
      simp only [okPin, Bool.or_eq_true, beq_iff_eq] at c
      simp only [spec_EpochsOk.l0]
      rw [if_pos (by omega), if_pos (by omega), hr, wnat i _ hlt hp]
      rcases c with (c | c) | c
      · rw [if_pos c]
      · by_cases c0 : pins[i] = 0
        · rw [if_pos c0]
        · rw [if_neg c0, if_pos c]
      · by_cases c0 : pins[i] = 0
        · rw [if_pos c0]
        · rw [if_neg c0]
          by_cases c1 : pins[i] = now
          · rw [if_pos c1]
          · rw [if_neg c1, if_pos c]
    · rw [Bool.eq_false_iff.mpr c, Bool.false_and]
      refine Ev.at1 fun k => ?_
      simp only [okPin, Bool.or_eq_true, beq_iff_eq, not_or] at c
      simp only [spec_EpochsOk.l0]
      rw [if_pos (by omega), if_pos (by omega), hr, if_neg c.1.1, if_neg c.1.2, if_neg c.2, Bool.false_and]
theorem spec_ok (now : Int) (pins : List Int) (gone : List S57) (hp : pins.length ≤ 9223372036854775807) (hg : gone.length ≤ 9223372036854775807) : Ev (fun k => spec_EpochsOk.f k now pins gone) (okEp now pins gone) := by
  have go : ∀ b : Bool, Ev (fun k => spec_EpochsOk.j0 k b now pins gone) (!b && (pins.all (okPin now) && gone.all (okGone now))) := by
    intro b
    cases b with
    | true => exact Ev.at1 fun k => by simp [spec_EpochsOk.j0]
    | false => exact Ev.go (fun k => by simp [spec_EpochsOk.j0]) (spec_pins now pins gone hp hg pins.length 0 (by omega) (by omega))
  unfold spec_EpochsOk.f okEp
  simp only [in_spec, Option.bind_some]
  by_cases c1 : (2 ≤ now ∧ now ≤ 1000000000)
  · by_cases c2 : (1 ≤ (pins.length : Int) ∧ (pins.length : Int) ≤ 4)
    · have c2' : (1 ≤ pins.length ∧ pins.length ≤ 4) := by omega
      simp only [c1, c2, c2', and_self, decide_true, if_true, Bool.true_and]
      by_cases c3 : gone.length ≤ 40
      · have := go (decide ((gone.length : Int) > 40))
        simpa [c3, show ¬ (gone.length : Int) > 40 by omega] using this
      · have := go (decide ((gone.length : Int) > 40))
        simpa [c3, show (gone.length : Int) > 40 by omega] using this
    · have c2' : ¬ (1 ≤ pins.length ∧ pins.length ≤ 4) := by omega
      simpa [c1, c2, c2'] using go true
  · simpa [c1] using go true
theorem impl_gone (now : Int) (pins : List Int) (gone : List S57) (hg : gone.length ≤ 9223372036854775807) (d : Nat) : ∀ i : Nat, i ≤ gone.length → gone.length - i = d →
    Ev (fun k => impl_EpochsOk.l1 k gone (gone.length : Int) (i : Int) now pins gone) ((gone.drop i).all (okGone now) && (decide (2 ≤ now ∧ now ≤ 1000000000) && (decide (1 ≤ pins.length ∧ pins.length ≤ 4) && decide (gone.length ≤ 40)))) := by
  induction d with
  | zero =>
    intro i hi hd
    refine Ev.at1 fun k => ?_
    simp only [impl_EpochsOk.l1]
    rw [if_neg (by omega), List.drop_eq_nil_of_le (by omega)]
    simp only [in_impl, Option.bind_some, List.all_nil, Bool.true_and]
    by_cases c1 : (2 ≤ now ∧ now ≤ 1000000000)
    · by_cases c2 : (1 ≤ (pins.length : Int) ∧ (pins.length : Int) ≤ 4)
      · have c2' : (1 ≤ pins.length ∧ pins.length ≤ 4) := by omega
        have e : ((gone.length : Int) ≤ 40) = (gone.length ≤ 40) := by apply propext; omega
        simp [c1, c2, c2', e]
      · have c2' : ¬ (1 ≤ pins.length ∧ pins.length ≤ 4) := by omega
        simp [c1, c2, c2']
    · simp [c1]
  | succ d ih =>
    intro i hi hd
    have hlt : i < gone.length := by omega
    have hr := rdG_get gone i hlt
    rw [drop_get gone i hlt, List.all_cons]
    by_cases c : okGone now gone[i] = true
    · rw [c, Bool.true_and]
      refine Ev.go (fun k => ?_) (ih (i + 1) (by omega) (by omega))
      have c' := c
      simp only [okGone, Bool.and_eq_true] at c'
      simp only [impl_EpochsOk.l1]
      rw [if_pos (by omega), if_pos (by omega), if_pos (by omega), hr, in_impl, in_impl]
      simp only [Option.bind_some]
      rw [if_pos c'.1, if_pos c'.2, wnat i _ hlt hg]
    · rw [Bool.eq_false_iff.mpr c, Bool.false_and, Bool.false_and]
      refine Ev.at1 fun k => ?_
      simp only [okGone, Bool.and_eq_true, not_and] at c
      simp only [impl_EpochsOk.l1]
      rw [if_pos (by omega), if_pos (by omega), if_pos (by omega), hr, in_impl, in_impl]
      simp only [Option.bind_some]
      by_cases c1 : decide (1 ≤ gone[i].f0 ∧ gone[i].f0 ≤ 20) = true
      · rw [if_pos c1, if_neg (c c1)]
      · rw [if_neg c1]
theorem impl_pins (now : Int) (pins : List Int) (gone : List S57) (hp : pins.length ≤ 9223372036854775807) (hg : gone.length ≤ 9223372036854775807) (d : Nat) : ∀ i : Nat, i ≤ pins.length → pins.length - i = d →
    Ev (fun k => impl_EpochsOk.l0 k pins (pins.length : Int) (i : Int) now pins gone) (((pins.drop i).all (okPin now) && gone.all (okGone now)) && (decide (2 ≤ now ∧ now ≤ 1000000000) && (decide (1 ≤ pins.length ∧ pins.length ≤ 4) && decide (gone.length ≤ 40)))) := by
  induction d with
  | zero =>
    intro i hi hd
    rw [List.drop_eq_nil_of_le (by omega)]
    refine Ev.go (fun k => ?_) (impl_gone now pins gone hg gone.length 0 (by omega) (by omega))
    simp only [impl_EpochsOk.l0]
    rw [if_neg (by omega)]; rfl
  | succ d ih =>
    intro i hi hd
    have hlt : i < pins.length := by omega
    have hr := rd_get pins i hlt
    rw [drop_get pins i hlt, List.all_cons]
    by_cases c : okPin now pins[i] = true
    · rw [c, Bool.true_and]
      refine Ev.go (fun k => ?_) (ih (i + 1) (by omega) (by omega))
      simp only [okPin, Bool.or_eq_true, beq_iff_eq] at c
      simp only [impl_EpochsOk.l0]
      rw [if_pos (by omega), if_pos (by omega), if_pos (by omega), hr, wnat i _ hlt hp]
      rcases c with (c | c) | c
      · rw [if_pos c]
      · by_cases c0 : pins[i] = 0
        · rw [if_pos c0]
        · rw [if_neg c0, if_pos c]
      · by_cases c0 : pins[i] = 0
        · rw [if_pos c0]
        · rw [if_neg c0]
          by_cases c1 : pins[i] = now
          · rw [if_pos c1]
          · rw [if_neg c1, if_pos c]
    · rw [Bool.eq_false_iff.mpr c, Bool.false_and, Bool.false_and, Bool.false_and]
      refine Ev.at1 fun k => ?_
      simp only [okPin, Bool.or_eq_true, beq_iff_eq, not_or] at c
      simp only [impl_EpochsOk.l0]
      rw [if_pos (by omega), if_pos (by omega), if_pos (by omega), hr, if_neg c.1.1, if_neg c.1.2, if_neg c.2]
theorem impl_ok (now : Int) (pins : List Int) (gone : List S57) (hp : pins.length ≤ 9223372036854775807) (hg : gone.length ≤ 9223372036854775807) : Ev (fun k => impl_EpochsOk.f k now pins gone) (okEp now pins gone) :=
  Ev.eq (fun _ => rfl) (impl_pins now pins gone hp hg pins.length 0 (by omega) (by omega))
end Go.Proofs.Ytdbhpcekjcohdaa.Q
namespace Go.Proofs.Ytdbhpcekjcohdaa.Q
open Go.RowKit Go.Proofs.YtdbhpcekjcohdaaW.PrintWords Go.Proofs.YtdbhpcekjcohdaaW.PrintLast Go.Proofs.YtdbhpcekjcohdaaW.PrintMore
/-- With enough rounds g tells something of which P holds. -/
def EvP {α : Type} (g : Nat → Option α) (P : α → Prop) : Prop := ∃ r, Ev g r ∧ P r
theorem Ev.succ {α : Type} {g : Nat → Option α} {r : α} (h : Ev (fun k => g (k + 1)) r) : Ev g r := Ev.step (fun _ => rfl) h
theorem Ev.yes {α : Type} {f g : Nat → Option α} {r : α} {c : Prop} [Decidable c] (hc : c) (h : Ev f r) : Ev (fun k => if c then f k else g k) r := Ev.congr (fun _ => if_pos hc) h
theorem Ev.no {α : Type} {f g : Nat → Option α} {r : α} {c : Prop} [Decidable c] (hc : ¬ c) (h : Ev g r) : Ev (fun k => if c then f k else g k) r := Ev.congr (fun _ => if_neg hc) h
theorem Ev.const {α : Type} {g : Option α} {a : α} (h : g = some a) : Ev (fun _ => g) a := ⟨0, fun _ _ => h⟩
theorem EvP.bind {α β : Type} {g : Nat → Option α} {f : Nat → α → Option β} {P : α → Prop} {Q : β → Prop} (h : EvP g P) (k : ∀ a, P a → EvP (fun n => f n a) Q) : EvP (fun n => (g n).bind (f n)) Q := by
  obtain ⟨a, ha, hp⟩ := h
  obtain ⟨r, hr, hq⟩ := k a hp
  exact ⟨r, Ev.bind ha hr, hq⟩
theorem EvP.ite {α : Type} {f g : Nat → Option α} {P : α → Prop} {c : Prop} [Decidable c] (h1 : c → EvP f P) (h2 : ¬ c → EvP g P) : EvP (fun k => if c then f k else g k) P := by
  by_cases hc : c
  · obtain ⟨r, hr, hp⟩ := h1 hc; exact ⟨r, Ev.yes hc hr, hp⟩
  · obtain ⟨r, hr, hp⟩ := h2 hc; exact ⟨r, Ev.no hc hr, hp⟩
theorem EvP.yes {α : Type} {f g : Nat → Option α} {P : α → Prop} {c : Prop} [Decidable c] (hc : c) (h : EvP f P) : EvP (fun k => if c then f k else g k) P := EvP.ite (fun _ => h) (fun hn => absurd hc hn)
theorem EvP.no {α : Type} {f g : Nat → Option α} {P : α → Prop} {c : Prop} [Decidable c] (hc : ¬ c) (h : EvP g P) : EvP (fun k => if c then f k else g k) P := EvP.ite (fun hn => absurd hn hc) (fun _ => h)
theorem EvP.ret {α : Type} {a : α} {P : α → Prop} (h : P a) : EvP (fun _ => some a) P := ⟨a, Ev.now a, h⟩
theorem EvP.ev {α : Type} {g : Nat → Option α} {r : α} {P : α → Prop} (h : Ev g r) (hp : P r) : EvP g P := ⟨r, h, hp⟩
theorem EvP.const {α : Type} {g : Option α} {a : α} {P : α → Prop} (h : g = some a) (hp : P a) : EvP (fun _ => g) P := ⟨a, Ev.const h, hp⟩
theorem EvP.succ {α : Type} {g : Nat → Option α} {P : α → Prop} (h : EvP (fun k => g (k + 1)) P) : EvP g P := by
  obtain ⟨r, hr, hp⟩ := h
  exact ⟨r, Ev.succ hr, hp⟩
theorem EvP.is {α : Type} {g : Nat → Option α} {r : α} (h : EvP g (fun x => x = r)) : Ev g r := by
  obtain ⟨_, hr, rfl⟩ := h
  exact hr
end Go.Proofs.Ytdbhpcekjcohdaa.Q
namespace Go.Proofs.Ytdbhpcekjcohdaa.Q
open Go.RowKit Go.Proofs.YtdbhpcekjcohdaaW.PrintWords Go.Proofs.YtdbhpcekjcohdaaW.PrintLast Go.Proofs.YtdbhpcekjcohdaaW.PrintMore
theorem and255v (a : Int) : Go.bits .and .i64 a 255 = a % 256 := by
  unfold Go.bits
  simp only [IntKind.wrap_i64]
  have e1 : (BitVec.ofInt IntKind.i64.bits a).toNat = (a % 18446744073709551616).toNat := by rw [BitVec.toNat_ofInt]; rfl
  have e2 : (BitVec.ofInt IntKind.i64.bits 255).toNat = 2 ^ 8 - 1 := by decide
  rw [BitVec.toNat_and, e1, e2, Nat.and_two_pow_sub_one_eq_mod]
  omega
/-- A place in the code that is drawn from. -/
def cu (l : List Int) (i : Int) : Prop := (0 ≤ i ∧ i ≤ l.length) ∧ l.length ≤ 4611686018427387904
theorem byte_ok (l : List Int) (i h : Int) (hc : cu l i) : ∃ x i' h', spec_l01Byte.f l i h = some (x, i', h') ∧ 0 ≤ x ∧ x ≤ 255 ∧ cu l i' := by
  obtain ⟨⟨h0, h1⟩, hl⟩ := hc
  unfold spec_l01Byte.f
  by_cases c : i < (l.length : Int)
  · rw [if_pos c, if_pos h0, w64 (n := i + 1) (by omega) (by omega), and255v]
    exact ⟨_, _, _, rfl, by omega, by omega, ⟨by omega, by omega⟩, hl⟩
  · rw [if_neg c, and255v]
    exact ⟨_, _, _, rfl, by omega, by omega, ⟨by omega, by omega⟩, hl⟩
theorem below_ok (l : List Int) (i h n : Int) (hn : 1 ≤ n) (hc : cu l i) : ∃ x i' h', spec_l01Below.f l i h n = some (x, i', h') ∧ 0 ≤ x ∧ x < n ∧ cu l i' := by
  unfold spec_l01Below.f
  obtain ⟨x1, i1, g1, e1, a1, b1, c1⟩ := byte_ok l i h hc
  rw [if_neg (by omega), e1]
  simp only [Option.bind_some]
  by_cases c : n ≤ 256
  · rw [if_pos c, if_neg (by omega), Int.tmod_eq_emod_of_nonneg a1]
    exact ⟨_, _, _, rfl, Int.emod_nonneg _ (by omega), Int.emod_lt_of_pos _ (by omega), c1⟩
  · obtain ⟨x2, i2, g2, e2, a2, b2, c2⟩ := byte_ok l i1 g1 c1
    obtain ⟨x3, i3, g3, e3, a3, b3, c3⟩ := byte_ok l i2 g2 c2
    obtain ⟨x4, i4, g4, e4, a4, b4, c4⟩ := byte_ok l i3 g3 c3
    rw [if_neg c, e2]
    simp only [Option.bind_some]
    rw [e3]
    simp only [Option.bind_some]
    rw [e4]
    simp only [Option.bind_some]
    rw [w64 (n := x1 * 16777216) (by omega) (by omega), w64 (n := x2 * 65536) (by omega) (by omega), w64 (n := x3 * 256) (by omega) (by omega), w64 (n := x1 * 16777216 + x2 * 65536) (by omega) (by omega), w64 (n := x1 * 16777216 + x2 * 65536 + x3 * 256) (by omega) (by omega),
      w64 (n := x1 * 16777216 + x2 * 65536 + x3 * 256 + x4) (by omega) (by omega), if_neg (by omega), Int.tmod_eq_emod_of_nonneg (by omega)]
    exact ⟨_, _, _, rfl, Int.emod_nonneg _ (by omega), Int.emod_lt_of_pos _ (by omega), c4⟩
theorem belowP (l : List Int) (i h n : Int) (hn : 1 ≤ n) (hc : cu l i) : EvP (fun _ => spec_l01Below.f l i h n) (fun r => (0 ≤ r.1 ∧ r.1 < n) ∧ cu l r.2.1) := by
  obtain ⟨x, i', h', e, a, b, c⟩ := below_ok l i h n hn hc
  exact EvP.const e ⟨⟨a, b⟩, c⟩
theorem cu_zero {l : List Int} (hl : l.length ≤ 4611686018427387904) : cu l 0 := ⟨⟨by omega, by omega⟩, hl⟩
theorem newP_l (l : List Int) (hl : l.length ≤ 4611686018427387904) (d : Nat) : ∀ (h : Int) (i : Nat), i ≤ l.length → l.length - i = d → EvP (fun k => spec_l01New.l0 k l h (i : Int)) (fun r => r.1 = l ∧ cu l r.2.1) := by
  induction d with
  | zero => intro h i hi hd; refine EvP.succ ?_; simp only [spec_l01New.l0]; exact EvP.no (by omega) (EvP.ret ⟨rfl, cu_zero hl⟩)
  | succ d ih =>
    intro h i hi hd
    have hlt : i < l.length := by omega
    refine EvP.succ ?_
    simp only [spec_l01New.l0]
    refine EvP.yes (by omega) (EvP.ite (fun c => EvP.yes (by omega) ?_) (fun c => EvP.ret ⟨rfl, cu_zero hl⟩))
    rw [wnat i _ hlt (by omega)]
    exact ih _ (i + 1) (by omega) (by omega)
theorem newP (l : List Int) (hl : l.length ≤ 4611686018427387904) : EvP (fun k => spec_l01New.f k l) (fun r => r.1 = l ∧ cu l r.2.1) := newP_l l hl l.length _ 0 (by omega) (by omega)
end Go.Proofs.Ytdbhpcekjcohdaa.Q
namespace Go.Proofs.Ytdbhpcekjcohdaa.Q
open Go.RowKit Go.Proofs.YtdbhpcekjcohdaaW.PrintWords Go.Proofs.YtdbhpcekjcohdaaW.PrintLast Go.Proofs.YtdbhpcekjcohdaaW.PrintMore
theorem okEp_iff (a : Int) (l1 : List Int) (l2 : List S57) : okEp a l1 l2 = true ↔
    ((∀ p ∈ l1, p = 0 ∨ p = a ∨ p = wrap64 (a + 1)) ∧ (∀ g ∈ l2, (1 ≤ g.f0 ∧ g.f0 ≤ 20) ∧ 0 ≤ g.f1 ∧ g.f1 ≤ a)) ∧ (2 ≤ a ∧ a ≤ 1000000000) ∧ (1 ≤ l1.length ∧ l1.length ≤ 4) ∧ l2.length ≤ 40 := by
  simp only [okEp, Bool.and_eq_true, List.all_eq_true, okPin, okGone, Bool.or_eq_true, beq_iff_eq, decide_eq_true_eq, or_assoc]
def pinF (a : Int) (l1 : List Int) (l2 : List S57) (who : Int) : Int × List Int × List S57 × Bool :=
  if (okEp a l1 l2 = true ∧ (0 ≤ who ∧ who ≤ (l1.length : Int) - 1)) ∧ rd l1 who = 0 then (a, l1.set who.toNat (wrap64 (a + 1)), l2, true) else (a, l1, l2, false)
def unpF (a : Int) (l1 : List Int) (l2 : List S57) (who : Int) : Int × List Int × List S57 × Bool :=
  if (okEp a l1 l2 = true ∧ (0 ≤ who ∧ who ≤ (l1.length : Int) - 1)) ∧ ¬ rd l1 who = 0 then (a, l1.set who.toNat 0, l2, true) else (a, l1, l2, false)
def advF (a : Int) (l1 : List Int) (l2 : List S57) : Int × List Int × List S57 × Bool :=
  if (okEp a l1 l2 = true ∧ ¬ a = 1000000000) ∧ ¬ a ∈ l1 then (wrap64 (a + 1), l1, l2, true) else (a, l1, l2, false)
def gonB (a : Int) (g : S57) : Bool := decide (g.f1 ≤ wrap64 (a - 2))
def freeF (a : Int) (l1 : List Int) (l2 : List S57) : Int × List Int × List S57 × List Int :=
  if okEp a l1 l2 = true then (a, l1, l2.filter (fun g => !gonB a g), (l2.filter (gonB a)).map S57.f0) else (a, l1, l2, [])
def retF (a : Int) (l1 : List Int) (l2 : List S57) (node : Int) : Int × List Int × List S57 × Bool :=
  if (okEp a l1 l2 = true ∧ (1 ≤ node ∧ node ≤ 20)) ∧ ¬ l2.length = 40 ∧ ∀ g ∈ l2, ¬ g.f0 = node then (a, l1, l2 ++ [⟨node, a⟩], true) else (a, l1, l2, false)
/-- Right epochs of at most so high a number stay right. -/
def Rt (B : Int) (a : Int) (l1 : List Int) (l2 : List S57) : Prop := okEp a l1 l2 = true ∧ a ≤ B
theorem rt_up {B C a : Int} {l1 : List Int} {l2 : List S57} (h : Rt B a l1 l2) (hC : B ≤ C) : Rt C a l1 l2 := ⟨h.1, by have := h.2; omega⟩
theorem mem_set {l : List Int} {i : Nat} {v p : Int} (h : p ∈ l.set i v) : p ∈ l ∨ p = v := by
  rcases List.mem_or_eq_of_mem_set h with h | h
  · exact .inl h
  · exact .inr h
theorem rt_pin {B a : Int} {l1 : List Int} {l2 : List S57} (who : Int) (h : Rt B a l1 l2) : Rt B (pinF a l1 l2 who).1 (pinF a l1 l2 who).2.1 (pinF a l1 l2 who).2.2.1 := by
  unfold pinF
  split
  · refine ⟨?_, h.2⟩
    obtain ⟨⟨h1, h2⟩, h3, h4, h5⟩ := (okEp_iff _ _ _).mp h.1
    refine (okEp_iff _ _ _).mpr ⟨⟨fun p hp => ?_, h2⟩, h3, by simpa using h4, h5⟩
    rcases mem_set hp with hp | hp
    · exact h1 p hp
    · exact .inr (.inr hp)
  · exact h
theorem rt_unp {B a : Int} {l1 : List Int} {l2 : List S57} (who : Int) (h : Rt B a l1 l2) : Rt B (unpF a l1 l2 who).1 (unpF a l1 l2 who).2.1 (unpF a l1 l2 who).2.2.1 := by
  unfold unpF
  split
  · refine ⟨?_, h.2⟩
    obtain ⟨⟨h1, h2⟩, h3, h4, h5⟩ := (okEp_iff _ _ _).mp h.1
    refine (okEp_iff _ _ _).mpr ⟨⟨fun p hp => ?_, h2⟩, h3, by simpa using h4, h5⟩
    rcases mem_set hp with hp | hp
    · exact h1 p hp
    · exact .inl hp
  · exact h
theorem rt_adv {B a : Int} {l1 : List Int} {l2 : List S57} (h : Rt B a l1 l2) (hB : B < 1000000000) : Rt (B + 1) (advF a l1 l2).1 (advF a l1 l2).2.1 (advF a l1 l2).2.2.1 := by
  have hb := h.2
  unfold advF
  split
  · rename_i c
    obtain ⟨⟨h1, h2⟩, h3, h4, h5⟩ := (okEp_iff _ _ _).mp h.1
    have e : wrap64 (a + 1) = a + 1 := w64 (by omega) (by omega)
    rw [e] at h1 ⊢
    refine ⟨(okEp_iff _ _ _).mpr ⟨⟨fun p hp => ?_, fun g hg => ?_⟩, by dsimp only; omega, h4, h5⟩, by dsimp only; omega⟩
    · rcases h1 p hp with h | h | h
      · exact .inl h
      · exact absurd (h ▸ hp) c.2
      · exact .inr (.inl h)
    · obtain ⟨g1, g2, g3⟩ := h2 g hg; exact ⟨g1, g2, by dsimp only; omega⟩
  · exact rt_up h (by omega)
theorem rt_free {B a : Int} {l1 : List Int} {l2 : List S57} (h : Rt B a l1 l2) : Rt B (freeF a l1 l2).1 (freeF a l1 l2).2.1 (freeF a l1 l2).2.2.1 := by
  unfold freeF
  rw [if_pos h.1]
  obtain ⟨⟨h1, h2⟩, h3, h4, h5⟩ := (okEp_iff _ _ _).mp h.1
  exact ⟨(okEp_iff _ _ _).mpr ⟨⟨h1, fun g hg => h2 g (List.mem_filter.mp hg).1⟩, h3, h4, Nat.le_trans (List.length_filter_le _ _) h5⟩, h.2⟩
theorem rt_ret {B a : Int} {l1 : List Int} {l2 : List S57} (node : Int) (h : Rt B a l1 l2) : Rt B (retF a l1 l2 node).1 (retF a l1 l2 node).2.1 (retF a l1 l2 node).2.2.1 := by
  unfold retF
  split
  · rename_i c
    obtain ⟨⟨h1, h2⟩, h3, h4, h5⟩ := (okEp_iff _ _ _).mp h.1
    refine ⟨(okEp_iff _ _ _).mpr ⟨⟨h1, fun g hg => ?_⟩, h3, h4, by have := c.2.1; simp; omega⟩, h.2⟩
    rcases List.mem_append.mp hg with hg | hg
    · exact h2 g hg
    · obtain rfl := List.mem_singleton.mp hg
      exact ⟨c.1.2, by dsimp only; omega, by dsimp only; omega⟩
  · exact h
end Go.Proofs.Ytdbhpcekjcohdaa.Q
namespace Go.Proofs.Ytdbhpcekjcohdaa.Q
open Go.RowKit Go.Proofs.YtdbhpcekjcohdaaW.PrintWords Go.Proofs.YtdbhpcekjcohdaaW.PrintLast Go.Proofs.YtdbhpcekjcohdaaW.PrintMore
theorem copy_spec (a : Int) (l1 : List Int) (l2 : List S57) (h1 : l1.length ≤ 2000000) (h2 : l2.length ≤ 2000000) : spec_l08Copy.f a l1 l2 = some (a, l1, l2) := by
  simp only [spec_l08Copy.f, Option.bind_some, List.length_nil, List.nil_append]; rw [if_pos (by omega), if_pos (by omega)]
theorem copy_impl (a : Int) (l1 : List Int) (l2 : List S57) (h1 : l1.length ≤ 2000000) (h2 : l2.length ≤ 2000000) : impl_copyEpochs.f a l1 l2 = some (a, l1, l2) := by
  simp only [impl_copyEpochs.f, impl_copyInts.f, Option.bind_some, List.length_nil, List.nil_append]; rw [if_pos (by omega)]; simp only [Option.bind_some]; rw [if_pos (by omega)]
end Go.Proofs.Ytdbhpcekjcohdaa.Q
namespace Go.Proofs.Ytdbhpcekjcohdaa.Q
open Go.RowKit Go.Proofs.YtdbhpcekjcohdaaW.PrintWords Go.Proofs.YtdbhpcekjcohdaaW.PrintLast Go.Proofs.YtdbhpcekjcohdaaW.PrintMore
theorem pin_spec (a : Int) (l1 : List Int) (l2 : List S57) (who : Int) (h1 : l1.length ≤ 1048576) (h2 : l2.length ≤ 1048576) : Ev (fun k => spec_PinLook.f k a l1 l2 who) (pinF a l1 l2 who) := by
  have hs := spec_ok a l1 l2 (by omega) (by omega)
  have cs := copy_spec a l1 l2 (by omega) (by omega)
  have hw : wrap64 ((l1.length : Int) - 1) = (l1.length : Int) - 1 := w64 (by omega) (by omega)
  refine Ev.eq (fun k => by simp only [spec_PinLook.f, cs, in_spec, hw, Option.bind_some]; rfl) ?_
  refine Ev.then_ hs ?_
  by_cases c1 : okEp a l1 l2 = true
  · refine Ev.eq (fun k => if_pos c1) ?_
    by_cases c2 : 0 ≤ who ∧ who ≤ (l1.length : Int) - 1
    · by_cases c0 : rd l1 who = 0
      · rw [show pinF a l1 l2 who = (a, l1.set who.toNat (wrap64 (a + 1)), l2, true) from if_pos ⟨⟨c1, c2⟩, c0⟩]
        exact Ev.eq (fun k => by rw [if_pos (by simpa using c2), if_pos (by omega), if_pos (by omega), if_pos c0, if_pos (by omega)]) (Ev.now _)
      · rw [show pinF a l1 l2 who = (a, l1, l2, false) from if_neg (fun h => c0 h.2)]
        exact Ev.eq (fun k => by rw [if_pos (by simpa using c2), if_pos (by omega), if_pos (by omega), if_neg c0]) (Ev.now _)
    · rw [show pinF a l1 l2 who = (a, l1, l2, false) from if_neg (fun h => c2 h.1.2)]
      exact Ev.eq (fun k => if_neg (by simpa using c2)) (Ev.now _)
  · rw [show pinF a l1 l2 who = (a, l1, l2, false) from if_neg (fun h => c1 h.1.1)]
    exact Ev.eq (fun k => if_neg c1) (Ev.now _)
end Go.Proofs.Ytdbhpcekjcohdaa.Q
namespace Go.Proofs.Ytdbhpcekjcohdaa.Q
open Go.RowKit Go.Proofs.YtdbhpcekjcohdaaW.PrintWords Go.Proofs.YtdbhpcekjcohdaaW.PrintLast Go.Proofs.YtdbhpcekjcohdaaW.PrintMore
theorem unp_spec (a : Int) (l1 : List Int) (l2 : List S57) (who : Int) (h1 : l1.length ≤ 1048576) (h2 : l2.length ≤ 1048576) : Ev (fun k => spec_UnpinLook.f k a l1 l2 who) (unpF a l1 l2 who) := by
  have hs := spec_ok a l1 l2 (by omega) (by omega)
  have cs := copy_spec a l1 l2 (by omega) (by omega)
  have hw : wrap64 ((l1.length : Int) - 1) = (l1.length : Int) - 1 := w64 (by omega) (by omega)
  refine Ev.eq (fun k => by simp only [spec_UnpinLook.f, cs, in_spec, hw, Option.bind_some]; rfl) ?_
  refine Ev.then_ hs ?_
  by_cases c1 : okEp a l1 l2 = true
  · refine Ev.eq (fun k => if_pos c1) ?_
    by_cases c2 : 0 ≤ who ∧ who ≤ (l1.length : Int) - 1
    · by_cases c0 : rd l1 who = 0
      · rw [show unpF a l1 l2 who = (a, l1, l2, false) from if_neg (fun h => h.2 c0)]
        exact Ev.eq (fun k => by rw [if_pos (by simpa using c2), if_pos (by omega), if_pos (by omega), if_pos c0]) (Ev.now _)
      · rw [show unpF a l1 l2 who = (a, l1.set who.toNat 0, l2, true) from if_pos ⟨⟨c1, c2⟩, c0⟩]
        exact Ev.eq (fun k => by rw [if_pos (by simpa using c2), if_pos (by omega), if_pos (by omega), if_neg c0, if_pos (by omega)]) (Ev.now _)
    · rw [show unpF a l1 l2 who = (a, l1, l2, false) from if_neg (fun h => c2 h.1.2)]
      exact Ev.eq (fun k => if_neg (by simpa using c2)) (Ev.now _)
  · rw [show unpF a l1 l2 who = (a, l1, l2, false) from if_neg (fun h => c1 h.1.1)]
    exact Ev.eq (fun k => if_neg c1) (Ev.now _)
end Go.Proofs.Ytdbhpcekjcohdaa.Q
namespace Go.Proofs.Ytdbhpcekjcohdaa.Q
open Go.RowKit Go.Proofs.YtdbhpcekjcohdaaW.PrintWords Go.Proofs.YtdbhpcekjcohdaaW.PrintLast Go.Proofs.YtdbhpcekjcohdaaW.PrintMore
theorem ret_spec_l (node a : Int) (l1 : List Int) (l2 : List S57) (hl : l2.length ≤ 1048577) (d : Nat) : ∀ i : Nat, i ≤ l2.length → l2.length - i = d →
    Ev (fun k => spec_RetireNode.l0 k node (i : Int) a l1 l2 a l1 l2) (if ∀ g ∈ l2.drop i, ¬ g.f0 = node then (a, l1, l2 ++ [⟨node, a⟩], true) else (a, l1, l2, false)) := by
  induction d with
  | zero =>
    intro i hi hd
    rw [List.drop_eq_nil_of_le (by omega)]
    exact Ev.at1 fun k => by simp only [spec_RetireNode.l0]; rw [if_neg (by omega), if_pos (by omega)]; simp
  | succ d ih =>
    intro i hi hd
    have hlt : i < l2.length := by omega
    have hr := rdG_get l2 i hlt
    rw [drop_get l2 i hlt]
    by_cases c : l2[i].f0 = node
    · rw [if_neg (fun h => h _ List.mem_cons_self c)]
      exact Ev.at1 fun k => by simp only [spec_RetireNode.l0]; rw [if_pos (by omega), if_pos (by omega), hr, if_pos c]
    · have e : (∀ g ∈ l2[i] :: l2.drop (i + 1), ¬ g.f0 = node) = (∀ g ∈ l2.drop (i + 1), ¬ g.f0 = node) := propext ⟨fun h g hg => h g (List.mem_cons.mpr (.inr hg)), fun h g hg => (List.mem_cons.mp hg).elim (fun e => e ▸ c) (h g)⟩
      simp only [e]
      refine Ev.go (fun k => ?_) (ih (i + 1) (by omega) (by omega))
      simp only [spec_RetireNode.l0]; rw [if_pos (by omega), if_pos (by omega), hr, if_neg c, wnat i _ hlt (by omega)]
theorem ret_spec (a : Int) (l1 : List Int) (l2 : List S57) (node : Int) (h1 : l1.length ≤ 1048577) (h2 : l2.length ≤ 1048577) : Ev (fun k => spec_RetireNode.f k a l1 l2 node) (retF a l1 l2 node) := by
  have hs := spec_ok a l1 l2 (by omega) (by omega)
  have cs := copy_spec a l1 l2 (by omega) (by omega)
  have hl := ret_spec_l node a l1 l2 h2 l2.length 0 (by omega) (by omega)
  rw [List.drop_zero] at hl
  have jt : ∀ k, spec_RetireNode.j0 (k + 1) node true a l1 l2 a l1 l2 = some (a, l1, l2, false) := fun k => by simp only [spec_RetireNode.j0, if_true]
  have jf : ∀ k, spec_RetireNode.j0 (k + 1) node false a l1 l2 a l1 l2 = spec_RetireNode.l0 k node 0 a l1 l2 a l1 l2 := fun k => by simp only [spec_RetireNode.j0]; rw [if_neg (by simp)]
  refine Ev.eq (fun k => by simp only [spec_RetireNode.f, cs, in_spec, Option.bind_some]; rfl) ?_
  refine Ev.then_ hs ?_
  by_cases c : okEp a l1 l2 = true
  · refine Ev.eq (fun k => if_pos c) ?_
    by_cases c1 : 1 ≤ node ∧ node ≤ 20
    · refine Ev.eq (fun k => if_pos (by simpa using c1)) ?_
      by_cases c2 : l2.length = 40
      · rw [show retF a l1 l2 node = (a, l1, l2, false) from if_neg (fun h => h.2.1 c2), show ((l2.length : Int) == 40) = true by rw [c2]; rfl]; exact Ev.at1 jt
      · rw [show ((l2.length : Int) == 40) = false by simpa using fun h : (l2.length : Int) = 40 => c2 (by omega)]
        by_cases c3 : ∀ g ∈ l2, ¬ g.f0 = node
        · rw [show retF a l1 l2 node = (a, l1, l2 ++ [⟨node, a⟩], true) from if_pos ⟨⟨c, c1⟩, c2, c3⟩]; rw [if_pos c3] at hl; exact Ev.go jf hl
        · rw [show retF a l1 l2 node = (a, l1, l2, false) from if_neg (fun h => c3 h.2.2)]; rw [if_neg c3] at hl; exact Ev.go jf hl
    · rw [show retF a l1 l2 node = (a, l1, l2, false) from if_neg (fun h => c1 h.1.2)]
      exact Ev.eq (fun k => if_neg (by simpa using c1)) (Ev.at1 jt)
  · rw [show retF a l1 l2 node = (a, l1, l2, false) from if_neg (fun h => c h.1.1)]
    exact Ev.eq (fun k => if_neg c) (Ev.at1 jt)
end Go.Proofs.Ytdbhpcekjcohdaa.Q
namespace Go.Proofs.Ytdbhpcekjcohdaa.Q
open Go.RowKit Go.Proofs.YtdbhpcekjcohdaaW.PrintWords Go.Proofs.YtdbhpcekjcohdaaW.PrintLast Go.Proofs.YtdbhpcekjcohdaaW.PrintMore
theorem adv_l (a : Int) (l1 : List Int) (l2 : List S57) (b1 : List Int) (b2 : List S57) (b0 : Int) (hl : l1.length ≤ 9223372036854775807) (d : Nat) : ∀ i : Nat, i ≤ l1.length → l1.length - i = d →
    Ev (fun k => spec_AdvanceEpoch.l0 k (i : Int) a l1 l2 b0 b1 b2) (if a ∈ l1.drop i then (b0, b1, b2, false) else (wrap64 (a + 1), b1, b2, true)) := by
  induction d with
  | zero =>
    intro i hi hd
    rw [List.drop_eq_nil_of_le (by omega)]
    exact Ev.at1 fun k => by simp only [spec_AdvanceEpoch.l0]; rw [if_neg (by omega)]; simp
  | succ d ih =>
    intro i hi hd
    have hlt : i < l1.length := by omega
    have hr := rd_get l1 i hlt
    rw [drop_get l1 i hlt]
    by_cases c : l1[i] = a
    · rw [if_pos (List.mem_cons.mpr (.inl c.symm))]
      exact Ev.at1 fun k => by simp only [spec_AdvanceEpoch.l0]; rw [if_pos (by omega), if_pos (by omega), hr, if_pos c]
    · have e : (a ∈ l1[i] :: l1.drop (i + 1)) = (a ∈ l1.drop (i + 1)) := propext ⟨fun h => (List.mem_cons.mp h).resolve_left (fun h => c h.symm), fun h => List.mem_cons.mpr (.inr h)⟩
      simp only [e]
      refine Ev.go (fun k => ?_) (ih (i + 1) (by omega) (by omega))
      simp only [spec_AdvanceEpoch.l0]; rw [if_pos (by omega), if_pos (by omega), hr, if_neg c, wnat i _ hlt hl]
theorem adv_spec (a : Int) (l1 : List Int) (l2 : List S57) (h1 : l1.length ≤ 1048576) (h2 : l2.length ≤ 1048576) : Ev (fun k => spec_AdvanceEpoch.f k a l1 l2) (advF a l1 l2) := by
  have hs := spec_ok a l1 l2 (by omega) (by omega)
  have cs := copy_spec a l1 l2 (by omega) (by omega)
  have hl := adv_l a l1 l2 l1 l2 a (by omega) l1.length 0 (by omega) (by omega)
  rw [List.drop_zero] at hl
  have jt : ∀ k, spec_AdvanceEpoch.j0 (k + 1) true a l1 l2 a l1 l2 = some (a, l1, l2, false) := fun k => by simp only [spec_AdvanceEpoch.j0, if_true]
  have jf : ∀ k, spec_AdvanceEpoch.j0 (k + 1) false a l1 l2 a l1 l2 = spec_AdvanceEpoch.l0 k 0 a l1 l2 a l1 l2 := fun k => by simp only [spec_AdvanceEpoch.j0]; rw [if_neg (by simp)]
  refine Ev.eq (fun k => by simp only [spec_AdvanceEpoch.f, cs, Option.bind_some]; rfl) ?_
  refine Ev.then_ hs ?_
  by_cases c : okEp a l1 l2 = true
  · refine Ev.eq (fun k => if_pos c) ?_
    by_cases c0 : a = 1000000000
    · rw [show advF a l1 l2 = (a, l1, l2, false) from if_neg (fun h => h.1.2 c0), show (a == 1000000000) = true by simp [c0]]
      exact Ev.at1 jt
    · rw [show (a == 1000000000) = false by simp [c0]]
      by_cases c1 : a ∈ l1
      · rw [show advF a l1 l2 = (a, l1, l2, false) from if_neg (fun h => h.2 c1)]; rw [if_pos c1] at hl; exact Ev.go jf hl
      · rw [show advF a l1 l2 = (wrap64 (a + 1), l1, l2, true) from if_pos ⟨⟨c, c0⟩, c1⟩]; rw [if_neg c1] at hl; exact Ev.go jf hl
  · rw [show advF a l1 l2 = (a, l1, l2, false) from if_neg (fun h => c h.1.1)]
    exact Ev.eq (fun k => if_neg c) (Ev.at1 jt)
end Go.Proofs.Ytdbhpcekjcohdaa.Q
namespace Go.Proofs.Ytdbhpcekjcohdaa.Q
open Go.RowKit Go.Proofs.YtdbhpcekjcohdaaW.PrintWords Go.Proofs.YtdbhpcekjcohdaaW.PrintLast Go.Proofs.YtdbhpcekjcohdaaW.PrintMore
theorem free_spec_l (a : Int) (l1 : List Int) (l2 : List S57) (b0 : Int) (b1 : List Int) (hl : l2.length ≤ 1048577) (d : Nat) : ∀ (i : Nat) (x : List Int) (y : List S57), i ≤ l2.length → l2.length - i = d → x.length ≤ i → y.length ≤ i →
    Ev (fun k => spec_FreeNodes.l0 k x (i : Int) a l1 l2 b0 b1 y) (b0, b1, y ++ (l2.drop i).filter (fun g => !gonB a g), x ++ ((l2.drop i).filter (gonB a)).map S57.f0) := by
  induction d with
  | zero =>
    intro i x y hi hd hx hy
    rw [List.drop_eq_nil_of_le (by omega)]
    exact Ev.at1 fun k => by simp only [spec_FreeNodes.l0]; rw [if_neg (by omega)]; simp
  | succ d ih =>
    intro i x y hi hd hx hy
    have hlt : i < l2.length := by omega
    have hr := rdG_get l2 i hlt
    rw [drop_get l2 i hlt]
    by_cases c : l2[i].f1 ≤ wrap64 (a - 2)
    · have cb : gonB a l2[i] = true := by simp [gonB, c]
      rw [List.filter_cons_of_pos (p := gonB a) cb, List.filter_cons_of_neg (p := fun g => !gonB a g) (by simp [cb]), List.map_cons, List.append_cons]
      refine Ev.go (fun k => ?_) (ih (i + 1) (x ++ [l2[i].f0]) y (by omega) (by omega) (by simp; omega) (by omega))
      simp only [spec_FreeNodes.l0]; rw [if_pos (by omega), if_pos (by omega), hr, if_pos c, if_pos (by omega), wnat i _ hlt (by omega)]
    · have cb : gonB a l2[i] = false := by simp [gonB, c]
      rw [List.filter_cons_of_neg (p := gonB a) (by simp [cb]), List.filter_cons_of_pos (p := fun g => !gonB a g) (by simp [cb]), List.append_cons]
      refine Ev.go (fun k => ?_) (ih (i + 1) x (y ++ [l2[i]]) (by omega) (by omega) (by omega) (by simp; omega))
      simp only [spec_FreeNodes.l0]; rw [if_pos (by omega), if_pos (by omega), hr, if_neg c, if_pos (by omega), wnat i _ hlt (by omega)]
theorem free_spec (a : Int) (l1 : List Int) (l2 : List S57) (h1 : l1.length ≤ 1048577) (h2 : l2.length ≤ 1048577) : Ev (fun k => spec_FreeNodes.f k a l1 l2) (freeF a l1 l2) := by
  have hs := spec_ok a l1 l2 (by omega) (by omega)
  have cs := copy_spec a l1 l2 (by omega) (by omega)
  refine Ev.eq (fun k => by simp only [spec_FreeNodes.f, cs, Option.bind_some]; rfl) ?_
  refine Ev.then_ hs ?_
  by_cases c : okEp a l1 l2 = true
  · rw [show freeF a l1 l2 = (a, l1, l2.filter (fun g => !gonB a g), (l2.filter (gonB a)).map S57.f0) from if_pos c]
    exact Ev.eq (fun k => if_pos c) (free_spec_l a l1 l2 a l1 h2 l2.length 0 [] [] (by omega) (by omega) (by simp) (by simp))
  · rw [show freeF a l1 l2 = (a, l1, l2, []) from if_neg c]
    exact Ev.eq (fun k => if_neg c) (Ev.now _)
end Go.Proofs.Ytdbhpcekjcohdaa.Q
namespace Go.Proofs.Ytdbhpcekjcohdaa.Q
open Go.RowKit Go.Proofs.YtdbhpcekjcohdaaW.PrintWords Go.Proofs.YtdbhpcekjcohdaaW.PrintLast Go.Proofs.YtdbhpcekjcohdaaW.PrintMore
theorem epnew (n : Int) (h0 : 1 ≤ n) (h1 : n ≤ 4) : spec_EpochsNew.f n = some (2, List.replicate n.toNat 0, []) := by
  simp only [spec_EpochsNew.f]; rw [if_neg (by omega), if_neg (by omega), if_pos (by omega), if_pos (by omega)]
theorem rt_len {B a : Int} {l1 : List Int} {l2 : List S57} (h : Rt B a l1 l2) : l1.length ≤ 4 ∧ l2.length ≤ 40 := by
  obtain ⟨_, _, h4, h5⟩ := (okEp_iff _ _ _).mp h.1
  exact ⟨h4.2, h5⟩
def EpR (B : Int) (l : List Int) (r : Int × List Int × List S57 × Int × Int) : Prop := Rt B r.1 r.2.1 r.2.2.1 ∧ cu l r.2.2.2.1
theorem epochsP_l (l : List Int) (d : Nat) : ∀ (i : Nat) (ci ch a : Int) (l1 : List Int) (l2 : List S57), i ≤ 20 → 20 - i = d → cu l ci → Rt (2 + (i : Int)) a l1 l2 →
    EvP (fun k => spec_l08Epochs.l0 k (i : Int) l ci ch a l1 l2) (EpR 22 l) := by
  induction d with
  | zero =>
    intro i ci ch a l1 l2 hi hd hc hr
    refine EvP.succ ?_
    simp only [spec_l08Epochs.l0]
    refine EvP.bind (belowP l ci ch 20 (by omega) hc) fun x hx => EvP.no (by omega) (EvP.ret ⟨rt_up hr (by omega), hx.2⟩)
  | succ d ih =>
    intro i ci ch a l1 l2 hi hd hc hr
    obtain ⟨n1, n2⟩ := rt_len hr
    refine EvP.succ ?_
    simp only [spec_l08Epochs.l0]
    rw [wnat i 20 (by omega) (by omega)]
    refine EvP.bind (belowP l ci ch 20 (by omega) hc) fun x hx => EvP.ite (fun c => ?_) (fun c => EvP.ret ⟨rt_up hr (by omega), hx.2⟩)
    refine EvP.bind (belowP l _ _ 4 (by omega) hx.2) fun y hy => EvP.bind (belowP l _ _ 5 (by omega) hy.2) fun z hz => ?_
    have go : ∀ (a' : Int) (l1' : List Int) (l2' : List S57) (ci' ch' : Int), cu l ci' → Rt (2 + ((i + 1 : Nat) : Int)) a' l1' l2' → EvP (fun k => spec_l08Epochs.l0 k ((i + 1 : Nat) : Int) l ci' ch' a' l1' l2') (EpR 22 l) :=
      fun a' l1' l2' ci' ch' h1 h2 => ih (i + 1) ci' ch' a' l1' l2' (by omega) (by omega) h1 h2
    refine EvP.ite (fun _ => ?_) (fun _ => EvP.ite (fun _ => ?_) (fun _ => EvP.ite (fun _ => ?_) (fun _ => EvP.ite (fun _ => ?_) (fun _ => ?_))))
    · exact EvP.bind (EvP.ev (P := fun r => Rt (2 + ((i + 1 : Nat) : Int)) r.1 r.2.1 r.2.2.1) (pin_spec a l1 l2 y.1 (by omega) (by omega)) (rt_up (rt_pin y.1 hr) (by omega))) fun r h => go _ _ _ _ _ hz.2 h
    · exact EvP.bind (EvP.ev (P := fun r => Rt (2 + ((i + 1 : Nat) : Int)) r.1 r.2.1 r.2.2.1) (unp_spec a l1 l2 y.1 (by omega) (by omega)) (rt_up (rt_unp y.1 hr) (by omega))) fun r h => go _ _ _ _ _ hz.2 h
    · refine EvP.bind (belowP l _ _ 9 (by omega) hz.2) fun u hu => ?_
      exact EvP.bind (EvP.ev (P := fun r => Rt (2 + ((i + 1 : Nat) : Int)) r.1 r.2.1 r.2.2.1) (ret_spec a l1 l2 _ (by omega) (by omega)) (rt_up (rt_ret _ hr) (by omega))) fun r h => go _ _ _ _ _ hu.2 h
    · exact EvP.bind (EvP.ev (P := fun r => Rt (2 + ((i + 1 : Nat) : Int)) r.1 r.2.1 r.2.2.1) (adv_spec a l1 l2 (by omega) (by omega)) (rt_up (rt_adv hr (by omega)) (by omega))) fun r h => go _ _ _ _ _ hz.2 h
    · exact EvP.bind (EvP.ev (P := fun r => Rt (2 + ((i + 1 : Nat) : Int)) r.1 r.2.1 r.2.2.1) (free_spec a l1 l2 (by omega) (by omega)) (rt_up (rt_free hr) (by omega))) fun r h => go _ _ _ _ _ hz.2 h
theorem epochsP (l : List Int) (ci ch : Int) (hc : cu l ci) : EvP (fun k => spec_l08Epochs.f k l ci ch) (EpR 22 l) := by
  simp only [spec_l08Epochs.f]
  refine EvP.bind (belowP l ci ch 4 (by omega) hc) fun x hx => ?_
  rw [w64 (n := 1 + x.1) (by omega) (by omega)]
  refine EvP.bind (EvP.const (P := fun r => Rt (2 + ((0 : Nat) : Int)) r.1 r.2.1 r.2.2) (epnew (1 + x.1) (by omega) (by omega)) ?_) fun r hr => epochsP_l l 20 0 _ _ _ _ _ (by omega) (by omega) hx.2 hr
  exact ⟨(okEp_iff _ _ _).mpr ⟨⟨fun p hp => .inl (List.eq_of_mem_replicate hp), fun g hg => absurd hg (by simp)⟩, by omega, by simp; omega, by simp⟩, by dsimp only; omega⟩
end Go.Proofs.Ytdbhpcekjcohdaa.Q
namespace Go.Proofs.Ytdbhpcekjcohdaa.Q
open Go.RowKit Go.Proofs.YtdbhpcekjcohdaaW.PrintWords Go.Proofs.YtdbhpcekjcohdaaW.PrintLast Go.Proofs.YtdbhpcekjcohdaaW.PrintMore
theorem onceP (l : List Int) (i h n : Int) (hn : 1 ≤ n) (hc : cu l i) : EvP (fun _ => spec_l01Once.f l i h n) (fun r => cu l r.2.1) := by
  simp only [spec_l01Once.f]
  exact EvP.bind (belowP l i h n hn hc) fun r hr => EvP.ret hr.2
theorem pickIntP (l : List Int) (i h : Int) (xs : List Int) (hn : 1 ≤ xs.length) (hc : cu l i) : EvP (fun _ => spec_l01PickInt.f l i h xs) (fun r => r.1 ∈ xs ∧ cu l r.2.1) := by
  simp only [spec_l01PickInt.f]
  refine EvP.bind (belowP l i h xs.length (by omega) hc) fun r hr => EvP.yes (by omega) (EvP.yes (by omega) (EvP.ret ⟨?_, hr.2⟩))
  have hlt : r.1.toNat < xs.length := by omega
  simp [rd, List.getD_eq_getElem?_getD, List.getElem?_eq_getElem hlt]
theorem placeP (l : List Int) (i h n : Int) (hn : 1 ≤ n) (hc : cu l i) : EvP (fun _ => spec_l01Place.f l i h n) (fun r => cu l r.2.1) := by
  simp only [spec_l01Place.f]
  refine EvP.bind (onceP l i h 15 (by omega) hc) fun r hr => EvP.ite (fun _ => ?_) (fun _ => ?_)
  · exact EvP.bind (pickIntP l _ _ _ (by simp) hr) fun s hs => EvP.ret hs.2
  · exact EvP.bind (belowP l _ _ n hn hr) fun s hs => EvP.ret hs.2
end Go.Proofs.Ytdbhpcekjcohdaa.Q
namespace Go.Proofs.Ytdbhpcekjcohdaa.Q
open Go.RowKit Go.Proofs.YtdbhpcekjcohdaaW.PrintWords Go.Proofs.YtdbhpcekjcohdaaW.PrintLast Go.Proofs.YtdbhpcekjcohdaaW.PrintMore
theorem unp_impl (a : Int) (l1 : List Int) (l2 : List S57) (who : Int) (h1 : l1.length ≤ 1048576) (h2 : l2.length ≤ 1048576) : Ev (fun k => impl_UnpinLook.f k a l1 l2 who) (unpF a l1 l2 who) := by
  have hs := impl_ok a l1 l2 (by omega) (by omega)
  have cs := copy_impl a l1 l2 (by omega) (by omega)
  have hw : wrap64 ((l1.length : Int) - 1) = (l1.length : Int) - 1 := w64 (by omega) (by omega)
  refine Ev.eq (fun k => by simp only [impl_UnpinLook.f, impl_isPlace.f, cs, in_impl, hw, Option.bind_some]; rfl) ?_
  refine Ev.then_ hs ?_
  by_cases c1 : okEp a l1 l2 = true
  · refine Ev.eq (fun k => if_pos c1) ?_
    by_cases c2 : 0 ≤ who ∧ who ≤ (l1.length : Int) - 1
    · by_cases c0 : rd l1 who = 0
      · rw [show unpF a l1 l2 who = (a, l1, l2, false) from if_neg (fun h => h.2 c0)]
        exact Ev.eq (fun k => by rw [if_pos (by simpa using c2), if_pos (by omega), if_pos (by omega), if_pos c0]) (Ev.now _)
      · rw [show unpF a l1 l2 who = (a, l1.set who.toNat 0, l2, true) from if_pos ⟨⟨c1, c2⟩, c0⟩]
        exact Ev.eq (fun k => by rw [if_pos (by simpa using c2), if_pos (by omega), if_pos (by omega), if_neg c0, if_pos (by omega)]) (Ev.now _)
    · rw [show unpF a l1 l2 who = (a, l1, l2, false) from if_neg (fun h => c2 h.1.2)]
      exact Ev.eq (fun k => if_neg (by simpa using c2)) (Ev.now _)
  · rw [show unpF a l1 l2 who = (a, l1, l2, false) from if_neg (fun h => c1 h.1.1)]
    exact Ev.eq (fun k => if_neg c1) (Ev.now _)
end Go.Proofs.Ytdbhpcekjcohdaa.Q
namespace Go.Proofs.Ytdbhpcekjcohdaa.Q
open Go.RowKit Go.Proofs.YtdbhpcekjcohdaaW.PrintWords Go.Proofs.YtdbhpcekjcohdaaW.PrintLast Go.Proofs.YtdbhpcekjcohdaaW.PrintMore
theorem pin_impl (a : Int) (l1 : List Int) (l2 : List S57) (who : Int) (h1 : l1.length ≤ 1048576) (h2 : l2.length ≤ 1048576) : Ev (fun k => impl_PinLook.f k a l1 l2 who) (pinF a l1 l2 who) := by
  have hs := impl_ok a l1 l2 (by omega) (by omega)
  have cs := copy_impl a l1 l2 (by omega) (by omega)
  simp only [impl_PinLook.f, impl_isPlace.f, cs, in_impl, Option.bind_some]
  rw [w64 (n := (l1.length : Int) - 1) (by omega) (by omega)]
  refine Ev.bind hs ?_
  by_cases c1 : okEp a l1 l2 = true
  · refine Ev.yes c1 ?_
    by_cases c2 : 0 ≤ who ∧ who ≤ (l1.length : Int) - 1
    · refine Ev.yes (by simpa using c2) (Ev.yes (by omega) (Ev.yes (by omega) ?_))
      by_cases c0 : rd l1 who = 0
      · rw [show pinF a l1 l2 who = (a, l1.set who.toNat (wrap64 (a + 1)), l2, true) from if_pos ⟨⟨c1, c2⟩, c0⟩]
        exact Ev.yes c0 (Ev.yes (by omega) (Ev.now _))
      · rw [show pinF a l1 l2 who = (a, l1, l2, false) from if_neg (fun h => c0 h.2)]
        exact Ev.no c0 (Ev.now _)
    · rw [show pinF a l1 l2 who = (a, l1, l2, false) from if_neg (fun h => c2 h.1.2)]
      exact Ev.no (by simpa using c2) (Ev.now _)
  · rw [show pinF a l1 l2 who = (a, l1, l2, false) from if_neg (fun h => c1 h.1.1)]
    exact Ev.no c1 (Ev.now _)
end Go.Proofs.Ytdbhpcekjcohdaa.Q
namespace Go.Proofs.Ytdbhpcekjcohdaa.Q
open Go.RowKit Go.Proofs.YtdbhpcekjcohdaaW.PrintWords Go.Proofs.YtdbhpcekjcohdaaW.PrintLast Go.Proofs.YtdbhpcekjcohdaaW.PrintMore
theorem ret_impl (a : Int) (l1 : List Int) (l2 : List S57) (node : Int) (h1 : l1.length ≤ 1048576) (h2 : l2.length ≤ 1048576) : Ev (fun k => impl_RetireNode.f k a l1 l2 node) (retF a l1 l2 node) := by
  have hs := impl_ok a l1 l2 (by omega) (by omega)
  have cs := copy_impl a l1 l2 (by omega) (by omega)
  simp only [impl_RetireNode.f, impl_RetireNode_1.f, cs, in_impl, Option.bind_some]
  refine Ev.bind hs ?_
  by_cases c1 : okEp a l1 l2 = true
  · refine Ev.yes c1 ?_
    by_cases c2 : 1 ≤ node ∧ node ≤ 20
    · refine Ev.yes (by simpa using c2) ?_
      by_cases c3 : (l2.any fun g => g.f0 == node) = true
      · rw [show retF a l1 l2 node = (a, l1, l2, false) from if_neg (fun h => by
          obtain ⟨g, hg, hn⟩ := List.any_eq_true.mp c3
          exact h.2.2 g hg (by simpa using hn))]
        exact Ev.yes c3 (Ev.now _)
      · refine Ev.no c3 ?_
        by_cases c4 : l2.length = 40
        · rw [show retF a l1 l2 node = (a, l1, l2, false) from if_neg (fun h => h.2.1 c4)]
          exact Ev.yes (by omega) (Ev.now _)
        · rw [show retF a l1 l2 node = (a, l1, l2 ++ [⟨node, a⟩], true) from if_pos ⟨⟨c1, c2⟩, c4, fun g hg hn => c3 (List.any_eq_true.mpr ⟨g, hg, by simpa using hn⟩)⟩]
          exact Ev.no (by omega) (Ev.yes (by omega) (Ev.now _))
    · rw [show retF a l1 l2 node = (a, l1, l2, false) from if_neg (fun h => c2 h.1.2)]
      exact Ev.no (by simpa using c2) (Ev.now _)
  · rw [show retF a l1 l2 node = (a, l1, l2, false) from if_neg (fun h => c1 h.1.1)]
    exact Ev.no c1 (Ev.now _)
end Go.Proofs.Ytdbhpcekjcohdaa.Q
namespace Go.Proofs.Ytdbhpcekjcohdaa.Q
open Go.RowKit Go.Proofs.YtdbhpcekjcohdaaW.PrintWords Go.Proofs.YtdbhpcekjcohdaaW.PrintLast Go.Proofs.YtdbhpcekjcohdaaW.PrintMore
theorem index_l (l : List Int) (a : Int) (hl : l.length ≤ 9223372036854775807) (d : Nat) : ∀ i : Nat, i ≤ l.length → l.length - i = d → ∃ r : Int, Ev (fun k => slices_Index_int_int.l0 k l a (l.length : Int) (i : Int)) r ∧ (r ≥ 0 ↔ a ∈ l.drop i) := by
  induction d with
  | zero =>
    intro i hi hd
    refine ⟨-1, Ev.at1 fun k => by simp only [slices_Index_int_int.l0]; rw [if_neg (by omega)], ?_⟩
    rw [List.drop_eq_nil_of_le (by omega)]; simp
  | succ d ih =>
    intro i hi hd
    have hlt : i < l.length := by omega
    rw [drop_get l i hlt]
    by_cases c : a = l[i]
    · refine ⟨(i : Int), Ev.at1 fun k => ?_, ⟨fun _ => List.mem_cons.mpr (.inl c), fun _ => by omega⟩⟩
      simp only [slices_Index_int_int.l0]
      rw [if_pos (by omega), if_pos (by omega), if_pos (by omega), rd_get l i hlt, if_pos c]
    · obtain ⟨r, hr, h⟩ := ih (i + 1) (by omega) (by omega)
      refine ⟨r, Ev.go (fun k => ?_) hr, by rw [h, List.mem_cons]; exact ⟨.inr, fun h => h.resolve_left c⟩⟩
      simp only [slices_Index_int_int.l0]
      rw [if_pos (by omega), if_pos (by omega), if_pos (by omega), rd_get l i hlt, if_neg c, wnat i _ hlt hl]
theorem contains_int (l : List Int) (a : Int) (hl : l.length ≤ 9223372036854775807) : Ev (fun k => slices_Contains_int_int.f k l a) (decide (a ∈ l)) := by
  obtain ⟨r, hr, h⟩ := index_l l a hl l.length 0 (by omega) (by omega)
  refine Ev.then_ (f := fun k t => some (decide (t ≥ 0))) (Ev.eq (fun k => rfl) hr) (Ev.eq (fun k => ?_) (Ev.now _))
  rw [List.drop_zero] at h
  simp only [h]
end Go.Proofs.Ytdbhpcekjcohdaa.Q
namespace Go.Proofs.Ytdbhpcekjcohdaa.Q
open Go.RowKit Go.Proofs.YtdbhpcekjcohdaaW.PrintWords Go.Proofs.YtdbhpcekjcohdaaW.PrintLast Go.Proofs.YtdbhpcekjcohdaaW.PrintMore
theorem adv_impl (a : Int) (l1 : List Int) (l2 : List S57) (h1 : l1.length ≤ 1048576) (h2 : l2.length ≤ 1048576) : Ev (fun k => impl_AdvanceEpoch.f k a l1 l2) (advF a l1 l2) := by
  have hi := impl_ok a l1 l2 (by omega) (by omega)
  have ci := copy_impl a l1 l2 (by omega) (by omega)
  have hc := contains_int l1 a (by omega)
  refine Ev.eq (fun k => by simp only [impl_AdvanceEpoch.f, ci, Option.bind_some]; rfl) ?_
  refine Ev.then_ hi ?_
  by_cases c : okEp a l1 l2 = true
  · refine Ev.eq (fun k => if_pos c) ?_
    by_cases c0 : a = 1000000000
    · rw [show advF a l1 l2 = (a, l1, l2, false) from if_neg (fun h => h.1.2 c0)]
      exact Ev.eq (fun k => if_pos c0) (Ev.now _)
    · refine Ev.eq (fun k => if_neg c0) (Ev.then_ hc ?_)
      by_cases c1 : a ∈ l1
      · rw [show advF a l1 l2 = (a, l1, l2, false) from if_neg (fun h => h.2 c1)]; exact Ev.eq (fun k => if_pos (by simp [c1])) (Ev.now _)
      · rw [show advF a l1 l2 = (wrap64 (a + 1), l1, l2, true) from if_pos ⟨⟨c, c0⟩, c1⟩]; exact Ev.eq (fun k => if_neg (by simp [c1])) (Ev.now _)
  · rw [show advF a l1 l2 = (a, l1, l2, false) from if_neg (fun h => c h.1.1)]
    exact Ev.eq (fun k => if_neg c) (Ev.now _)
end Go.Proofs.Ytdbhpcekjcohdaa.Q
namespace Go.Proofs.Ytdbhpcekjcohdaa.Q
open Go.RowKit Go.Proofs.YtdbhpcekjcohdaaW.PrintWords Go.Proofs.YtdbhpcekjcohdaaW.PrintLast Go.Proofs.YtdbhpcekjcohdaaW.PrintMore
theorem free_impl_l (a : Int) (l1 : List Int) (l2 : List S57) (b0 : Int) (b1 : List Int) (hl : l2.length ≤ 1048577) (d : Nat) : ∀ (i : Nat) (x : List Int) (y : List S57), i ≤ l2.length → l2.length - i = d → x.length ≤ i → y.length ≤ i →
    Ev (fun k => impl_FreeNodes.l0 k x l2 (l2.length : Int) (i : Int) a l1 l2 b0 b1 y) (b0, b1, y ++ (l2.drop i).filter (fun g => !gonB a g), x ++ ((l2.drop i).filter (gonB a)).map S57.f0) := by
  induction d with
  | zero =>
    intro i x y hi hd hx hy
    rw [List.drop_eq_nil_of_le (by omega)]
    exact Ev.at1 fun k => by simp only [impl_FreeNodes.l0]; rw [if_neg (by omega)]; simp
  | succ d ih =>
    intro i x y hi hd hx hy
    have hlt : i < l2.length := by omega
    have hr := rdG_get l2 i hlt
    rw [drop_get l2 i hlt]
    by_cases c : l2[i].f1 ≤ wrap64 (a - 2)
    · have cb : gonB a l2[i] = true := by simp [gonB, c]
      rw [List.filter_cons_of_pos (p := gonB a) cb, List.filter_cons_of_neg (p := fun g => !gonB a g) (by simp [cb]), List.map_cons, List.append_cons]
      refine Ev.go (fun k => ?_) (ih (i + 1) (x ++ [l2[i].f0]) y (by omega) (by omega) (by simp; omega) (by omega))
      simp only [impl_FreeNodes.l0]; rw [if_pos (by omega), if_pos (by omega), if_pos (by omega), hr, if_pos c, if_pos (by omega), wnat i _ hlt (by omega)]
    · have cb : gonB a l2[i] = false := by simp [gonB, c]
      rw [List.filter_cons_of_neg (p := gonB a) (by simp [cb]), List.filter_cons_of_pos (p := fun g => !gonB a g) (by simp [cb]), List.append_cons]
      refine Ev.go (fun k => ?_) (ih (i + 1) x (y ++ [l2[i]]) (by omega) (by omega) (by omega) (by simp; omega))
      simp only [impl_FreeNodes.l0]; rw [if_pos (by omega), if_pos (by omega), if_pos (by omega), hr, if_neg c, if_pos (by omega), wnat i _ hlt (by omega)]
theorem free_impl (a : Int) (l1 : List Int) (l2 : List S57) (h1 : l1.length ≤ 1048577) (h2 : l2.length ≤ 1048577) : Ev (fun k => impl_FreeNodes.f k a l1 l2) (freeF a l1 l2) := by
  have hs := impl_ok a l1 l2 (by omega) (by omega)
  have cs := copy_impl a l1 l2 (by omega) (by omega)
  refine Ev.eq (fun k => by simp only [impl_FreeNodes.f, cs, Option.bind_some]; rfl) ?_
  refine Ev.then_ hs ?_
  by_cases c : okEp a l1 l2 = true
  · rw [show freeF a l1 l2 = (a, l1, l2.filter (fun g => !gonB a g), (l2.filter (gonB a)).map S57.f0) from if_pos c]
    exact Ev.eq (fun k => if_pos c) (free_impl_l a l1 l2 a l1 h2 l2.length 0 [] [] (by omega) (by omega) (by simp) (by simp))
  · rw [show freeF a l1 l2 = (a, l1, l2, []) from if_neg c]
    exact Ev.eq (fun k => if_neg c) (Ev.now _)
end Go.Proofs.Ytdbhpcekjcohdaa.Q
namespace Go.Proofs.Ytdbhpcekjcohdaa.Q
open Go.RowKit Go.Proofs.YtdbhpcekjcohdaaW.PrintWords Go.Proofs.YtdbhpcekjcohdaaW.PrintLast Go.Proofs.YtdbhpcekjcohdaaW.PrintMore
def EpS (l : List Int) (r : Int × List Int × List S57 × Int × Int) : Prop := (r.2.1.length ≤ 4 ∧ r.2.2.1.length ≤ 41) ∧ cu l r.2.2.2.1
theorem anyP (l : List Int) (ci ch : Int) (hc : cu l ci) : EvP (fun k => spec_l08Any.f k l ci ch) (EpS l) := by
  simp only [spec_l08Any.f]
  refine EvP.bind (belowP l ci ch 14 (by omega) hc) fun z hz => EvP.bind (belowP l _ _ 60 (by omega) hz.2) fun x hx => EvP.bind (epochsP l _ _ hx.2) fun e he => ?_
  obtain ⟨n1, n2⟩ := rt_len he.1
  obtain ⟨_, _, h4, h5⟩ := (okEp_iff _ _ _).mp he.1.1
  refine EvP.bind (EvP.const (P := fun c => c.2.1.length = e.2.1.length ∧ c.2.2.length = e.2.2.1.length) (copy_spec e.1 e.2.1 e.2.2.1 (by omega) (by omega)) ⟨rfl, rfl⟩) fun c hcc => ?_
  have t0 := hx.1.1
  have t4 : Int.tmod x.1 4 = x.1 % 4 := Int.tmod_eq_emod_of_nonneg t0
  refine EvP.ite (fun _ => EvP.bind (EvP.ret (P := fun y => y.length = 4) rfl) fun y hy => EvP.yes (by omega) (EvP.yes (by omega) (EvP.ret ⟨⟨?_, ?_⟩, he.2⟩))) (fun _ => EvP.ite (fun _ => EvP.yes (by omega) (EvP.ret ⟨⟨?_, ?_⟩, he.2⟩)) (fun _ => EvP.ite (fun _ => EvP.yes (by omega) (EvP.ret ⟨⟨?_, ?_⟩, he.2⟩)) (fun _ => EvP.ite (fun _ => EvP.yes (by omega) (EvP.ret ⟨⟨?_, ?_⟩, he.2⟩)) (fun _ => EvP.ret ⟨⟨?_, ?_⟩, he.2⟩)))) <;> (try simp) <;> omega
theorem drawPinP (l : List Int) (hl : l.length ≤ 4611686018427387904) : EvP (fun k => spec_DrawPinLook.f k l) (fun r => r.2.1.length ≤ 4 ∧ r.2.2.1.length ≤ 41) := by
  simp only [spec_DrawPinLook.f]
  refine EvP.bind (newP l hl) fun c hc => ?_
  rw [hc.1]
  exact EvP.bind (placeP l _ _ 3 (by omega) hc.2) fun w hw => EvP.bind (anyP l _ _ hw) fun r hr => EvP.ret hr.1
theorem drawRetP (l : List Int) (hl : l.length ≤ 4611686018427387904) : EvP (fun k => spec_DrawRetireNode.f k l) (fun r => r.2.1.length ≤ 4 ∧ r.2.2.1.length ≤ 41) := by
  simp only [spec_DrawRetireNode.f]
  refine EvP.bind (newP l hl) fun c hc => ?_
  rw [hc.1]
  exact EvP.bind (placeP l _ _ 12 (by omega) hc.2) fun w hw => EvP.bind (anyP l _ _ hw) fun r hr => EvP.ret hr.1
theorem same_ints_l (l : List Int) (hl : l.length ≤ 9223372036854775807) (d : Nat) : ∀ i : Nat, i ≤ l.length → l.length - i = d → Ev (fun k => laws_sameInts.l0 k l l (i : Int)) true := by
  induction d with
  | zero => intro i hi hd; refine Ev.succ ?_; simp only [laws_sameInts.l0]; exact Ev.no (by omega) (Ev.now _)
  | succ d ih =>
    intro i hi hd
    refine Ev.succ ?_
    simp only [laws_sameInts.l0]
    rw [wnat i _ (by omega) hl]
    exact Ev.yes (by omega) (Ev.yes (by omega) (Ev.yes (by omega) (Ev.yes trivial (ih (i + 1) (by omega) (by omega)))))
theorem same_ints (l : List Int) (hl : l.length ≤ 9223372036854775807) : Ev (fun k => laws_sameInts.f k l l) true := by
  simp only [laws_sameInts.f]
  exact Ev.yes trivial (same_ints_l l hl l.length 0 (by omega) (by omega))
theorem same_epochs_l (a : Int) (l1 : List Int) (l2 : List S57) (hl : l2.length ≤ 9223372036854775807) (d : Nat) : ∀ i : Nat, i ≤ l2.length → l2.length - i = d → Ev (fun k => laws_sameEpochs.l0 k (i : Int) a l1 l2 a l1 l2) true := by
  induction d with
  | zero => intro i hi hd; refine Ev.succ ?_; simp only [laws_sameEpochs.l0]; exact Ev.no (by omega) (Ev.now _)
  | succ d ih =>
    intro i hi hd
    refine Ev.succ ?_
    simp only [laws_sameEpochs.l0]
    rw [wnat i _ (by omega) hl]
    exact Ev.yes (by omega) (Ev.yes (by omega) (Ev.yes (by omega) (Ev.no (by simp) (ih (i + 1) (by omega) (by omega)))))
theorem same_epochs (a : Int) (l1 : List Int) (l2 : List S57) (h1 : l1.length ≤ 9223372036854775807) (h2 : l2.length ≤ 9223372036854775807) : Ev (fun k => laws_sameEpochs.f k a l1 l2 a l1 l2) true := by
  simp only [laws_sameEpochs.f]
  refine Ev.yes trivial (Ev.bind (same_ints l1 h1) (Ev.yes rfl (Ev.succ ?_)))
  simp only [laws_sameEpochs.j0]
  exact Ev.no (by simp) (same_epochs_l a l1 l2 h2 l2.length 0 (by omega) (by omega))
theorem pinF_len (a : Int) (l1 : List Int) (l2 : List S57) (who : Int) : (pinF a l1 l2 who).2.1.length = l1.length ∧ (pinF a l1 l2 who).2.2.1 = l2 := by unfold pinF; split <;> simp
theorem unpF_len (a : Int) (l1 : List Int) (l2 : List S57) (who : Int) : (unpF a l1 l2 who).2.1.length = l1.length ∧ (unpF a l1 l2 who).2.2.1 = l2 := by unfold unpF; split <;> simp
theorem advF_len (a : Int) (l1 : List Int) (l2 : List S57) : (advF a l1 l2).2.1 = l1 ∧ (advF a l1 l2).2.2.1 = l2 := by unfold advF; split <;> simp
theorem retF_len (a : Int) (l1 : List Int) (l2 : List S57) (n : Int) : (retF a l1 l2 n).2.1 = l1 ∧ (retF a l1 l2 n).2.2.1.length ≤ l2.length + 1 := by unfold retF; split <;> simp
theorem freeF_len (a : Int) (l1 : List Int) (l2 : List S57) : (freeF a l1 l2).2.1 = l1 ∧ (freeF a l1 l2).2.2.1.length ≤ l2.length ∧ (freeF a l1 l2).2.2.2.length ≤ l2.length := by
  unfold freeF; split
  · exact ⟨rfl, List.length_filter_le _ _, by dsimp only; rw [List.length_map]; exact List.length_filter_le _ _⟩
  · exact ⟨rfl, Nat.le_refl _, by simp⟩
theorem pinF_no (a : Int) (l1 : List Int) (l2 : List S57) (who : Int) (h : ¬ (pinF a l1 l2 who).2.2.2 = true) : pinF a l1 l2 who = (a, l1, l2, false) := by
  unfold pinF at h ⊢; split <;> simp_all
theorem pureFnEpochs (l : List Int) (_ : l.length ≤ maxLen) (_ : ∀ x ∈ l, (Lit.int .u8 x).wf = true) : ∃ k, laws_FnEpochs.f k l = some true := by
  by_cases c : (l.length : Int) > 1048576
  · exact ⟨0, by simp only [laws_FnEpochs.f, laws_big.f, Option.bind_some]; rw [if_pos (by simpa using c)]⟩
  · obtain ⟨⟨a, p, g, who⟩, e, n1, n2⟩ := drawPinP l (by omega)
    obtain ⟨⟨b, q, r, node⟩, e2, m1, m2⟩ := drawRetP l (by omega)
    dsimp only at n1 n2 m1 m2
    obtain ⟨u1, u2⟩ := pinF_len a p g who
    obtain ⟨v1, v2⟩ := unpF_len a p g who
    obtain ⟨x1, x2⟩ := advF_len b q r
    obtain ⟨y1, y2⟩ := retF_len b q r node
    obtain ⟨z1, z2, z3⟩ := freeF_len b q r
    have tail : Ev (fun k => (laws_sameEpochs.f k (unpF a p g who).1 (unpF a p g who).2.1 (unpF a p g who).2.2.1 (unpF a p g who).1 (unpF a p g who).2.1 (unpF a p g who).2.2.1).bind fun t => if t = true then (if ((retF b q r node).2.2.2 == (retF b q r node).2.2.2) = true then ((laws_sameEpochs.f k (retF b q r node).1 (retF b q r node).2.1 (retF b q r node).2.2.1 (retF b q r node).1 (retF b q r node).2.1 (retF b q r node).2.2.1).bind fun t => if t = true then (if ((advF b q r).2.2.2 == (advF b q r).2.2.2) = true then ((laws_sameEpochs.f k (advF b q r).1 (advF b q r).2.1 (advF b q r).2.2.1 (advF b q r).1 (advF b q r).2.1 (advF b q r).2.2.1).bind fun t => if t = true then ((laws_sameInts.f k (freeF b q r).2.2.2 (freeF b q r).2.2.2).bind fun t => if t = true then ((laws_sameEpochs.f k (freeF b q r).1 (freeF b q r).2.1 (freeF b q r).2.2.1 (freeF b q r).1 (freeF b q r).2.1 (freeF b q r).2.2.1).bind fun t => if t = true then ((impl_EpochsOk.f k a p g).bind fun t => (spec_EpochsOk.f k a p g).bind fun s => if (t == s) = true then (impl_EpochsNew.f 9).bind fun n => some ((n.2.1.length : Int) == 4) else none) else none) else none) else none) else none) else none) else none) else none) true := by
      refine Ev.bind (same_epochs _ _ _ (by omega) (by rw [v2]; omega)) (Ev.yes rfl (Ev.yes (by simp) (Ev.bind (same_epochs _ _ _ (by rw [y1]; omega) (by omega)) (Ev.yes rfl (Ev.yes (by simp) (Ev.bind (same_epochs _ _ _ (by rw [x1]; omega) (by rw [x2]; omega)) (Ev.yes rfl (Ev.bind (same_ints _ (by omega)) (Ev.yes rfl (Ev.bind (same_epochs _ _ _ (by rw [z1]; omega) (by omega)) (Ev.yes rfl ?_)))))))))))
      exact Ev.bind (impl_ok a p g (by omega) (by omega)) (Ev.bind (spec_ok a p g (by omega) (by omega)) (Ev.yes (by simp) (Ev.const rfl)))
    refine Ev.rounds (g := fun k => laws_FnEpochs.f k l) (Ev.eq (fun k => by simp only [laws_FnEpochs.f, laws_big.f, Option.bind_some]; rw [if_neg (by simpa using c)]) ?_)
    refine Ev.bind e (Ev.bind (pin_impl a p g who (by omega) (by omega)) (Ev.bind (pin_spec a p g who (by omega) (by omega)) (Ev.bind (unp_impl a p g who (by omega) (by omega)) (Ev.bind (unp_spec a p g who (by omega) (by omega)) (Ev.bind e2 (Ev.bind (ret_impl b q r node (by omega) (by omega)) (Ev.bind (ret_spec b q r node (by omega) (by omega)) (Ev.bind (adv_impl b q r (by omega) (by omega)) (Ev.bind (adv_spec b q r (by omega) (by omega)) (Ev.bind (free_impl b q r (by omega) (by omega)) (Ev.bind (free_spec b q r (by omega) (by omega)) (Ev.yes (by simp) (Ev.bind (same_epochs _ _ _ (by omega) (by rw [u2]; omega)) (Ev.yes rfl ?_))))))))))))))
    by_cases ck : (pinF a p g who).2.2.2 = true
    · exact Ev.yes ck (Ev.yes (by simp) tail)
    · refine Ev.no ck ?_
      rw [pinF_no a p g who ck]
      exact Ev.bind (same_epochs _ _ _ (by dsimp only; omega) (by dsimp only; omega)) (Ev.yes rfl (Ev.yes (by simp) tail))
end Go.Proofs.Ytdbhpcekjcohdaa.Q
