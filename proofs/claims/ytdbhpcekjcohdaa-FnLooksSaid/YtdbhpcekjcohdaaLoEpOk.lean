import Derived.Test.YtdbhpcekjcohdaaLoG48
namespace Go.Proofs.Ytdbhpcekjcohdaa.Q
open Go.RowKit Go.Proofs.YtdbhpcekjcohdaaW.PrintWords Go.Proofs.YtdbhpcekjcohdaaW.PrintLast Go.Proofs.YtdbhpcekjcohdaaW.PrintMore
theorem w64 {n : Int} (h0 : -9223372036854775808 ≤ n) (h1 : n < 9223372036854775808) : wrap64 n = n := by unfold wrap64; omega
theorem wnat (i n : Nat) (h : i < n) (hn : n ≤ 9223372036854775807) : wrap64 ((i : Int) + 1) = ((i + 1 : Nat) : Int) := by rw [w64 (by omega) (by omega)]; rfl
theorem Ev.go {α : Type} {g f : Nat → Option α} {r : α} (h : ∀ k, g (k + 1) = f k) (k : Ev f r) : Ev g r := Ev.step h k
theorem Ev.at1 {α : Type} {g : Nat → Option α} {r : α} (h : ∀ k, g (k + 1) = some r) : Ev g r := ⟨1, fun k hk => by obtain ⟨m, rfl⟩ : ∃ m, k = m + 1 := ⟨k - 1, by omega⟩; exact h m⟩
theorem Ev.then_ {α β : Type} {g : Nat → Option α} {f : Nat → α → Option β} {a : α} {r : β} (h : Ev g a) (k : Ev (fun n => f n a) r) : Ev (fun n => (g n).bind (f n)) r := Ev.bind h k
theorem Ev.eq {α : Type} {g f : Nat → Option α} {r : α} (h : ∀ k, g k = f k) (k : Ev f r) : Ev g r := Ev.congr h k
theorem rd_get (l : List Int) (i : Nat) (h : i < l.length) : rd l i = l[i] := by simp [rd, h]
theorem drop_get {α : Type} (l : List α) (i : Nat) (h : i < l.length) : l.drop i = l[i] :: l.drop (i + 1) := List.drop_eq_getElem_cons h
theorem rdG_get (l : List S57) (i : Nat) (h : i < l.length) : rd_T57 l i = l[i] := by simp [rd_T57, h]
def okPin (now p : Int) : Bool := p == 0 || p == now || p == wrap64 (now + 1)
def okGone (now : Int) (g : S57) : Bool := decide (1 ≤ g.f0 ∧ g.f0 ≤ 20) && decide (0 ≤ g.f1 ∧ g.f1 ≤ now)
def okEp (now : Int) (pins : List Int) (gone : List S57) : Bool :=
  (pins.all (okPin now) && gone.all (okGone now)) && (decide (2 ≤ now ∧ now ≤ 1000000000) && (decide (1 ≤ pins.length ∧ pins.length ≤ 4) && decide (gone.length ≤ 40)))
theorem in_spec (a b c : Int) : spec_l01In.f a b c = some (decide (b ≤ a ∧ a ≤ c)) := by
  unfold spec_l01In.f
  by_cases h : a ≥ b
  · rw [if_pos h]; simp [show b ≤ a from h]
  · rw [if_neg h]; simp [show ¬ b ≤ a from h]
theorem in_impl (a b c : Int) : impl_within.f a b c = some (decide (b ≤ a ∧ a ≤ c)) := by
  unfold impl_within.f
  by_cases h : a ≥ b
  · rw [if_pos h]; simp [show b ≤ a from h]
  · rw [if_neg h]; simp [show ¬ b ≤ a from h]
theorem spec_gone (now : Int) (pins : List Int) (gone : List S57) (hg : gone.length ≤ 9223372036854775807) (d : Nat) : ∀ i : Nat, i ≤ gone.length → gone.length - i = d →
    Ev (fun k => spec_EpochsOk.l1 k (i : Int) now pins gone) ((gone.drop i).all (okGone now)) := by
  induction d with
  | zero =>
    intro i hi hd
    refine Ev.at1 fun k => ?_
    simp only [spec_EpochsOk.l1]
    rw [if_neg (by omega), List.drop_eq_nil_of_le (by omega)]; rfl
  | succ d ih =>
    intro i hi hd
    have hlt : i < gone.length := by omega
    have hr := rdG_get gone i hlt
    rw [drop_get gone i hlt, List.all_cons]
    by_cases c : okGone now gone[i] = true
    · rw [c, Bool.true_and]
      refine Ev.go (fun k => ?_) (ih (i + 1) (by omega) (by omega))
      have c' := c
      simp only [okGone, Bool.and_eq_true] at c'
      simp only [spec_EpochsOk.l1]
      rw [if_pos (by omega), if_pos (by omega), hr, in_spec, in_spec]
      simp only [Option.bind_some]
      rw [if_pos c'.1, if_pos c'.2, wnat i _ hlt hg]
    · rw [Bool.eq_false_iff.mpr c, Bool.false_and]
      refine Ev.at1 fun k => ?_
      simp only [okGone, Bool.and_eq_true, not_and] at c
      simp only [spec_EpochsOk.l1]
      rw [if_pos (by omega), if_pos (by omega), hr, in_spec, in_spec]
      simp only [Option.bind_some]
      by_cases c1 : decide (1 ≤ gone[i].f0 ∧ gone[i].f0 ≤ 20) = true
      · rw [if_pos c1, if_neg (c c1)]
      · rw [if_neg c1]
theorem spec_pins (now : Int) (pins : List Int) (gone : List S57) (hp : pins.length ≤ 9223372036854775807) (hg : gone.length ≤ 9223372036854775807) (d : Nat) : ∀ i : Nat, i ≤ pins.length → pins.length - i = d →
    Ev (fun k => spec_EpochsOk.l0 k (i : Int) now pins gone) ((pins.drop i).all (okPin now) && gone.all (okGone now)) := by
  induction d with
  | zero =>
    intro i hi hd
    rw [List.drop_eq_nil_of_le (by omega)]
    refine Ev.go (fun k => ?_) (spec_gone now pins gone hg gone.length 0 (by omega) (by omega))
    simp only [spec_EpochsOk.l0]
    rw [if_neg (by omega)]; rfl
  | succ d ih =>
    intro i hi hd
    have hlt : i < pins.length := by omega
    have hr := rd_get pins i hlt
    rw [drop_get pins i hlt, List.all_cons]
    by_cases c : okPin now pins[i] = true
    · rw [c, Bool.true_and]
      refine Ev.go (fun k => ?_) (ih (i + 1) (by omega) (by omega))
      simp only [okPin, Bool.or_eq_true, beq_iff_eq] at c
      simp only [spec_EpochsOk.l0]
      rw [if_pos (by omega), if_pos (by omega), hr, wnat i _ hlt hp]
      rcases c with (c | c) | c
      · rw [if_pos c]
      · by_cases c0 : pins[i] = 0
        · rw [if_pos c0]
        · rw [if_neg c0, if_pos c]
      · by_cases c0 : pins[i] = 0
        · rw [if_pos c0]
        · rw [if_neg c0]
          by_cases c1 : pins[i] = now
          · rw [if_pos c1]
          · rw [if_neg c1, if_pos c]
    · rw [Bool.eq_false_iff.mpr c, Bool.false_and]
      refine Ev.at1 fun k => ?_
      simp only [okPin, Bool.or_eq_true, beq_iff_eq, not_or] at c
      simp only [spec_EpochsOk.l0]
      rw [if_pos (by omega), if_pos (by omega), hr, if_neg c.1.1, if_neg c.1.2, if_neg c.2, Bool.false_and]
theorem spec_ok (now : Int) (pins : List Int) (gone : List S57) (hp : pins.length ≤ 9223372036854775807) (hg : gone.length ≤ 9223372036854775807) : Ev (fun k => spec_EpochsOk.f k now pins gone) (okEp now pins gone) := by
  have go : ∀ b : Bool, Ev (fun k => spec_EpochsOk.j0 k b now pins gone) (!b && (pins.all (okPin now) && gone.all (okGone now))) := by
    intro b
    cases b with
    | true => exact Ev.at1 fun k => by simp [spec_EpochsOk.j0]
    | false => exact Ev.go (fun k => by simp [spec_EpochsOk.j0]) (spec_pins now pins gone hp hg pins.length 0 (by omega) (by omega))
  unfold spec_EpochsOk.f okEp
  simp only [in_spec, Option.bind_some]
  by_cases c1 : (2 ≤ now ∧ now ≤ 1000000000)
  · by_cases c2 : (1 ≤ (pins.length : Int) ∧ (pins.length : Int) ≤ 4)
    · have c2' : (1 ≤ pins.length ∧ pins.length ≤ 4) := by omega
      simp only [c1, c2, c2', and_self, decide_true, if_true, Bool.true_and]
      by_cases c3 : gone.length ≤ 40
      · have := go (decide ((gone.length : Int) > 40))
        simpa [c3, show ¬ (gone.length : Int) > 40 by omega] using this
      · have := go (decide ((gone.length : Int) > 40))
        simpa [c3, show (gone.length : Int) > 40 by omega] using this
    · have c2' : ¬ (1 ≤ pins.length ∧ pins.length ≤ 4) := by omega
      simpa [c1, c2, c2'] using go true
  · simpa [c1] using go true
theorem impl_gone (now : Int) (pins : List Int) (gone : List S57) (hg : gone.length ≤ 9223372036854775807) (d : Nat) : ∀ i : Nat, i ≤ gone.length → gone.length - i = d →
    Ev (fun k => impl_EpochsOk.l1 k gone (gone.length : Int) (i : Int) now pins gone) ((gone.drop i).all (okGone now) && (decide (2 ≤ now ∧ now ≤ 1000000000) && (decide (1 ≤ pins.length ∧ pins.length ≤ 4) && decide (gone.length ≤ 40)))) := by
  induction d with
  | zero =>
    intro i hi hd
    refine Ev.at1 fun k => ?_
    simp only [impl_EpochsOk.l1]
    rw [if_neg (by omega), List.drop_eq_nil_of_le (by omega)]
    simp only [in_impl, Option.bind_some, List.all_nil, Bool.true_and]
    by_cases c1 : (2 ≤ now ∧ now ≤ 1000000000)
    · by_cases c2 : (1 ≤ (pins.length : Int) ∧ (pins.length : Int) ≤ 4)
      · have c2' : (1 ≤ pins.length ∧ pins.length ≤ 4) := by omega
        have e : ((gone.length : Int) ≤ 40) = (gone.length ≤ 40) := by apply propext; omega
        simp [c1, c2, c2', e]
      · have c2' : ¬ (1 ≤ pins.length ∧ pins.length ≤ 4) := by omega
        simp [c1, c2, c2']
    · simp [c1]
  | succ d ih =>
    intro i hi hd
    have hlt : i < gone.length := by omega
    have hr := rdG_get gone i hlt
    rw [drop_get gone i hlt, List.all_cons]
    by_cases c : okGone now gone[i] = true
    · rw [c, Bool.true_and]
      refine Ev.go (fun k => ?_) (ih (i + 1) (by omega) (by omega))
      have c' := c
      simp only [okGone, Bool.and_eq_true] at c'
      simp only [impl_EpochsOk.l1]
      rw [if_pos (by omega), if_pos (by omega), if_pos (by omega), hr, in_impl, in_impl]
      simp only [Option.bind_some]
      rw [if_pos c'.1, if_pos c'.2, wnat i _ hlt hg]
    · rw [Bool.eq_false_iff.mpr c, Bool.false_and, Bool.false_and]
      refine Ev.at1 fun k => ?_
      simp only [okGone, Bool.and_eq_true, not_and] at c
      simp only [impl_EpochsOk.l1]
      rw [if_pos (by omega), if_pos (by omega), if_pos (by omega), hr, in_impl, in_impl]
      simp only [Option.bind_some]
      by_cases c1 : decide (1 ≤ gone[i].f0 ∧ gone[i].f0 ≤ 20) = true
      · rw [if_pos c1, if_neg (c c1)]
      · rw [if_neg c1]
theorem impl_pins (now : Int) (pins : List Int) (gone : List S57) (hp : pins.length ≤ 9223372036854775807) (hg : gone.length ≤ 9223372036854775807) (d : Nat) : ∀ i : Nat, i ≤ pins.length → pins.length - i = d →
    Ev (fun k => impl_EpochsOk.l0 k pins (pins.length : Int) (i : Int) now pins gone) (((pins.drop i).all (okPin now) && gone.all (okGone now)) && (decide (2 ≤ now ∧ now ≤ 1000000000) && (decide (1 ≤ pins.length ∧ pins.length ≤ 4) && decide (gone.length ≤ 40)))) := by
  induction d with
  | zero =>
    intro i hi hd
    rw [List.drop_eq_nil_of_le (by omega)]
    refine Ev.go (fun k => ?_) (impl_gone now pins gone hg gone.length 0 (by omega) (by omega))
    simp only [impl_EpochsOk.l0]
    rw [if_neg (by omega)]; rfl
  | succ d ih =>
    intro i hi hd
    have hlt : i < pins.length := by omega
    have hr := rd_get pins i hlt
    rw [drop_get pins i hlt, List.all_cons]
    by_cases c : okPin now pins[i] = true
    · rw [c, Bool.true_and]
      refine Ev.go (fun k => ?_) (ih (i + 1) (by omega) (by omega))
      simp only [okPin, Bool.or_eq_true, beq_iff_eq] at c
      simp only [impl_EpochsOk.l0]
      rw [if_pos (by omega), if_pos (by omega), if_pos (by omega), hr, wnat i _ hlt hp]
      rcases c with (c | c) | c
      · rw [if_pos c]
      · by_cases c0 : pins[i] = 0
        · rw [if_pos c0]
        · rw [if_neg c0, if_pos c]
      · by_cases c0 : pins[i] = 0
        · rw [if_pos c0]
        · rw [if_neg c0]
          by_cases c1 : pins[i] = now
          · rw [if_pos c1]
          · rw [if_neg c1, if_pos c]
    · rw [Bool.eq_false_iff.mpr c, Bool.false_and, Bool.false_and, Bool.false_and]
      refine Ev.at1 fun k => ?_
      simp only [okPin, Bool.or_eq_true, beq_iff_eq, not_or] at c
      simp only [impl_EpochsOk.l0]
      rw [if_pos (by omega), if_pos (by omega), if_pos (by omega), hr, if_neg c.1.1, if_neg c.1.2, if_neg c.2]
theorem impl_ok (now : Int) (pins : List Int) (gone : List S57) (hp : pins.length ≤ 9223372036854775807) (hg : gone.length ≤ 9223372036854775807) : Ev (fun k => impl_EpochsOk.f k now pins gone) (okEp now pins gone) :=
  Ev.eq (fun _ => rfl) (impl_pins now pins gone hp hg pins.length 0 (by omega) (by omega))
end Go.Proofs.Ytdbhpcekjcohdaa.Q
