import Derived.Test.YtdbhpcekjcohdaaEpSame
import Derived.Test.YtdbhpcekjcohdaaG22
import Derived.Test.YtdbhpcekjcohdaaG24
import Derived.Test.YtdbhpcekjcohdaaG31
import Derived.Test.YtdbhpcekjcohdaaG26
namespace Go.Proofs.Ytdbhpcekjcohdaa.Q
open Go.RowKit Go.Proofs.YtdbhpcekjcohdaaW.PrintWords Go.Proofs.YtdbhpcekjcohdaaW.PrintLast Go.Proofs.YtdbhpcekjcohdaaW.PrintMore
theorem index_l (l : List Int) (a : Int) (hl : l.length ≤ 9223372036854775807) (d : Nat) : ∀ i : Nat, i ≤ l.length → l.length - i = d → ∃ r : Int, Ev (fun k => slices_Index_int_int.l0 k l a (l.length : Int) (i : Int)) r ∧ (r ≥ 0 ↔ a ∈ l.drop i) := by
  induction d with
  | zero =>
    intro i hi hd
    refine ⟨-1, Ev.at1 fun k => by simp only [slices_Index_int_int.l0]; rw [if_neg (by omega)], ?_⟩
    rw [List.drop_eq_nil_of_le (by omega)]; simp
  | succ d ih =>
    intro i hi hd
    have hlt : i < l.length := by omega
    rw [drop_get l i hlt]
    by_cases c : a = l[i]
    · refine ⟨(i : Int), Ev.at1 fun k => ?_, ⟨fun _ => List.mem_cons.mpr (.inl c), fun _ => by omega⟩⟩
      simp only [slices_Index_int_int.l0]
      rw [if_pos (by omega), if_pos (by omega), if_pos (by omega), rd_get l i hlt, if_pos c]
    · obtain ⟨r, hr, h⟩ := ih (i + 1) (by omega) (by omega)
      refine ⟨r, Ev.go (fun k => ?_) hr, by rw [h, List.mem_cons]; exact ⟨.inr, fun h => h.resolve_left c⟩⟩
      simp only [slices_Index_int_int.l0]
      rw [if_pos (by omega), if_pos (by omega), if_pos (by omega), rd_get l i hlt, if_neg c, wnat i _ hlt hl]
theorem contains_int (l : List Int) (a : Int) (hl : l.length ≤ 9223372036854775807) : Ev (fun k => slices_Contains_int_int.f k l a) (decide (a ∈ l)) := by
  obtain ⟨r, hr, h⟩ := index_l l a hl l.length 0 (by omega) (by omega)
  refine Ev.then_ (f := fun k t => some (decide (t ≥ 0))) (Ev.eq (fun k => rfl) hr) (Ev.eq (fun k => ?_) (Ev.now _))
  rw [List.drop_zero] at h
  simp only [h]
theorem adv_l (a : Int) (l1 : List Int) (l2 : List S57) (b1 : List Int) (b2 : List S57) (b0 : Int) (hl : l1.length ≤ 9223372036854775807) (d : Nat) : ∀ i : Nat, i ≤ l1.length → l1.length - i = d →
    Ev (fun k => spec_AdvanceEpoch.l0 k (i : Int) a l1 l2 b0 b1 b2) (if a ∈ l1.drop i then (b0, b1, b2, false) else (wrap64 (a + 1), b1, b2, true)) := by
  induction d with
  | zero =>
    intro i hi hd
    rw [List.drop_eq_nil_of_le (by omega)]
    exact Ev.at1 fun k => by simp only [spec_AdvanceEpoch.l0]; rw [if_neg (by omega)]; simp
  | succ d ih =>
    intro i hi hd
    have hlt : i < l1.length := by omega
    have hr := rd_get l1 i hlt
    rw [drop_get l1 i hlt]
    by_cases c : l1[i] = a
    · rw [if_pos (List.mem_cons.mpr (.inl c.symm))]
      exact Ev.at1 fun k => by simp only [spec_AdvanceEpoch.l0]; rw [if_pos (by omega), if_pos (by omega), hr, if_pos c]
    · have e : (a ∈ l1[i] :: l1.drop (i + 1)) = (a ∈ l1.drop (i + 1)) := propext ⟨fun h => (List.mem_cons.mp h).resolve_left (fun h => c h.symm), fun h => List.mem_cons.mpr (.inr h)⟩
      simp only [e]
      refine Ev.go (fun k => ?_) (ih (i + 1) (by omega) (by omega))
      simp only [spec_AdvanceEpoch.l0]; rw [if_pos (by omega), if_pos (by omega), hr, if_neg c, wnat i _ hlt hl]
/-! ### what is done with epochs, as plain functions -/
theorem okEp_iff (a : Int) (l1 : List Int) (l2 : List S57) : okEp a l1 l2 = true ↔
    ((∀ p ∈ l1, p = 0 ∨ p = a ∨ p = wrap64 (a + 1)) ∧ (∀ g ∈ l2, (1 ≤ g.f0 ∧ g.f0 ≤ 20) ∧ 0 ≤ g.f1 ∧ g.f1 ≤ a)) ∧ (2 ≤ a ∧ a ≤ 1000000000) ∧ (1 ≤ l1.length ∧ l1.length ≤ 4) ∧ l2.length ≤ 40 := by
  simp only [okEp, Bool.and_eq_true, List.all_eq_true, okPin, okGone, Bool.or_eq_true, beq_iff_eq, decide_eq_true_eq, or_assoc]
def pinF (a : Int) (l1 : List Int) (l2 : List S57) (who : Int) : Int × List Int × List S57 × Bool :=
  if (okEp a l1 l2 = true ∧ (0 ≤ who ∧ who ≤ (l1.length : Int) - 1)) ∧ rd l1 who = 0 then (a, l1.set who.toNat (wrap64 (a + 1)), l2, true) else (a, l1, l2, false)
def unpF (a : Int) (l1 : List Int) (l2 : List S57) (who : Int) : Int × List Int × List S57 × Bool :=
  if (okEp a l1 l2 = true ∧ (0 ≤ who ∧ who ≤ (l1.length : Int) - 1)) ∧ ¬ rd l1 who = 0 then (a, l1.set who.toNat 0, l2, true) else (a, l1, l2, false)
def advF (a : Int) (l1 : List Int) (l2 : List S57) : Int × List Int × List S57 × Bool :=
  if (okEp a l1 l2 = true ∧ ¬ a = 1000000000) ∧ ¬ a ∈ l1 then (wrap64 (a + 1), l1, l2, true) else (a, l1, l2, false)
def gonB (a : Int) (g : S57) : Bool := decide (g.f1 ≤ wrap64 (a - 2))
def freeF (a : Int) (l1 : List Int) (l2 : List S57) : Int × List Int × List S57 × List Int :=
  if okEp a l1 l2 = true then (a, l1, l2.filter (fun g => !gonB a g), (l2.filter (gonB a)).map S57.f0) else (a, l1, l2, [])
def retF (a : Int) (l1 : List Int) (l2 : List S57) (node : Int) : Int × List Int × List S57 × Bool :=
  if (okEp a l1 l2 = true ∧ (1 ≤ node ∧ node ≤ 20)) ∧ ¬ l2.length = 40 ∧ ∀ g ∈ l2, ¬ g.f0 = node then (a, l1, l2 ++ [⟨node, a⟩], true) else (a, l1, l2, false)
/-- Right epochs of at most so high a number stay right. -/
def Rt (B : Int) (a : Int) (l1 : List Int) (l2 : List S57) : Prop := okEp a l1 l2 = true ∧ a ≤ B
theorem rt_up {B C a : Int} {l1 : List Int} {l2 : List S57} (h : Rt B a l1 l2) (hC : B ≤ C) : Rt C a l1 l2 := ⟨h.1, by have := h.2; omega⟩
theorem mem_set {l : List Int} {i : Nat} {v p : Int} (h : p ∈ l.set i v) : p ∈ l ∨ p = v := by
  rcases List.mem_or_eq_of_mem_set h with h | h
  · exact .inl h
  · exact .inr h
theorem rt_pin {B a : Int} {l1 : List Int} {l2 : List S57} (who : Int) (h : Rt B a l1 l2) : Rt B (pinF a l1 l2 who).1 (pinF a l1 l2 who).2.1 (pinF a l1 l2 who).2.2.1 := by
  unfold pinF
  split
  · refine ⟨?_, h.2⟩
    obtain ⟨⟨h1, h2⟩, h3, h4, h5⟩ := (okEp_iff _ _ _).mp h.1
    refine (okEp_iff _ _ _).mpr ⟨⟨fun p hp => ?_, h2⟩, h3, by simpa using h4, h5⟩
    rcases mem_set hp with hp | hp
    · exact h1 p hp
    · exact .inr (.inr hp)
  · exact h
theorem rt_unp {B a : Int} {l1 : List Int} {l2 : List S57} (who : Int) (h : Rt B a l1 l2) : Rt B (unpF a l1 l2 who).1 (unpF a l1 l2 who).2.1 (unpF a l1 l2 who).2.2.1 := by
  unfold unpF
  split
  · refine ⟨?_, h.2⟩
    obtain ⟨⟨h1, h2⟩, h3, h4, h5⟩ := (okEp_iff _ _ _).mp h.1
    refine (okEp_iff _ _ _).mpr ⟨⟨fun p hp => ?_, h2⟩, h3, by simpa using h4, h5⟩
    rcases mem_set hp with hp | hp
    · exact h1 p hp
    · exact .inl hp
  · exact h
theorem rt_adv {B a : Int} {l1 : List Int} {l2 : List S57} (h : Rt B a l1 l2) (hB : B < 1000000000) : Rt (B + 1) (advF a l1 l2).1 (advF a l1 l2).2.1 (advF a l1 l2).2.2.1 := by
  have hb := h.2
  unfold advF
  split
  · rename_i c
    obtain ⟨⟨h1, h2⟩, h3, h4, h5⟩ := (okEp_iff _ _ _).mp h.1
    have e : wrap64 (a + 1) = a + 1 := w64 (by omega) (by omega)
    rw [e] at h1 ⊢
    refine ⟨(okEp_iff _ _ _).mpr ⟨⟨fun p hp => ?_, fun g hg => ?_⟩, by dsimp only; omega, h4, h5⟩, by dsimp only; omega⟩
    · rcases h1 p hp with h | h | h
      · exact .inl h
      · exact absurd (h ▸ hp) c.2
      · exact .inr (.inl h)
    · obtain ⟨g1, g2, g3⟩ := h2 g hg; exact ⟨g1, g2, by dsimp only; omega⟩
  · exact rt_up h (by omega)
theorem rt_free {B a : Int} {l1 : List Int} {l2 : List S57} (h : Rt B a l1 l2) : Rt B (freeF a l1 l2).1 (freeF a l1 l2).2.1 (freeF a l1 l2).2.2.1 := by
  unfold freeF
  rw [if_pos h.1]
  obtain ⟨⟨h1, h2⟩, h3, h4, h5⟩ := (okEp_iff _ _ _).mp h.1
  exact ⟨(okEp_iff _ _ _).mpr ⟨⟨h1, fun g hg => h2 g (List.mem_filter.mp hg).1⟩, h3, h4, Nat.le_trans (List.length_filter_le _ _) h5⟩, h.2⟩
theorem rt_ret {B a : Int} {l1 : List Int} {l2 : List S57} (node : Int) (h : Rt B a l1 l2) : Rt B (retF a l1 l2 node).1 (retF a l1 l2 node).2.1 (retF a l1 l2 node).2.2.1 := by
  unfold retF
  split
  · rename_i c
    obtain ⟨⟨h1, h2⟩, h3, h4, h5⟩ := (okEp_iff _ _ _).mp h.1
    refine ⟨(okEp_iff _ _ _).mpr ⟨⟨h1, fun g hg => ?_⟩, h3, h4, by have := c.2.1; simp; omega⟩, h.2⟩
    rcases List.mem_append.mp hg with hg | hg
    · exact h2 g hg
    · obtain rfl := List.mem_singleton.mp hg
      exact ⟨c.1.2, by dsimp only; omega, by dsimp only; omega⟩
  · exact h
theorem pin_spec (a : Int) (l1 : List Int) (l2 : List S57) (who : Int) (h1 : l1.length ≤ 1048576) (h2 : l2.length ≤ 1048576) : Ev (fun k => spec_PinLook.f k a l1 l2 who) (pinF a l1 l2 who) := by
  have hs := spec_ok a l1 l2 (by omega) (by omega)
  have cs := copy_spec a l1 l2 (by omega) (by omega)
  have hw : wrap64 ((l1.length : Int) - 1) = (l1.length : Int) - 1 := w64 (by omega) (by omega)
  refine Ev.eq (fun k => by simp only [spec_PinLook.f, cs, in_spec, hw, Option.bind_some]; rfl) ?_
  refine Ev.then_ hs ?_
  by_cases c1 : okEp a l1 l2 = true
  · refine Ev.eq (fun k => if_pos c1) ?_
    by_cases c2 : 0 ≤ who ∧ who ≤ (l1.length : Int) - 1
    · by_cases c0 : rd l1 who = 0
      · rw [show pinF a l1 l2 who = (a, l1.set who.toNat (wrap64 (a + 1)), l2, true) from if_pos ⟨⟨c1, c2⟩, c0⟩]
        exact Ev.eq (fun k => by rw [if_pos (by simpa using c2), if_pos (by omega), if_pos (by omega), if_pos c0, if_pos (by omega)]) (Ev.now _)
      · rw [show pinF a l1 l2 who = (a, l1, l2, false) from if_neg (fun h => c0 h.2)]
        exact Ev.eq (fun k => by rw [if_pos (by simpa using c2), if_pos (by omega), if_pos (by omega), if_neg c0]) (Ev.now _)
    · rw [show pinF a l1 l2 who = (a, l1, l2, false) from if_neg (fun h => c2 h.1.2)]
      exact Ev.eq (fun k => if_neg (by simpa using c2)) (Ev.now _)
  · rw [show pinF a l1 l2 who = (a, l1, l2, false) from if_neg (fun h => c1 h.1.1)]
    exact Ev.eq (fun k => if_neg c1) (Ev.now _)
theorem unp_spec (a : Int) (l1 : List Int) (l2 : List S57) (who : Int) (h1 : l1.length ≤ 1048576) (h2 : l2.length ≤ 1048576) : Ev (fun k => spec_UnpinLook.f k a l1 l2 who) (unpF a l1 l2 who) := by
  have hs := spec_ok a l1 l2 (by omega) (by omega)
  have cs := copy_spec a l1 l2 (by omega) (by omega)
  have hw : wrap64 ((l1.length : Int) - 1) = (l1.length : Int) - 1 := w64 (by omega) (by omega)
  refine Ev.eq (fun k => by simp only [spec_UnpinLook.f, cs, in_spec, hw, Option.bind_some]; rfl) ?_
  refine Ev.then_ hs ?_
  by_cases c1 : okEp a l1 l2 = true
  · refine Ev.eq (fun k => if_pos c1) ?_
    by_cases c2 : 0 ≤ who ∧ who ≤ (l1.length : Int) - 1
    · by_cases c0 : rd l1 who = 0
      · rw [show unpF a l1 l2 who = (a, l1, l2, false) from if_neg (fun h => h.2 c0)]
        exact Ev.eq (fun k => by rw [if_pos (by simpa using c2), if_pos (by omega), if_pos (by omega), if_pos c0]) (Ev.now _)
      · rw [show unpF a l1 l2 who = (a, l1.set who.toNat 0, l2, true) from if_pos ⟨⟨c1, c2⟩, c0⟩]
        exact Ev.eq (fun k => by rw [if_pos (by simpa using c2), if_pos (by omega), if_pos (by omega), if_neg c0, if_pos (by omega)]) (Ev.now _)
    · rw [show unpF a l1 l2 who = (a, l1, l2, false) from if_neg (fun h => c2 h.1.2)]
      exact Ev.eq (fun k => if_neg (by simpa using c2)) (Ev.now _)
  · rw [show unpF a l1 l2 who = (a, l1, l2, false) from if_neg (fun h => c1 h.1.1)]
    exact Ev.eq (fun k => if_neg c1) (Ev.now _)
theorem unp_impl (a : Int) (l1 : List Int) (l2 : List S57) (who : Int) (h1 : l1.length ≤ 1048576) (h2 : l2.length ≤ 1048576) : Ev (fun k => impl_UnpinLook.f k a l1 l2 who) (unpF a l1 l2 who) := by
  have hs := impl_ok a l1 l2 (by omega) (by omega)
  have cs := copy_impl a l1 l2 (by omega) (by omega)
  have hw : wrap64 ((l1.length : Int) - 1) = (l1.length : Int) - 1 := w64 (by omega) (by omega)
  refine Ev.eq (fun k => by simp only [impl_UnpinLook.f, impl_isPlace.f, cs, in_impl, hw, Option.bind_some]; rfl) ?_
  refine Ev.then_ hs ?_
  by_cases c1 : okEp a l1 l2 = true
  · refine Ev.eq (fun k => if_pos c1) ?_
    by_cases c2 : 0 ≤ who ∧ who ≤ (l1.length : Int) - 1
    · by_cases c0 : rd l1 who = 0
      · rw [show unpF a l1 l2 who = (a, l1, l2, false) from if_neg (fun h => h.2 c0)]
        exact Ev.eq (fun k => by rw [if_pos (by simpa using c2), if_pos (by omega), if_pos (by omega), if_pos c0]) (Ev.now _)
      · rw [show unpF a l1 l2 who = (a, l1.set who.toNat 0, l2, true) from if_pos ⟨⟨c1, c2⟩, c0⟩]
        exact Ev.eq (fun k => by rw [if_pos (by simpa using c2), if_pos (by omega), if_pos (by omega), if_neg c0, if_pos (by omega)]) (Ev.now _)
    · rw [show unpF a l1 l2 who = (a, l1, l2, false) from if_neg (fun h => c2 h.1.2)]
      exact Ev.eq (fun k => if_neg (by simpa using c2)) (Ev.now _)
  · rw [show unpF a l1 l2 who = (a, l1, l2, false) from if_neg (fun h => c1 h.1.1)]
    exact Ev.eq (fun k => if_neg c1) (Ev.now _)
theorem adv_spec (a : Int) (l1 : List Int) (l2 : List S57) (h1 : l1.length ≤ 1048576) (h2 : l2.length ≤ 1048576) : Ev (fun k => spec_AdvanceEpoch.f k a l1 l2) (advF a l1 l2) := by
  have hs := spec_ok a l1 l2 (by omega) (by omega)
  have cs := copy_spec a l1 l2 (by omega) (by omega)
  have hl := adv_l a l1 l2 l1 l2 a (by omega) l1.length 0 (by omega) (by omega)
  rw [List.drop_zero] at hl
  have jt : ∀ k, spec_AdvanceEpoch.j0 (k + 1) true a l1 l2 a l1 l2 = some (a, l1, l2, false) := fun k => by simp only [spec_AdvanceEpoch.j0, if_true]
  have jf : ∀ k, spec_AdvanceEpoch.j0 (k + 1) false a l1 l2 a l1 l2 = spec_AdvanceEpoch.l0 k 0 a l1 l2 a l1 l2 := fun k => by simp only [spec_AdvanceEpoch.j0]; rw [if_neg (by simp)]
  refine Ev.eq (fun k => by simp only [spec_AdvanceEpoch.f, cs, Option.bind_some]; rfl) ?_
  refine Ev.then_ hs ?_
  by_cases c : okEp a l1 l2 = true
  · refine Ev.eq (fun k => if_pos c) ?_
    by_cases c0 : a = 1000000000
    · rw [show advF a l1 l2 = (a, l1, l2, false) from if_neg (fun h => h.1.2 c0), show (a == 1000000000) = true by simp [c0]]
      exact Ev.at1 jt
    · rw [show (a == 1000000000) = false by simp [c0]]
      by_cases c1 : a ∈ l1
      · rw [show advF a l1 l2 = (a, l1, l2, false) from if_neg (fun h => h.2 c1)]; rw [if_pos c1] at hl; exact Ev.go jf hl
      · rw [show advF a l1 l2 = (wrap64 (a + 1), l1, l2, true) from if_pos ⟨⟨c, c0⟩, c1⟩]; rw [if_neg c1] at hl; exact Ev.go jf hl
  · rw [show advF a l1 l2 = (a, l1, l2, false) from if_neg (fun h => c h.1.1)]
    exact Ev.eq (fun k => if_neg c) (Ev.at1 jt)
theorem adv_impl (a : Int) (l1 : List Int) (l2 : List S57) (h1 : l1.length ≤ 1048576) (h2 : l2.length ≤ 1048576) : Ev (fun k => impl_AdvanceEpoch.f k a l1 l2) (advF a l1 l2) := by
  have hi := impl_ok a l1 l2 (by omega) (by omega)
  have ci := copy_impl a l1 l2 (by omega) (by omega)
  have hc := contains_int l1 a (by omega)
  refine Ev.eq (fun k => by simp only [impl_AdvanceEpoch.f, ci, Option.bind_some]; rfl) ?_
  refine Ev.then_ hi ?_
  by_cases c : okEp a l1 l2 = true
  · refine Ev.eq (fun k => if_pos c) ?_
    by_cases c0 : a = 1000000000
    · rw [show advF a l1 l2 = (a, l1, l2, false) from if_neg (fun h => h.1.2 c0)]
      exact Ev.eq (fun k => if_pos c0) (Ev.now _)
    · refine Ev.eq (fun k => if_neg c0) (Ev.then_ hc ?_)
      by_cases c1 : a ∈ l1
      · rw [show advF a l1 l2 = (a, l1, l2, false) from if_neg (fun h => h.2 c1)]; exact Ev.eq (fun k => if_pos (by simp [c1])) (Ev.now _)
      · rw [show advF a l1 l2 = (wrap64 (a + 1), l1, l2, true) from if_pos ⟨⟨c, c0⟩, c1⟩]; exact Ev.eq (fun k => if_neg (by simp [c1])) (Ev.now _)
  · rw [show advF a l1 l2 = (a, l1, l2, false) from if_neg (fun h => c h.1.1)]
    exact Ev.eq (fun k => if_neg c) (Ev.now _)
theorem free_spec_l (a : Int) (l1 : List Int) (l2 : List S57) (b0 : Int) (b1 : List Int) (hl : l2.length ≤ 1048577) (d : Nat) : ∀ (i : Nat) (x : List Int) (y : List S57), i ≤ l2.length → l2.length - i = d → x.length ≤ i → y.length ≤ i →
    Ev (fun k => spec_FreeNodes.l0 k x (i : Int) a l1 l2 b0 b1 y) (b0, b1, y ++ (l2.drop i).filter (fun g => !gonB a g), x ++ ((l2.drop i).filter (gonB a)).map S57.f0) := by
  induction d with
  | zero =>
    intro i x y hi hd hx hy
    rw [List.drop_eq_nil_of_le (by omega)]
    exact Ev.at1 fun k => by simp only [spec_FreeNodes.l0]; rw [if_neg (by omega)]; simp
  | succ d ih =>
    intro i x y hi hd hx hy
    have hlt : i < l2.length := by omega
    have hr := rdG_get l2 i hlt
    rw [drop_get l2 i hlt]
    by_cases c : l2[i].f1 ≤ wrap64 (a - 2)
    · have cb : gonB a l2[i] = true := by simp [gonB, c]
      rw [List.filter_cons_of_pos (p := gonB a) cb, List.filter_cons_of_neg (p := fun g => !gonB a g) (by simp [cb]), List.map_cons, List.append_cons]
      refine Ev.go (fun k => ?_) (ih (i + 1) (x ++ [l2[i].f0]) y (by omega) (by omega) (by simp; omega) (by omega))
      simp only [spec_FreeNodes.l0]; rw [if_pos (by omega), if_pos (by omega), hr, if_pos c, if_pos (by omega), wnat i _ hlt (by omega)]
    · have cb : gonB a l2[i] = false := by simp [gonB, c]
      rw [List.filter_cons_of_neg (p := gonB a) (by simp [cb]), List.filter_cons_of_pos (p := fun g => !gonB a g) (by simp [cb]), List.append_cons]
      refine Ev.go (fun k => ?_) (ih (i + 1) x (y ++ [l2[i]]) (by omega) (by omega) (by omega) (by simp; omega))
      simp only [spec_FreeNodes.l0]; rw [if_pos (by omega), if_pos (by omega), hr, if_neg c, if_pos (by omega), wnat i _ hlt (by omega)]
theorem free_spec (a : Int) (l1 : List Int) (l2 : List S57) (h1 : l1.length ≤ 1048577) (h2 : l2.length ≤ 1048577) : Ev (fun k => spec_FreeNodes.f k a l1 l2) (freeF a l1 l2) := by
  have hs := spec_ok a l1 l2 (by omega) (by omega)
  have cs := copy_spec a l1 l2 (by omega) (by omega)
  refine Ev.eq (fun k => by simp only [spec_FreeNodes.f, cs, Option.bind_some]; rfl) ?_
  refine Ev.then_ hs ?_
  by_cases c : okEp a l1 l2 = true
  · rw [show freeF a l1 l2 = (a, l1, l2.filter (fun g => !gonB a g), (l2.filter (gonB a)).map S57.f0) from if_pos c]
    exact Ev.eq (fun k => if_pos c) (free_spec_l a l1 l2 a l1 h2 l2.length 0 [] [] (by omega) (by omega) (by simp) (by simp))
  · rw [show freeF a l1 l2 = (a, l1, l2, []) from if_neg c]
    exact Ev.eq (fun k => if_neg c) (Ev.now _)
theorem free_impl_l (a : Int) (l1 : List Int) (l2 : List S57) (b0 : Int) (b1 : List Int) (hl : l2.length ≤ 1048577) (d : Nat) : ∀ (i : Nat) (x : List Int) (y : List S57), i ≤ l2.length → l2.length - i = d → x.length ≤ i → y.length ≤ i →
    Ev (fun k => impl_FreeNodes.l0 k x l2 (l2.length : Int) (i : Int) a l1 l2 b0 b1 y) (b0, b1, y ++ (l2.drop i).filter (fun g => !gonB a g), x ++ ((l2.drop i).filter (gonB a)).map S57.f0) := by
  induction d with
  | zero =>
    intro i x y hi hd hx hy
    rw [List.drop_eq_nil_of_le (by omega)]
    exact Ev.at1 fun k => by simp only [impl_FreeNodes.l0]; rw [if_neg (by omega)]; simp
  | succ d ih =>
    intro i x y hi hd hx hy
    have hlt : i < l2.length := by omega
    have hr := rdG_get l2 i hlt
    rw [drop_get l2 i hlt]
    by_cases c : l2[i].f1 ≤ wrap64 (a - 2)
    · have cb : gonB a l2[i] = true := by simp [gonB, c]
      rw [List.filter_cons_of_pos (p := gonB a) cb, List.filter_cons_of_neg (p := fun g => !gonB a g) (by simp [cb]), List.map_cons, List.append_cons]
      refine Ev.go (fun k => ?_) (ih (i + 1) (x ++ [l2[i].f0]) y (by omega) (by omega) (by simp; omega) (by omega))
      simp only [impl_FreeNodes.l0]; rw [if_pos (by omega), if_pos (by omega), if_pos (by omega), hr, if_pos c, if_pos (by omega), wnat i _ hlt (by omega)]
    · have cb : gonB a l2[i] = false := by simp [gonB, c]
      rw [List.filter_cons_of_neg (p := gonB a) (by simp [cb]), List.filter_cons_of_pos (p := fun g => !gonB a g) (by simp [cb]), List.append_cons]
      refine Ev.go (fun k => ?_) (ih (i + 1) x (y ++ [l2[i]]) (by omega) (by omega) (by omega) (by simp; omega))
      simp only [impl_FreeNodes.l0]; rw [if_pos (by omega), if_pos (by omega), if_pos (by omega), hr, if_neg c, if_pos (by omega), wnat i _ hlt (by omega)]
theorem free_impl (a : Int) (l1 : List Int) (l2 : List S57) (h1 : l1.length ≤ 1048577) (h2 : l2.length ≤ 1048577) : Ev (fun k => impl_FreeNodes.f k a l1 l2) (freeF a l1 l2) := by
  have hs := impl_ok a l1 l2 (by omega) (by omega)
  have cs := copy_impl a l1 l2 (by omega) (by omega)
  refine Ev.eq (fun k => by simp only [impl_FreeNodes.f, cs, Option.bind_some]; rfl) ?_
  refine Ev.then_ hs ?_
  by_cases c : okEp a l1 l2 = true
  · rw [show freeF a l1 l2 = (a, l1, l2.filter (fun g => !gonB a g), (l2.filter (gonB a)).map S57.f0) from if_pos c]
    exact Ev.eq (fun k => if_pos c) (free_impl_l a l1 l2 a l1 h2 l2.length 0 [] [] (by omega) (by omega) (by simp) (by simp))
  · rw [show freeF a l1 l2 = (a, l1, l2, []) from if_neg c]
    exact Ev.eq (fun k => if_neg c) (Ev.now _)
theorem ret_spec_l (node a : Int) (l1 : List Int) (l2 : List S57) (hl : l2.length ≤ 1048577) (d : Nat) : ∀ i : Nat, i ≤ l2.length → l2.length - i = d →
    Ev (fun k => spec_RetireNode.l0 k node (i : Int) a l1 l2 a l1 l2) (if ∀ g ∈ l2.drop i, ¬ g.f0 = node then (a, l1, l2 ++ [⟨node, a⟩], true) else (a, l1, l2, false)) := by
  induction d with
  | zero =>
    intro i hi hd
    rw [List.drop_eq_nil_of_le (by omega)]
    exact Ev.at1 fun k => by simp only [spec_RetireNode.l0]; rw [if_neg (by omega), if_pos (by omega)]; simp
  | succ d ih =>
    intro i hi hd
    have hlt : i < l2.length := by omega
    have hr := rdG_get l2 i hlt
    rw [drop_get l2 i hlt]
    by_cases c : l2[i].f0 = node
    · rw [if_neg (fun h => h _ List.mem_cons_self c)]
      exact Ev.at1 fun k => by simp only [spec_RetireNode.l0]; rw [if_pos (by omega), if_pos (by omega), hr, if_pos c]
    · have e : (∀ g ∈ l2[i] :: l2.drop (i + 1), ¬ g.f0 = node) = (∀ g ∈ l2.drop (i + 1), ¬ g.f0 = node) := propext ⟨fun h g hg => h g (List.mem_cons.mpr (.inr hg)), fun h g hg => (List.mem_cons.mp hg).elim (fun e => e ▸ c) (h g)⟩
      simp only [e]
      refine Ev.go (fun k => ?_) (ih (i + 1) (by omega) (by omega))
      simp only [spec_RetireNode.l0]; rw [if_pos (by omega), if_pos (by omega), hr, if_neg c, wnat i _ hlt (by omega)]
theorem ret_spec (a : Int) (l1 : List Int) (l2 : List S57) (node : Int) (h1 : l1.length ≤ 1048577) (h2 : l2.length ≤ 1048577) : Ev (fun k => spec_RetireNode.f k a l1 l2 node) (retF a l1 l2 node) := by
  have hs := spec_ok a l1 l2 (by omega) (by omega)
  have cs := copy_spec a l1 l2 (by omega) (by omega)
  have hl := ret_spec_l node a l1 l2 h2 l2.length 0 (by omega) (by omega)
  rw [List.drop_zero] at hl
  have jt : ∀ k, spec_RetireNode.j0 (k + 1) node true a l1 l2 a l1 l2 = some (a, l1, l2, false) := fun k => by simp only [spec_RetireNode.j0, if_true]
  have jf : ∀ k, spec_RetireNode.j0 (k + 1) node false a l1 l2 a l1 l2 = spec_RetireNode.l0 k node 0 a l1 l2 a l1 l2 := fun k => by simp only [spec_RetireNode.j0]; rw [if_neg (by simp)]
  refine Ev.eq (fun k => by simp only [spec_RetireNode.f, cs, in_spec, Option.bind_some]; rfl) ?_
  refine Ev.then_ hs ?_
  by_cases c : okEp a l1 l2 = true
  · refine Ev.eq (fun k => if_pos c) ?_
    by_cases c1 : 1 ≤ node ∧ node ≤ 20
    · refine Ev.eq (fun k => if_pos (by simpa using c1)) ?_
      by_cases c2 : l2.length = 40
      · rw [show retF a l1 l2 node = (a, l1, l2, false) from if_neg (fun h => h.2.1 c2), show ((l2.length : Int) == 40) = true by rw [c2]; rfl]; exact Ev.at1 jt
      · rw [show ((l2.length : Int) == 40) = false by simpa using fun h : (l2.length : Int) = 40 => c2 (by omega)]
        by_cases c3 : ∀ g ∈ l2, ¬ g.f0 = node
        · rw [show retF a l1 l2 node = (a, l1, l2 ++ [⟨node, a⟩], true) from if_pos ⟨⟨c, c1⟩, c2, c3⟩]; rw [if_pos c3] at hl; exact Ev.go jf hl
        · rw [show retF a l1 l2 node = (a, l1, l2, false) from if_neg (fun h => c3 h.2.2)]; rw [if_neg c3] at hl; exact Ev.go jf hl
    · rw [show retF a l1 l2 node = (a, l1, l2, false) from if_neg (fun h => c1 h.1.2)]
      exact Ev.eq (fun k => if_neg (by simpa using c1)) (Ev.at1 jt)
  · rw [show retF a l1 l2 node = (a, l1, l2, false) from if_neg (fun h => c h.1.1)]
    exact Ev.eq (fun k => if_neg c) (Ev.at1 jt)

end Go.Proofs.Ytdbhpcekjcohdaa.Q
