import Derived.Test.YtdbhpcekjcohdaaLoEpOk
namespace Go.Proofs.Ytdbhpcekjcohdaa.Q
open Go.RowKit Go.Proofs.YtdbhpcekjcohdaaW.PrintWords Go.Proofs.YtdbhpcekjcohdaaW.PrintLast Go.Proofs.YtdbhpcekjcohdaaW.PrintMore
theorem okEp_iff (a : Int) (l1 : List Int) (l2 : List S57) : okEp a l1 l2 = true ↔
    ((∀ p ∈ l1, p = 0 ∨ p = a ∨ p = wrap64 (a + 1)) ∧ (∀ g ∈ l2, (1 ≤ g.f0 ∧ g.f0 ≤ 20) ∧ 0 ≤ g.f1 ∧ g.f1 ≤ a)) ∧ (2 ≤ a ∧ a ≤ 1000000000) ∧ (1 ≤ l1.length ∧ l1.length ≤ 4) ∧ l2.length ≤ 40 := by
  simp only [okEp, Bool.and_eq_true, List.all_eq_true, okPin, okGone, Bool.or_eq_true, beq_iff_eq, decide_eq_true_eq, or_assoc]
def pinF (a : Int) (l1 : List Int) (l2 : List S57) (who : Int) : Int × List Int × List S57 × Bool :=
  if (okEp a l1 l2 = true ∧ (0 ≤ who ∧ who ≤ (l1.length : Int) - 1)) ∧ rd l1 who = 0 then (a, l1.set who.toNat (wrap64 (a + 1)), l2, true) else (a, l1, l2, false)
def unpF (a : Int) (l1 : List Int) (l2 : List S57) (who : Int) : Int × List Int × List S57 × Bool :=
  if (okEp a l1 l2 = true ∧ (0 ≤ who ∧ who ≤ (l1.length : Int) - 1)) ∧ ¬ rd l1 who = 0 then (a, l1.set who.toNat 0, l2, true) else (a, l1, l2, false)
def advF (a : Int) (l1 : List Int) (l2 : List S57) : Int × List Int × List S57 × Bool :=
  if (okEp a l1 l2 = true ∧ ¬ a = 1000000000) ∧ ¬ a ∈ l1 then (wrap64 (a + 1), l1, l2, true) else (a, l1, l2, false)
def gonB (a : Int) (g : S57) : Bool := decide (g.f1 ≤ wrap64 (a - 2))
def freeF (a : Int) (l1 : List Int) (l2 : List S57) : Int × List Int × List S57 × List Int :=
  if okEp a l1 l2 = true then (a, l1, l2.filter (fun g => !gonB a g), (l2.filter (gonB a)).map S57.f0) else (a, l1, l2, [])
def retF (a : Int) (l1 : List Int) (l2 : List S57) (node : Int) : Int × List Int × List S57 × Bool :=
  if (okEp a l1 l2 = true ∧ (1 ≤ node ∧ node ≤ 20)) ∧ ¬ l2.length = 40 ∧ ∀ g ∈ l2, ¬ g.f0 = node then (a, l1, l2 ++ [⟨node, a⟩], true) else (a, l1, l2, false)
/-- Right epochs of at most so high a number stay right. -/
def Rt (B : Int) (a : Int) (l1 : List Int) (l2 : List S57) : Prop := okEp a l1 l2 = true ∧ a ≤ B
theorem rt_up {B C a : Int} {l1 : List Int} {l2 : List S57} (h : Rt B a l1 l2) (hC : B ≤ C) : Rt C a l1 l2 := ⟨h.1, by have := h.2; omega⟩
theorem mem_set {l : List Int} {i : Nat} {v p : Int} (h : p ∈ l.set i v) : p ∈ l ∨ p = v := by
  rcases List.mem_or_eq_of_mem_set h with h | h
  · exact .inl h
  · exact .inr h
theorem rt_pin {B a : Int} {l1 : List Int} {l2 : List S57} (who : Int) (h : Rt B a l1 l2) : Rt B (pinF a l1 l2 who).1 (pinF a l1 l2 who).2.1 (pinF a l1 l2 who).2.2.1 := by
  unfold pinF
  split
  · refine ⟨?_, h.2⟩
    obtain ⟨⟨h1, h2⟩, h3, h4, h5⟩ := (okEp_iff _ _ _).mp h.1
    refine (okEp_iff _ _ _).mpr ⟨⟨fun p hp => ?_, h2⟩, h3, by simpa using h4, h5⟩
    rcases mem_set hp with hp | hp
    · exact h1 p hp
    · exact .inr (.inr hp)
  · exact h
theorem rt_unp {B a : Int} {l1 : List Int} {l2 : List S57} (who : Int) (h : Rt B a l1 l2) : Rt B (unpF a l1 l2 who).1 (unpF a l1 l2 who).2.1 (unpF a l1 l2 who).2.2.1 := by
  unfold unpF
  split
  · refine ⟨?_, h.2⟩
    obtain ⟨⟨h1, h2⟩, h3, h4, h5⟩ := (okEp_iff _ _ _).mp h.1
    refine (okEp_iff _ _ _).mpr ⟨⟨fun p hp => ?_, h2⟩, h3, by simpa using h4, h5⟩
    rcases mem_set hp with hp | hp
    · exact h1 p hp
    · exact .inl hp
  · exact h
theorem rt_adv {B a : Int} {l1 : List Int} {l2 : List S57} (h : Rt B a l1 l2) (hB : B < 1000000000) : Rt (B + 1) (advF a l1 l2).1 (advF a l1 l2).2.1 (advF a l1 l2).2.2.1 := by
  have hb := h.2
  unfold advF
  split
  · rename_i c
    obtain ⟨⟨h1, h2⟩, h3, h4, h5⟩ := (okEp_iff _ _ _).mp h.1
    have e : wrap64 (a + 1) = a + 1 := w64 (by omega) (by omega)
    rw [e] at h1 ⊢
    refine ⟨(okEp_iff _ _ _).mpr ⟨⟨fun p hp => ?_, fun g hg => ?_⟩, by dsimp only; omega, h4, h5⟩, by dsimp only; omega⟩
    · rcases h1 p hp with h | h | h
      · exact .inl h
      · exact absurd (h ▸ hp) c.2
      · exact .inr (.inl h)
    · obtain ⟨g1, g2, g3⟩ := h2 g hg; exact ⟨g1, g2, by dsimp only; omega⟩
  · exact rt_up h (by omega)
theorem rt_free {B a : Int} {l1 : List Int} {l2 : List S57} (h : Rt B a l1 l2) : Rt B (freeF a l1 l2).1 (freeF a l1 l2).2.1 (freeF a l1 l2).2.2.1 := by
  unfold freeF
  rw [if_pos h.1]
  obtain ⟨⟨h1, h2⟩, h3, h4, h5⟩ := (okEp_iff _ _ _).mp h.1
  exact ⟨(okEp_iff _ _ _).mpr ⟨⟨h1, fun g hg => h2 g (List.mem_filter.mp hg).1⟩, h3, h4, Nat.le_trans (List.length_filter_le _ _) h5⟩, h.2⟩
theorem rt_ret {B a : Int} {l1 : List Int} {l2 : List S57} (node : Int) (h : Rt B a l1 l2) : Rt B (retF a l1 l2 node).1 (retF a l1 l2 node).2.1 (retF a l1 l2 node).2.2.1 := by
  unfold retF
  split
  · rename_i c
    obtain ⟨⟨h1, h2⟩, h3, h4, h5⟩ := (okEp_iff _ _ _).mp h.1
    refine ⟨(okEp_iff _ _ _).mpr ⟨⟨h1, fun g hg => ?_⟩, h3, h4, by have := c.2.1; simp; omega⟩, h.2⟩
    rcases List.mem_append.mp hg with hg | hg
    · exact h2 g hg
    · obtain rfl := List.mem_singleton.mp hg
      exact ⟨c.1.2, by dsimp only; omega, by dsimp only; omega⟩
  · exact h
end Go.Proofs.Ytdbhpcekjcohdaa.Q
