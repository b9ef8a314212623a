import Derived.Test.YtdbhpcekjcohdaaDraw
import Derived.Test.YtdbhpcekjcohdaaG58
namespace Go.Proofs.Ytdbhpcekjcohdaa.Q
open Go.RowKit Go.Proofs.YtdbhpcekjcohdaaW.PrintWords Go.Proofs.YtdbhpcekjcohdaaW.PrintLast Go.Proofs.YtdbhpcekjcohdaaW.PrintMore
/-! ### drawn epochs are right -/
theorem epnew (n : Int) (h0 : 1 ≤ n) (h1 : n ≤ 4) : spec_EpochsNew.f n = some (2, List.replicate n.toNat 0, []) := by
  simp only [spec_EpochsNew.f]; rw [if_neg (by omega), if_neg (by omega), if_pos (by omega), if_pos (by omega)]
theorem rt_len {B a : Int} {l1 : List Int} {l2 : List S57} (h : Rt B a l1 l2) : l1.length ≤ 4 ∧ l2.length ≤ 40 := by
  obtain ⟨_, _, h4, h5⟩ := (okEp_iff _ _ _).mp h.1
  exact ⟨h4.2, h5⟩
theorem epochs_l (l : List Int) (hl : l.length ≤ 4611686018427387904) (d : Nat) : ∀ (i : Nat) (ci ch a : Int) (l1 : List Int) (l2 : List S57), i ≤ 20 → 20 - i = d → 0 ≤ ci → ci ≤ l.length → Rt (2 + (i : Int)) a l1 l2 →
    ∃ a' l1' l2' ci' ch', Rt 22 a' l1' l2' ∧ 0 ≤ ci' ∧ ci' ≤ l.length ∧ Ev (fun k => spec_l08Epochs.l0 k (i : Int) l ci ch a l1 l2) (a', l1', l2', ci', ch') := by
  induction d with
  | zero =>
    intro i ci ch a l1 l2 hi hd h0 h1 hr
    obtain ⟨x, c1, g1, e1, x0, x1, y0, y1⟩ := below_ok l ci ch 20 (by omega) h0 h1 hl
    exact ⟨a, l1, l2, c1, g1, rt_up hr (by omega), y0, y1, Ev.at1 fun k => by simp only [spec_l08Epochs.l0, e1, Option.bind_some]; rw [if_neg (by omega)]⟩
  | succ d ih =>
    intro i ci ch a l1 l2 hi hd h0 h1 hr
    obtain ⟨x, c1, g1, e1, x0, x1, y0, y1⟩ := below_ok l ci ch 20 (by omega) h0 h1 hl
    by_cases c : (i : Int) < x
    · obtain ⟨who, c2, g2, e2, w0, w1, z0, z1⟩ := below_ok l c1 g1 4 (by omega) y0 y1 hl
      obtain ⟨s, c3, g3, e3, s0, s1, t0, t1⟩ := below_ok l c2 g2 5 (by omega) z0 z1 hl
      obtain ⟨n1, n2⟩ := rt_len hr
      have hwi : wrap64 ((i : Int) + 1) = ((i + 1 : Nat) : Int) := wnat i 20 (by omega) (by omega)
      have head : ∀ k, spec_l08Epochs.l0 (k + 1) (i : Int) l ci ch a l1 l2 = _ := fun k => by simp only [spec_l08Epochs.l0, e1, e2, e3, Option.bind_some]; rw [if_pos c, hwi]; rfl
      by_cases q0 : s = 0
      · obtain ⟨a', l1', l2', ci', ch', r, j0, j1, e⟩ := ih (i + 1) c3 g3 _ _ _ (by omega) (by omega) t0 t1 (rt_up (rt_pin who hr) (by omega))
        exact ⟨a', l1', l2', ci', ch', r, j0, j1, Ev.go (fun k => (head k).trans (if_pos q0)) (Ev.then_ (pin_spec a l1 l2 who (by omega) (by omega)) e)⟩
      · by_cases q1 : s = 1
        · obtain ⟨a', l1', l2', ci', ch', r, j0, j1, e⟩ := ih (i + 1) c3 g3 _ _ _ (by omega) (by omega) t0 t1 (rt_up (rt_unp who hr) (by omega))
          exact ⟨a', l1', l2', ci', ch', r, j0, j1, Ev.go (fun k => (head k).trans ((if_neg q0).trans (if_pos q1))) (Ev.then_ (unp_spec a l1 l2 who (by omega) (by omega)) e)⟩
        · by_cases q2 : s = 2
          · obtain ⟨nd, c4, g4, e4, nd0, nd1, u0, u1⟩ := below_ok l c3 g3 9 (by omega) t0 t1 hl
            obtain ⟨a', l1', l2', ci', ch', r, j0, j1, e⟩ := ih (i + 1) c4 g4 _ _ _ (by omega) (by omega) u0 u1 (rt_up (rt_ret (wrap64 (1 + nd)) hr) (by omega))
            refine ⟨a', l1', l2', ci', ch', r, j0, j1, Ev.go (fun k => (head k).trans ((if_neg q0).trans ((if_neg q1).trans (if_pos q2)))) ?_⟩
            refine Ev.eq (fun k => by rw [e4]; simp only [Option.bind_some]; rfl) ?_
            exact Ev.then_ (ret_spec a l1 l2 _ (by omega) (by omega)) e
          · by_cases q3 : s = 3
            · obtain ⟨a', l1', l2', ci', ch', r, j0, j1, e⟩ := ih (i + 1) c3 g3 _ _ _ (by omega) (by omega) t0 t1 (rt_up (rt_adv hr (by omega)) (by omega))
              exact ⟨a', l1', l2', ci', ch', r, j0, j1, Ev.go (fun k => (head k).trans ((if_neg q0).trans ((if_neg q1).trans ((if_neg q2).trans (if_pos q3))))) (Ev.then_ (adv_spec a l1 l2 (by omega) (by omega)) e)⟩
            · obtain ⟨a', l1', l2', ci', ch', r, j0, j1, e⟩ := ih (i + 1) c3 g3 _ _ _ (by omega) (by omega) t0 t1 (rt_up (rt_free hr) (by omega))
              exact ⟨a', l1', l2', ci', ch', r, j0, j1, Ev.go (fun k => (head k).trans ((if_neg q0).trans ((if_neg q1).trans ((if_neg q2).trans (if_neg q3))))) (Ev.then_ (free_spec a l1 l2 (by omega) (by omega)) e)⟩
    · exact ⟨a, l1, l2, c1, g1, rt_up hr (by omega), y0, y1, Ev.at1 fun k => by simp only [spec_l08Epochs.l0, e1, Option.bind_some]; rw [if_neg c]⟩
theorem epochs_ok (l : List Int) (hl : l.length ≤ 4611686018427387904) (ci ch : Int) (h0 : 0 ≤ ci) (h1 : ci ≤ l.length) :
    ∃ a l1 l2 ci' ch', Rt 22 a l1 l2 ∧ 0 ≤ ci' ∧ ci' ≤ l.length ∧ Ev (fun k => spec_l08Epochs.f k l ci ch) (a, l1, l2, ci', ch') := by
  obtain ⟨n, c1, g1, e1, n0, n1, y0, y1⟩ := below_ok l ci ch 4 (by omega) h0 h1 hl
  have hn : wrap64 (1 + n) = 1 + n := w64 (by omega) (by omega)
  have hr : Rt (2 + ((0 : Nat) : Int)) 2 (List.replicate (1 + n).toNat 0) [] := by
    refine ⟨(okEp_iff _ _ _).mpr ⟨⟨fun p hp => .inl (List.eq_of_mem_replicate hp), fun g hg => absurd hg (by simp)⟩, by omega, by simp; omega, by simp⟩, by omega⟩
  obtain ⟨a', l1', l2', ci', ch', r, j0, j1, e⟩ := epochs_l l hl 20 0 c1 g1 _ _ _ (by omega) (by omega) y0 y1 hr
  refine ⟨a', l1', l2', ci', ch', r, j0, j1, Ev.eq (fun k => ?_) e⟩
  simp only [spec_l08Epochs.f, e1, Option.bind_some, hn, epnew (1 + n) (by omega) (by omega)]; rfl
theorem drawEpochs_ok (l : List Int) (hl : l.length ≤ 4611686018427387904) : ∃ a l1 l2, Rt 22 a l1 l2 ∧ Ev (fun k => spec_DrawEpochs.f k l) (a, l1, l2) := by
  obtain ⟨h, e0⟩ := new_ok l hl
  obtain ⟨a, l1, l2, ci, ch, r, _, _, e⟩ := epochs_ok l hl 0 h (by omega) (by omega)
  exact ⟨a, l1, l2, r, Ev.then_ e0 (Ev.then_ e (Ev.now _))⟩

end Go.Proofs.Ytdbhpcekjcohdaa.Q
