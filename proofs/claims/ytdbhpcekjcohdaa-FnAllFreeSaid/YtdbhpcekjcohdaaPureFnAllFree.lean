import Derived.Test.YtdbhpcekjcohdaaEpDraw
import Derived.Test.YtdbhpcekjcohdaaEpUnpI
import Derived.Test.YtdbhpcekjcohdaaEpAdvI
import Derived.Test.YtdbhpcekjcohdaaEpFreeI
import Derived.Test.YtdbhpcekjcohdaaG11
namespace Go.Proofs.Ytdbhpcekjcohdaa.Q
open Go.RowKit Go.Proofs.YtdbhpcekjcohdaaW.PrintWords Go.Proofs.YtdbhpcekjcohdaaW.PrintLast Go.Proofs.YtdbhpcekjcohdaaW.PrintMore
theorem free_all (a : Int) (l1 : List Int) (l2 : List S57) (n : Int) (hn : n = l2.length) (h : Rt 22 a l1 l2) (hz : ∀ p ∈ l1, p = 0) : Ev (fun k => laws_FnAllFree.l1 k n 0 a l1 l2) true := by
  obtain ⟨⟨h1, h2⟩, h3, h4, h5⟩ := (okEp_iff _ _ _).mp h.1
  have hb := h.2
  have step : ∀ a : Int, 2 ≤ a → a ≤ 23 → okEp a l1 l2 = true → advF a l1 l2 = (a + 1, l1, l2, true) := fun a a0 a1 ok => by
    rw [show advF a l1 l2 = (wrap64 (a + 1), l1, l2, true) from if_pos ⟨⟨ok, by omega⟩, fun hm => by have := hz a hm; omega⟩, w64 (by omega) (by omega)]
  have ok : ∀ b : Int, a ≤ b → b ≤ 24 → okEp b l1 l2 = true := fun b b0 b1 => (okEp_iff _ _ _).mpr ⟨⟨fun p hp => .inl (hz p hp), fun g hg => ⟨(h2 g hg).1, (h2 g hg).2.1, by have := (h2 g hg).2.2; omega⟩⟩, by omega, h4, h5⟩
  have r1 := adv_impl a l1 l2 (by omega) (by omega)
  rw [step a (by omega) (by omega) (ok a (by omega) (by omega))] at r1
  have r2 := adv_impl (a + 1) l1 l2 (by omega) (by omega)
  rw [step (a + 1) (by omega) (by omega) (ok (a + 1) (by omega) (by omega))] at r2
  have r3 := free_impl (a + 1 + 1) l1 l2 (by omega) (by omega)
  have hg : ∀ g ∈ l2, gonB (a + 1 + 1) g = true := fun g hg => by
    have := (h2 g hg).2.2
    rw [gonB, w64 (by omega) (by omega)]
    exact decide_eq_true (by omega)
  have e1 : l2.filter (gonB (a + 1 + 1)) = l2 := List.filter_eq_self.mpr hg
  have e2 : l2.filter (fun g => !gonB (a + 1 + 1) g) = [] := List.filter_eq_nil_iff.mpr fun g h => by simp [hg g h]
  rw [show freeF (a + 1 + 1) l1 l2 = (a + 1 + 1, l1, l2.filter (fun g => !gonB (a + 1 + 1) g), (l2.filter (gonB (a + 1 + 1))).map S57.f0) from if_pos (ok (a + 1 + 1) (by omega) (by omega)), e1, e2] at r3
  have r4 := impl_ok (a + 1 + 1) l1 [] (by omega) (by simp)
  rw [show okEp (a + 1 + 1) l1 [] = true from (okEp_iff _ _ _).mpr ⟨⟨fun p hp => .inl (hz p hp), fun g hg => absurd hg (by simp)⟩, by omega, h4, by simp⟩] at r4
  refine Ev.go (fun k => by simp only [laws_FnAllFree.l1]; rw [if_pos (by omega)]) ?_
  refine Ev.then_ r1 (Ev.eq (fun k => if_pos rfl) ?_)
  refine Ev.go (fun k => by simp only [laws_FnAllFree.l1]; rw [if_pos (by unfold wrap64; omega)]) ?_
  refine Ev.then_ r2 (Ev.eq (fun k => if_pos rfl) ?_)
  refine Ev.go (fun k => by simp only [laws_FnAllFree.l1]; rw [if_neg (by unfold wrap64; omega)]) ?_
  refine Ev.then_ r3 (Ev.eq (fun k => if_pos (by simp [hn])) (Ev.eq (fun k => if_pos (by simp)) ?_))
  exact Ev.then_ r4 (Ev.now true)
theorem unpin_all (d : Nat) : ∀ (i : Nat) (a : Int) (l1 : List Int) (l2 : List S57), i ≤ l1.length → l1.length - i = d → Rt 22 a l1 l2 → (∀ j, j < i → l1[j]? = some 0) → Ev (fun k => laws_FnAllFree.l0 k (i : Int) a l1 l2) true := by
  induction d with
  | zero =>
    intro i a l1 l2 hi hd h hz
    refine Ev.go (fun k => by simp only [laws_FnAllFree.l0]; rw [if_neg (by omega)]) (free_all a l1 l2 _ rfl h fun p hp => ?_)
    obtain ⟨j, hj, rfl⟩ := List.mem_iff_getElem.mp hp
    have := hz j (by omega)
    rw [List.getElem?_eq_getElem hj] at this
    exact Option.some.inj this
  | succ d ih =>
    intro i a l1 l2 hi hd h hz
    obtain ⟨n1, n2⟩ := rt_len h
    have hlt : i < l1.length := by omega
    refine Ev.go (fun k => by simp only [laws_FnAllFree.l0]; rw [if_pos (by omega), wnat i _ hlt (by omega)]) ?_
    refine Ev.then_ (unp_impl a l1 l2 (i : Int) (by omega) (by omega)) ?_
    have hr := rt_unp (i : Int) h
    have e : (unpF a l1 l2 (i : Int)).2.1 = l1.set i 0 := by
      unfold unpF
      split
      · rfl
      · rename_i c
        have c0 : rd l1 (i : Int) = 0 := Classical.byContradiction fun hc => c ⟨⟨h.1, by omega⟩, hc⟩
        rw [rd_get l1 i hlt] at c0
        dsimp only
        rw [← c0]; simp
    refine ih (i + 1) _ _ _ (by rw [e]; simp; omega) (by rw [e]; simp; omega) hr fun j hj => ?_
    rw [e]
    by_cases c : j = i
    · subst c; rw [List.getElem?_set_self (by omega)]
    · rw [List.getElem?_set_ne (fun hh => c hh.symm)]; exact hz j (by omega)
theorem pureFnAllFree (l : List Int) (_ : l.length ≤ maxLen) (_ : ∀ x ∈ l, (Lit.int .u8 x).wf = true) : ∃ k, laws_FnAllFree.f k l = some true := by
  by_cases c : (l.length : Int) > 1048576
  · exact ⟨0, by simp only [laws_FnAllFree.f, laws_big.f, Option.bind_some]; rw [if_pos (by simpa using c)]⟩
  · obtain ⟨r, e, hr⟩ := drawEpochsP l (by omega)
    refine Ev.rounds (g := fun k => laws_FnAllFree.f k l) (Ev.eq (fun k => by simp only [laws_FnAllFree.f, laws_big.f, Option.bind_some]; rw [if_neg (by simpa using c)]) ?_)
    exact Ev.then_ e (unpin_all r.2.1.length 0 r.1 r.2.1 r.2.2 (by omega) (by omega) hr (fun j hj => by omega))

end Go.Proofs.Ytdbhpcekjcohdaa.Q
