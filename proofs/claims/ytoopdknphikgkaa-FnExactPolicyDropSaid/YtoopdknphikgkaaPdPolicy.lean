import Derived.Test.YtoopdknphikgkaaPdStrs
import Derived.Test.YtoopdknphikgkaaPdSkOk
import Derived.Test.YtoopdknphikgkaaPdG75
import Derived.Test.YtoopdknphikgkaaPdG72
import Derived.Test.YtoopdknphikgkaaPdG76
namespace Go.Proofs.Ytoopdknphikgkaa.Q
open Go.RowKit Go.Proofs.YtoopdknphikgkaaW.PrintWords Go.Proofs.YtoopdknphikgkaaW.PrintLast Go.Proofs.YtoopdknphikgkaaW.PrintMore
theorem sz_rows_g (l : List (List Int)) (hl : l.length ≤ maxLen) (hg : ∀ r ∈ l, r.length ≤ maxLen) (left : Int) (l0 : 0 ≤ left) (l1 : left ≤ 1048576) : EvP (fun k => laws_szIntSS.f k l left) (fun t => t < 0 ∨ (0 ≤ t ∧ t ≤ left ∧ l.length ≤ 1048576 ∧ ∀ r ∈ l, r.length ≤ 1048576)) := by
  unfold maxLen at hl
  simp only [laws_szIntSS.f]
  rw [w64 (n := left - (l.length : Int)) (by omega) (by omega)]
  refine EvP.ite (fun c => EvP.ret (.inl (by omega))) (fun c => ?_)
  have := sz_rows_l l hg (by omega) l.length 0 (left - (l.length : Int)) (by omega) (by omega) (by omega) (by omega)
  rw [List.drop_zero] at this
  refine this.imp fun r hr => ?_
  rcases hr with hr | ⟨a, b, hr⟩
  · exact .inl hr
  · exact .inr ⟨a, by omega, by omega, fun q hq => by have := hr q hq; omega⟩
structure PolOk (a b : List ByteArray) (l : List (List Int)) : Prop where
  ha : a.length ≤ 1048576
  hb : b.length ≤ 1048576
  hl : l.length ≤ 1048576
  hg : ∀ r ∈ l, r.length ≤ 1048576
  sa : ∀ s ∈ a, s.size ≤ 1048576
  sb : ∀ s ∈ b, s.size ≤ 1048576
theorem sz_policy (a b : List ByteArray) (l : List (List Int)) (n : Int) (ha : a.length ≤ maxLen) (ha2 : ∀ s ∈ a, s.size ≤ maxLen) (hb : b.length ≤ maxLen) (hb2 : ∀ s ∈ b, s.size ≤ maxLen) (hl : l.length ≤ maxLen) (hg : ∀ r ∈ l, r.length ≤ maxLen) : EvP (fun k => laws_szPolicy.f k a b l n 1048576) (fun t => t < 0 ∨ (¬ t < 0 ∧ PolOk a b l)) := by
  simp only [laws_szPolicy.f, laws_szSketch.f]
  refine EvP.bind (sz_strs a ha ha2 1048576 (by omega) (by omega)) fun t ht => EvP.ite (fun c => EvP.ret (.inl (by omega))) (fun c => ?_)
  rcases ht with ht | ⟨t0, t1⟩
  · exact absurd ht c
  refine EvP.bind (sz_strs b hb hb2 t t0 (by omega)) fun u hu => EvP.ite (fun c2 => EvP.ret (.inl (by omega))) (fun c2 => ?_)
  rcases hu with hu | ⟨u0, u1⟩
  · exact absurd hu c2
  refine EvP.bind (P := fun v => v < 0 ∨ (¬ v < 0 ∧ l.length ≤ 1048576 ∧ ∀ r ∈ l, r.length ≤ 1048576)) ?_ fun v hv => EvP.ite (fun c3 => EvP.ret (.inl (by omega))) (fun c3 => ?_)
  · refine EvP.bind (sz_rows_g l hl hg u u0 (by omega)) fun v hv => EvP.ite (fun c3 => EvP.ret (.inl (by omega))) (fun c3 => EvP.ret (.inr ⟨c3, ?_⟩))
    rcases hv with hv | hv
    · exact absurd hv c3
    · exact hv.2.2
  · rcases hv with hv | hv
    · exact absurd hv c3
    · exact EvP.ret (.inr ⟨c3, by omega, by omega, hv.2.1, hv.2.2, fun s hs => by have := ssz_mem hs; omega, fun s hs => by have := ssz_mem hs; omega⟩)
theorem to_policy (a b : List ByteArray) (l : List (List Int)) (n : Int) (h : PolOk a b l) : Ev (fun k => laws_toPolicy.f k a b l n) (a, b, l, n) := by
  simp only [laws_toPolicy.f]
  exact Ev.bind (to_strs a h.ha) (Ev.bind (to_strs b h.hb) (Ev.bind (to_sketch l n h.hl h.hg) (Ev.now _)))
theorem eq_policy (a b : List ByteArray) (l : List (List Int)) (n : Int) (h : PolOk a b l) : Ev (fun k => laws_eqPolicy.f k a b l n a b l n) true := by
  have ha := h.ha
  have hb := h.hb
  simp only [laws_eqPolicy.f]
  exact Ev.bind (eq_strs a (by omega)) (Ev.yes rfl (Ev.bind (eq_strs b (by omega)) (Ev.yes rfl (Ev.bind (eq_sketch l n h.hl h.hg) (Ev.yes rfl (Ev.now _))))))
end Go.Proofs.Ytoopdknphikgkaa.Q
