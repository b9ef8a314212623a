import Derived.Test.YtoopdknphikgkaaMarks
import Derived.Test.YtoopdknphikgkaaBump
import Derived.Test.YtoopdknphikgkaaG82
namespace Go.Proofs.Ytoopdknphikgkaa.Q
open Go.RowKit Go.Proofs.YtoopdknphikgkaaW.PrintWords Go.Proofs.YtoopdknphikgkaaW.PrintLast Go.Proofs.YtoopdknphikgkaaW.PrintMore
theorem bumped_small (l : List (List Int)) (a : Int) (key : ByteArray) (hk : key.size ≤ 140737488351232) (hl : l.length ≤ 1048576) (hg : ∀ r ∈ l, r.length ≤ 1048576) : (bumped l a key hk).1.length ≤ 1048576 ∧ ∀ r ∈ (bumped l a key hk).1, r.length ≤ 1048576 := by
  unfold bumped
  by_cases c : skOk l a = true
  · rw [if_pos c]
    have hin := bumpL_in (plOf key hk) (fun i => ⟨(plOf_is key hk i).1, (plOf_is key hk i).2.1⟩) l 0 (skOk_rin c)
    unfold fin
    split
    · refine ⟨by simp only [List.length_map, bumpL_len]; exact hl, fun r hr => ?_⟩
      obtain ⟨q, hq, rfl⟩ := List.mem_map.mp hr
      have := (hin q hq).1
      simp only [List.length_map]; omega
    · exact ⟨by simp only [bumpL_len]; exact hl, fun r hr => by have := (hin r hr).1; omega⟩
  · rw [if_neg c]; exact ⟨hl, hg⟩
theorem pureSketchBump (l : List (List Int)) (a : Int) (key : ByteArray) (hl : l.length ≤ maxLen) (hg : ∀ r ∈ l, r.length ≤ maxLen ∧ ∀ n ∈ r, (Lit.int .i64 n).wf = true) (_ : (Lit.int .i64 a).wf = true) (_ : key.size ≤ maxLen) : ∃ k, laws_FnExactSketchBump.f k l a key = some true := by
  refine Ev.rounds (g := fun k => laws_FnExactSketchBump.f k l a key) ?_
  simp only [laws_FnExactSketchBump.f]
  by_cases c : (key.size : Int) > 1048576
  · exact Ev.yes c (Ev.now _)
  · refine Ev.no c ?_
    obtain ⟨t, et, ht⟩ := sz_sketch l a hl (fun r hr => (hg r hr).1)
    refine Ev.bind et ?_
    rcases ht with ht | ⟨hn, h1, h2⟩
    · exact Ev.yes ht (Ev.now _)
    · have hk : key.size ≤ 140737488351232 := by omega
      have tt := to_sketch l a h1 h2
      obtain ⟨b1, b2⟩ := bumped_small l a key hk h1 h2
      have e1 := bump_spec l a key hk h1 h2
      have e2 := bump_impl l a key hk h1 h2
      have q := eq_sketch (bumped l a key hk).1 (bumped l a key hk).2 b1 b2
      have m1 := mark_sketch l a h1 h2
      have m2 := mark_sketch (bumped l a key hk).1 (bumped l a key hk).2 b1 b2
      have h3 := held_sketch (bumped l a key hk).1 (bumped l a key hk).2 b1 b2
      exact Ev.no hn (Ev.bind tt (Ev.bind e1 (Ev.bind tt (Ev.bind e2 (Ev.bind q (Ev.yes rfl (Ev.bind tt (Ev.bind (eq_sketch l a h1 h2) (Ev.yes rfl (Ev.bind m1 (Ev.no (by show ¬ (1 + (cnt l : Int)) < 0; omega) (Ev.bind q (Ev.yes rfl (Ev.bind m2 (Ev.bind h3 (Ev.no (by omega) (Ev.yes rfl (Ev.bind tt (Ev.bind e2 (Ev.bind q (Ev.yes rfl (Ev.bind h3 (Ev.no (by omega) (Ev.yes rfl (Ev.now _)))))))))))))))))))))))))

end Go.Proofs.Ytoopdknphikgkaa.Q
