import Derived.Test.YtoopdknphikgkaaPdMarks
import Derived.Test.YtoopdknphikgkaaPdPolicy
import Derived.Test.YtoopdknphikgkaaPdG108
namespace Go.Proofs.Ytoopdknphikgkaa.Q
open Go.RowKit Go.Proofs.YtoopdknphikgkaaW.PrintWords Go.Proofs.YtoopdknphikgkaaW.PrintLast Go.Proofs.YtoopdknphikgkaaW.PrintMore
theorem mark_text_l (d : Nat) : ∀ (c : Int) (x : ByteArray), 0 ≤ c → c ≤ (d : Int) → (x.size : Int) + c ≤ 9223372036854775000 → ∃ s, Ev (fun k => laws_markText.l0 k c x) s := by
  induction d with
  | zero =>
    intro c x h0 h1 hx
    refine ⟨(⟨#[109]⟩ : ByteArray) ++ x, Ev.succ ?_⟩
    simp only [laws_markText.l0]
    exact Ev.no (by omega) (Ev.yes (by omega) (Ev.now _))
  | succ d ih =>
    intro c x h0 h1 hx
    by_cases q : c > 0
    · have hd : Int.tdiv c 10 = c / 10 := Int.tdiv_eq_ediv_of_nonneg h0
      have hw : wrap64 (Int.tdiv c 10) = c / 10 := by rw [hd]; exact w64 (by omega) (by omega)
      have hsz : (strOfNums [(wrap64 (48 + (Int.tmod c 10))) % 256]).size = 1 := rfl
      obtain ⟨s, hs⟩ := ih (c / 10) (strOfNums [(wrap64 (48 + (Int.tmod c 10))) % 256] ++ x) (by omega) (by omega) (by rw [ByteArray.size_append, hsz]; omega)
      refine ⟨s, Ev.succ ?_⟩
      simp only [laws_markText.l0, Option.bind_some, hw]
      exact Ev.yes q (Ev.yes (by rw [hsz]; omega) hs)
    · refine ⟨(⟨#[109]⟩ : ByteArray) ++ x, Ev.succ ?_⟩
      simp only [laws_markText.l0]
      exact Ev.no q (Ev.yes (by omega) (Ev.now _))
theorem mark_text_at (c : Int) : ∃ s : ByteArray, c ≤ 4611686018427387904 → Ev (fun k => laws_markText.f k c) s := by
  by_cases h : c ≤ 0
  · exact ⟨_, fun _ => by simp only [laws_markText.f]; exact Ev.yes h (Ev.now _)⟩
  · by_cases q : c ≤ 4611686018427387904
    · obtain ⟨s, hs⟩ := mark_text_l c.toNat c ⟨#[]⟩ (by omega) (by omega) (by show ((0 : Nat) : Int) + c ≤ _; omega)
      exact ⟨s, fun _ => by simp only [laws_markText.f]; exact Ev.no h hs⟩
    · exact ⟨⟨#[]⟩, fun h2 => absurd h2 q⟩
noncomputable def mtOf (c : Int) : ByteArray := Classical.choose (mark_text_at c)
theorem mtOf_is (c : Int) (h : c ≤ 4611686018427387904) : Ev (fun k => laws_markText.f k c) (mtOf c) := Classical.choose_spec (mark_text_at c) h
noncomputable def mtSeq (c : Int) : Nat → List ByteArray
  | 0 => []
  | n + 1 => mtOf c :: mtSeq (c + 1) n
theorem mtSeq_len (n : Nat) : ∀ c, (mtSeq c n).length = n := by
  induction n with
  | zero => intro c; rfl
  | succ n ih => intro c; simp [mtSeq, ih]
theorem mark_strs_l (d : Nat) : ∀ (x : List ByteArray) (c : Int) (i : Nat), x.length ≤ 1048576 → i ≤ x.length → x.length - i = d → 0 ≤ c → c + (d : Int) ≤ 4611686018427387904 → Ev (fun k => laws_markStringS.l0 k x c (i : Int)) (c + (d : Int), x.take i ++ mtSeq c d) := by
  induction d with
  | zero =>
    intro x c i hl hi hd h0 h1
    refine Ev.succ ?_
    simp only [laws_markStringS.l0]
    rw [List.take_of_length_le (by omega), show c + ((0 : Nat) : Int) = c by omega, mtSeq, List.append_nil]
    exact Ev.no (by omega) (Ev.now _)
  | succ d ih =>
    intro x c i hl hi hd h0 h1
    have hlt : i < x.length := by omega
    refine Ev.succ ?_
    simp only [laws_markStringS.l0, Int.toNat_natCast]
    rw [wnat i _ hlt (by omega), w64 (n := c + 1) (by omega) (by omega)]
    have h := ih (x.set i (mtOf c)) (c + 1) (i + 1) (by simpa using hl) (by simp; omega) (by simp; omega) (by omega) (by omega)
    rw [take_set x i (mtOf c) hlt, List.append_assoc, List.singleton_append, show c + 1 + (d : Int) = c + ((d + 1 : Nat) : Int) by omega] at h
    exact Ev.yes (by omega) (Ev.bind (mtOf_is c (by omega)) (Ev.yes (by omega) h))
theorem mark_strs (x : List ByteArray) (c : Int) (hl : x.length ≤ 1048576) (h0 : 0 ≤ c) (h1 : c + (x.length : Int) ≤ 4611686018427387904) : Ev (fun k => laws_markStringS.f k x c) (c + (x.length : Int), mtSeq c x.length) := by
  simp only [laws_markStringS.f]
  have h := mark_strs_l x.length x c 0 hl (by omega) (by omega) h0 h1
  rw [List.take_zero, List.nil_append] at h
  exact h
theorem held_strs_l (d : Nat) : ∀ (x : List ByteArray) (c : Int) (i : Nat), x.length ≤ 1048576 → x.length = i + d → x.drop i = mtSeq c d → 0 ≤ c → c + (d : Int) ≤ 4611686018427387904 → Ev (fun k => laws_heldStringS.l0 k x c (i : Int)) (c + (d : Int)) := by
  induction d with
  | zero =>
    intro x c i hl hi hd h0 h1
    refine Ev.succ ?_
    simp only [laws_heldStringS.l0]
    rw [show c + ((0 : Nat) : Int) = c by omega]
    exact Ev.no (by omega) (Ev.now _)
  | succ d ih =>
    intro x c i hl hi hd h0 h1
    have hlt : i < x.length := by omega
    rw [drop_get x i hlt, mtSeq] at hd
    injection hd with e1 e2
    refine Ev.succ ?_
    simp only [laws_heldStringS.l0]
    rw [wnat i _ hlt (by omega), w64 (n := c + 1) (by omega) (by omega), rdS_get x i hlt]
    have h := ih x (c + 1) (i + 1) hl (by omega) e2 (by omega) (by omega)
    rw [show c + 1 + (d : Int) = c + ((d + 1 : Nat) : Int) by omega] at h
    exact Ev.yes (by omega) (Ev.yes (by omega) (Ev.bind (mtOf_is c (by omega)) (Ev.yes (by rw [e1]) h)))
theorem held_strs (n : Nat) (c : Int) (hl : n ≤ 1048576) (h0 : 0 ≤ c) (h1 : c + (n : Int) ≤ 4611686018427387904) : Ev (fun k => laws_heldStringS.f k (mtSeq c n) c) (c + (n : Int)) := by
  simp only [laws_heldStringS.f]
  exact held_strs_l n (mtSeq c n) c 0 (by rw [mtSeq_len]; exact hl) (by rw [mtSeq_len]; omega) (by rw [List.drop_zero]) h0 h1
theorem mark_sketch_at (l : List (List Int)) (a : Int) (c : Int) (hl : l.length ≤ 1048576) (hg : ∀ r ∈ l, r.length ≤ 1048576) (h0 : 0 ≤ c) (h1 : c ≤ 1152921504606846976) : Ev (fun k => laws_markSketch.f k l a c) (c + (cnt l : Int), markRows l c) := by
  simp only [laws_markSketch.f, laws_markIntSS.f]
  have hc := cnt_le l hg
  have h := mark_rows_l l.length l c 0 hl hg (by omega) (by omega) h0 (by rw [List.drop_zero]; omega)
  rw [List.take_zero, List.nil_append, List.drop_zero] at h
  exact h
theorem held_sketch_at (l : List (List Int)) (a : Int) (c : Int) (hl : l.length ≤ 1048576) (hg : ∀ r ∈ l, r.length ≤ 1048576) (h0 : 0 ≤ c) (h1 : c ≤ 1152921504606846976) : Ev (fun k => laws_heldSketch.f k (markRows l c) a c) (c + (cnt l : Int)) := by
  simp only [laws_heldSketch.f, laws_heldIntSS.f]
  have hc := cnt_le l hg
  have h := held_rows_l l (markRows l c) c 0 (by rw [markRows_len]; exact hl) hg (by rw [markRows_len]; omega) (by rw [List.drop_zero]) h0 (by omega)
  exact Ev.bind h (Ev.no (by omega) (Ev.now _))
theorem mark_policy (a b : List ByteArray) (l : List (List Int)) (n : Int) (h : PolOk a b l) : ∃ t, 0 ≤ t ∧ ∃ gW gM gS, Ev (fun k => laws_markPolicy.f k a b l n 1) (t, gW, gM, gS) ∧ ∀ m, Ev (fun k => laws_heldPolicy.f k gW gM gS m 1) t := by
  have ha := h.ha
  have hb := h.hb
  refine ⟨1 + (a.length : Int) + (b.length : Int) + (cnt l : Int), by omega, mtSeq 1 a.length, mtSeq (1 + (a.length : Int)) b.length, markRows l (1 + (a.length : Int) + (b.length : Int)), ?_, fun m => ?_⟩
  · simp only [laws_markPolicy.f]
    exact Ev.bind (mark_strs a 1 ha (by omega) (by omega)) (Ev.bind (mark_strs b (1 + (a.length : Int)) hb (by omega) (by omega)) (Ev.bind (mark_sketch_at l n (1 + (a.length : Int) + (b.length : Int)) h.hl h.hg (by omega) (by omega)) (Ev.now _)))
  · simp only [laws_heldPolicy.f]
    exact Ev.bind (held_strs a.length 1 ha (by omega) (by omega)) (Ev.no (by omega) (Ev.bind (held_strs b.length (1 + (a.length : Int)) hb (by omega) (by omega)) (Ev.no (by omega) (Ev.bind (held_sketch_at l m (1 + (a.length : Int) + (b.length : Int)) h.hl h.hg (by omega) (by omega)) (Ev.no (by omega) (Ev.now _))))))
end Go.Proofs.Ytoopdknphikgkaa.Q
