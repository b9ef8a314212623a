import Derived.Test.YtoopdknphikgkaaPdInts
import Derived.Test.YtoopdknphikgkaaPdG103
namespace Go.Proofs.Ytoopdknphikgkaa.Q
open Go.RowKit Go.Proofs.YtoopdknphikgkaaW.PrintWords Go.Proofs.YtoopdknphikgkaaW.PrintLast Go.Proofs.YtoopdknphikgkaaW.PrintMore
def seqFrom (c : Int) : Nat → List Int
  | 0 => []
  | n + 1 => c :: seqFrom (c + 1) n
theorem seq_len (n : Nat) : ∀ c, (seqFrom c n).length = n := by
  induction n with
  | zero => intro c; rfl
  | succ n ih => intro c; simp [seqFrom, ih]
theorem mark_ints_l (d : Nat) : ∀ (x : List Int) (c : Int) (i : Nat), x.length ≤ 1048576 → i ≤ x.length → x.length - i = d → 0 ≤ c → c + (d : Int) ≤ 4611686018427387904 → Ev (fun k => laws_markIntS.l0 k x c (i : Int)) (c + (d : Int), x.take i ++ seqFrom c d) := by
  induction d with
  | zero =>
    intro x c i hl hi hd h0 h1
    refine Ev.succ ?_
    simp only [laws_markIntS.l0]
    rw [List.take_of_length_le (by omega), show c + ((0 : Nat) : Int) = c by omega, seqFrom, List.append_nil]
    exact Ev.no (by omega) (Ev.now _)
  | succ d ih =>
    intro x c i hl hi hd h0 h1
    have hlt : i < x.length := by omega
    refine Ev.succ ?_
    simp only [laws_markIntS.l0, Int.toNat_natCast]
    rw [wnat i _ hlt (by omega), w64 (n := c + 1) (by omega) (by omega)]
    have h := ih (x.set i c) (c + 1) (i + 1) (by simpa using hl) (by simp; omega) (by simp; omega) (by omega) (by omega)
    rw [take_set x i c hlt, List.append_assoc, List.singleton_append, show c + 1 + (d : Int) = c + ((d + 1 : Nat) : Int) by omega] at h
    exact Ev.yes (by omega) (Ev.yes (by omega) h)
theorem mark_ints (x : List Int) (c : Int) (hl : x.length ≤ 1048576) (h0 : 0 ≤ c) (h1 : c + (x.length : Int) ≤ 4611686018427387904) : Ev (fun k => laws_markIntS.f k x c) (c + (x.length : Int), seqFrom c x.length) := by
  simp only [laws_markIntS.f]
  have h := mark_ints_l x.length x c 0 hl (by omega) (by omega) h0 h1
  rw [List.take_zero, List.nil_append] at h
  exact h
theorem held_ints_l (d : Nat) : ∀ (x : List Int) (c : Int) (i : Nat), x.length ≤ 1048576 → x.length = i + d → x.drop i = seqFrom c d → 0 ≤ c → c + (d : Int) ≤ 4611686018427387904 → Ev (fun k => laws_heldIntS.l0 k x c (i : Int)) (c + (d : Int)) := by
  induction d with
  | zero =>
    intro x c i hl hi hd h0 h1
    refine Ev.succ ?_
    simp only [laws_heldIntS.l0]
    rw [show c + ((0 : Nat) : Int) = c by omega]
    exact Ev.no (by omega) (Ev.now _)
  | succ d ih =>
    intro x c i hl hi hd h0 h1
    have hlt : i < x.length := by omega
    rw [drop_get x i hlt, seqFrom] at hd
    injection hd with e1 e2
    refine Ev.succ ?_
    simp only [laws_heldIntS.l0]
    rw [wnat i _ hlt (by omega), w64 (n := c + 1) (by omega) (by omega), rd_get x i hlt]
    have h := ih x (c + 1) (i + 1) hl (by omega) e2 (by omega) (by omega)
    rw [show c + 1 + (d : Int) = c + ((d + 1 : Nat) : Int) by omega] at h
    exact Ev.yes (by omega) (Ev.yes (by omega) (Ev.yes e1 h))
theorem held_ints (n : Nat) (c : Int) (hl : n ≤ 1048576) (h0 : 0 ≤ c) (h1 : c + (n : Int) ≤ 4611686018427387904) : Ev (fun k => laws_heldIntS.f k (seqFrom c n) c) (c + (n : Int)) := by
  simp only [laws_heldIntS.f]
  exact held_ints_l n (seqFrom c n) c 0 (by rw [seq_len]; exact hl) (by rw [seq_len]; omega) (by rw [List.drop_zero]) h0 h1
def cnt : List (List Int) → Nat
  | [] => 0
  | r :: t => r.length + cnt t
def markRows : List (List Int) → Int → List (List Int)
  | [], _ => []
  | r :: t, c => seqFrom c r.length :: markRows t (c + (r.length : Int))
theorem markRows_len (l : List (List Int)) : ∀ c, (markRows l c).length = l.length := by
  induction l with
  | nil => intro c; rfl
  | cons r t ih => intro c; simp [markRows, ih]
theorem cnt_le (l : List (List Int)) (hg : ∀ r ∈ l, r.length ≤ 1048576) : cnt l ≤ l.length * 1048576 := by
  induction l with
  | nil => simp [cnt]
  | cons r t ih =>
    have h1 := hg r (List.mem_cons_self ..)
    have h2 := ih fun q hq => hg q (List.mem_cons_of_mem _ hq)
    simp only [cnt, List.length_cons]; omega
theorem mark_rows_l (d : Nat) : ∀ (x : List (List Int)) (c : Int) (i : Nat), x.length ≤ 1048576 → (∀ r ∈ x, r.length ≤ 1048576) → i ≤ x.length → x.length - i = d → 0 ≤ c → c + (cnt (x.drop i) : Int) ≤ 4611686018427387904 → Ev (fun k => laws_markIntSS.l0 k x c (i : Int)) (c + (cnt (x.drop i) : Int), x.take i ++ markRows (x.drop i) c) := by
  induction d with
  | zero =>
    intro x c i hl hg hi hd h0 h1
    refine Ev.succ ?_
    simp only [laws_markIntSS.l0]
    rw [List.take_of_length_le (by omega), List.drop_eq_nil_of_le (by omega), cnt, markRows, List.append_nil, show c + ((0 : Nat) : Int) = c by omega]
    exact Ev.no (by omega) (Ev.now _)
  | succ d ih =>
    intro x c i hl hg hi hd h0 h1
    have hlt : i < x.length := by omega
    have hr := hg _ (List.getElem_mem hlt)
    rw [drop_get x i hlt, cnt] at h1
    refine Ev.succ ?_
    simp only [laws_markIntSS.l0, Int.toNat_natCast]
    rw [wnat i _ hlt (by omega), rdL_get x i hlt]
    have h := ih (x.set i (seqFrom c x[i].length)) (c + (x[i].length : Int)) (i + 1) (by simpa using hl) ?_ (by simp; omega) (by simp; omega) (by omega) ?_
    · rw [take_set x i _ hlt, List.append_assoc, List.singleton_append, List.drop_set_of_lt (by omega), show c + (x[i].length : Int) + (cnt (x.drop (i + 1)) : Int) = c + (cnt (x.drop i) : Int) from by rw [drop_get x i hlt, cnt]; omega] at h
      rw [drop_get x i hlt, markRows, ← drop_get x i hlt]
      exact Ev.yes (by omega) (Ev.yes (by omega) (Ev.bind (mark_ints x[i] c hr h0 (by omega)) h))
    · intro r hm
      rcases List.mem_or_eq_of_mem_set hm with hm | rfl
      · exact hg r hm
      · rw [seq_len]; exact hr
    · rw [List.drop_set_of_lt (by omega)]; omega
theorem held_rows_l (l : List (List Int)) : ∀ (x : List (List Int)) (c : Int) (i : Nat), x.length ≤ 1048576 → (∀ r ∈ l, r.length ≤ 1048576) → x.length = i + l.length → x.drop i = markRows l c → 0 ≤ c → c + (cnt l : Int) ≤ 4611686018427387904 → Ev (fun k => laws_heldIntSS.l0 k x c (i : Int)) (c + (cnt l : Int)) := by
  induction l with
  | nil =>
    intro x c i hl hg hi hd h0 h1
    refine Ev.succ ?_
    simp only [laws_heldIntSS.l0]
    rw [cnt, show c + ((0 : Nat) : Int) = c by omega]
    exact Ev.no (by simp at hi; omega) (Ev.now _)
  | cons r t ih =>
    intro x c i hl hg hi hd h0 h1
    have hlt : i < x.length := by simp at hi; omega
    have hr := hg r (List.mem_cons_self ..)
    rw [drop_get x i hlt, markRows] at hd
    injection hd with e1 e2
    rw [cnt] at h1
    refine Ev.succ ?_
    simp only [laws_heldIntSS.l0]
    rw [wnat i _ hlt (by omega), rdL_get x i hlt, e1]
    have h := ih x (c + (r.length : Int)) (i + 1) hl (fun q hq => hg q (List.mem_cons_of_mem _ hq)) (by simp at hi; omega) e2 (by omega) (by omega)
    rw [show c + (r.length : Int) + (cnt t : Int) = c + (cnt (r :: t) : Int) from by rw [cnt]; omega] at h
    exact Ev.yes (by omega) (Ev.yes (by omega) (Ev.bind (held_ints r.length c hr h0 (by omega)) (Ev.no (by omega) h)))
end Go.Proofs.Ytoopdknphikgkaa.Q
