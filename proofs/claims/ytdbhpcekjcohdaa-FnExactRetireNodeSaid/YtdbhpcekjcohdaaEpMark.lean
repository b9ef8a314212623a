import Derived.Test.YtdbhpcekjcohdaaEpTo
import Derived.Test.YtdbhpcekjcohdaaG29
namespace Go.Proofs.Ytdbhpcekjcohdaa.Q
open Go.RowKit Go.Proofs.YtdbhpcekjcohdaaW.PrintWords Go.Proofs.YtdbhpcekjcohdaaW.PrintLast Go.Proofs.YtdbhpcekjcohdaaW.PrintMore
/-! ### marks -/
def mkI (m : Int) (n : Nat) : List Int := (List.range n).map (fun i : Nat => m + (i : Int))
def mkG (m : Int) (n : Nat) : List S57 := (List.range n).map (fun i : Nat => (⟨m + 2 * (i : Int), m + 2 * (i : Int) + 1⟩ : S57))
theorem mkI_len (m : Int) (n : Nat) : (mkI m n).length = n := by simp [mkI]
theorem mkG_len (m : Int) (n : Nat) : (mkG m n).length = n := by simp [mkG]
theorem mkI_get (m : Int) (n i : Nat) (h : i < (mkI m n).length) : (mkI m n)[i] = m + (i : Int) := by simp [mkI]
theorem mkG_get (m : Int) (n i : Nat) (h : i < (mkG m n).length) : (mkG m n)[i] = ⟨m + 2 * (i : Int), m + 2 * (i : Int) + 1⟩ := by simp [mkG]
theorem mark_ints_l (m : Int) (n : Nat) (h0 : 0 ≤ m) (h1 : m ≤ 4000000) (hn : n ≤ 2000000) (d : Nat) : ∀ (x : List Int) (i : Nat), x.length = n → i ≤ n → n - i = d → x.take i = (mkI m n).take i →
    Ev (fun k => laws_markIntS.l0 k x (m + (i : Int)) (i : Int)) (m + (n : Int), mkI m n) := by
  induction d with
  | zero =>
    intro x i hx hi hd he
    obtain rfl : i = n := by omega
    rw [eq_of_take x (mkI m i) (by rw [mkI_len]; exact hx) (by rw [mkI_len]; exact he)]
    exact Ev.at1 fun k => by simp only [laws_markIntS.l0]; rw [if_neg (by rw [mkI_len]; omega)]
  | succ d ih =>
    intro x i hx hi hd he
    have hlt : i < n := by omega
    refine Ev.go (fun k => ?_) (ih (x.set i (m + (i : Int))) (i + 1) (by simpa using hx) (by omega) (by omega) ?_)
    · simp only [laws_markIntS.l0]
      rw [if_pos (by omega), if_pos (by omega), wnat i n hlt (by omega), w64 (n := m + (i : Int) + 1) (by omega) (by omega), show m + ((i + 1 : Nat) : Int) = m + (i : Int) + 1 by omega]; rfl
    · rw [take_set x i _ (by omega), he, List.take_succ_eq_append_getElem (by rw [mkI_len]; exact hlt), mkI_get]
theorem mark_ints (l : List Int) (m : Int) (h0 : 0 ≤ m) (h1 : m ≤ 4000000) (hn : l.length ≤ 2000000) : Ev (fun k => laws_markIntS.f k l m) (m + (l.length : Int), mkI m l.length) :=
  Ev.eq (fun k => by simp [laws_markIntS.f]) (mark_ints_l m l.length h0 h1 hn l.length l 0 rfl (by omega) (by omega) (by simp))
theorem mark_gone_l (m : Int) (n : Nat) (h0 : 0 ≤ m) (h1 : m ≤ 4000000) (hn : n ≤ 2000000) (d : Nat) : ∀ (x : List S57) (i : Nat), x.length = n → i ≤ n → n - i = d → x.take i = (mkG m n).take i →
    Ev (fun k => laws_markGoneS.l0 k x (m + 2 * (i : Int)) (i : Int)) (m + 2 * (n : Int), mkG m n) := by
  induction d with
  | zero =>
    intro x i hx hi hd he
    obtain rfl : i = n := by omega
    rw [eq_of_take x (mkG m i) (by rw [mkG_len]; exact hx) (by rw [mkG_len]; exact he)]
    exact Ev.at1 fun k => by simp only [laws_markGoneS.l0]; rw [if_neg (by rw [mkG_len]; omega)]
  | succ d ih =>
    intro x i hx hi hd he
    have hlt : i < n := by omega
    refine Ev.go (fun k => ?_) (ih ((x.set i ⟨m + 2 * (i : Int), (rd_T57 x i).f1⟩).set i ⟨m + 2 * (i : Int), m + 2 * (i : Int) + 1⟩) (i + 1) (by simpa using hx) (by omega) (by omega) ?_)
    · have hy : rd_T57 (x.set i ⟨m + 2 * (i : Int), (rd_T57 x i).f1⟩) (i : Int) = ⟨m + 2 * (i : Int), (rd_T57 x i).f1⟩ := by
        rw [rdG_get _ i (by simpa using (by omega : i < x.length))]; simp
      simp only [laws_markGoneS.l0, Option.bind_some, Int.toNat_natCast]
      rw [if_pos (by omega), if_pos (by omega), wnat i n hlt (by omega), hy, w64 (n := m + 2 * (i : Int) + 1) (by omega) (by omega), w64 (n := m + 2 * (i : Int) + 1 + 1) (by omega) (by omega), show m + 2 * ((i + 1 : Nat) : Int) = m + 2 * (i : Int) + 1 + 1 by omega]
    · rw [take_set _ i _ (by simpa using (by omega : i < x.length)), List.take_set, List.set_eq_of_length_le (by simp; omega), he, List.take_succ_eq_append_getElem (by rw [mkG_len]; exact hlt), mkG_get]
theorem mark_gone (l : List S57) (m : Int) (h0 : 0 ≤ m) (h1 : m ≤ 4000000) (hn : l.length ≤ 2000000) : Ev (fun k => laws_markGoneS.f k l m) (m + 2 * (l.length : Int), mkG m l.length) :=
  Ev.eq (fun k => by simp [laws_markGoneS.f]) (mark_gone_l m l.length h0 h1 hn l.length l 0 rfl (by omega) (by omega) (by simp))
theorem held_ints_l (m : Int) (n : Nat) (h0 : 0 ≤ m) (h1 : m ≤ 4000000) (hn : n ≤ 2000000) (d : Nat) : ∀ i : Nat, i ≤ n → n - i = d → Ev (fun k => laws_heldIntS.l0 k (mkI m n) (m + (i : Int)) (i : Int)) (m + (n : Int)) := by
  induction d with
  | zero =>
    intro i hi hd
    obtain rfl : i = n := by omega
    exact Ev.at1 fun k => by simp only [laws_heldIntS.l0]; rw [if_neg (by rw [mkI_len]; omega)]
  | succ d ih =>
    intro i hi hd
    have hlt : i < n := by omega
    refine Ev.go (fun k => ?_) (ih (i + 1) (by omega) (by omega))
    simp only [laws_heldIntS.l0]
    rw [if_pos (by rw [mkI_len]; omega), if_pos (by omega), rd_get _ i (by rw [mkI_len]; exact hlt), mkI_get, if_pos rfl, wnat i n hlt (by omega), w64 (n := m + (i : Int) + 1) (by omega) (by omega), show m + ((i + 1 : Nat) : Int) = m + (i : Int) + 1 by omega]
theorem held_ints (m : Int) (n : Nat) (h0 : 0 ≤ m) (h1 : m ≤ 4000000) (hn : n ≤ 2000000) : Ev (fun k => laws_heldIntS.f k (mkI m n) m) (m + (n : Int)) :=
  Ev.eq (fun k => by simp [laws_heldIntS.f]) (held_ints_l m n h0 h1 hn n 0 (by omega) (by omega))
theorem held_gone_l (m : Int) (n : Nat) (h0 : 0 ≤ m) (h1 : m ≤ 4000000) (hn : n ≤ 2000000) (d : Nat) : ∀ i : Nat, i ≤ n → n - i = d → Ev (fun k => laws_heldGoneS.l0 k (mkG m n) (m + 2 * (i : Int)) (i : Int)) (m + 2 * (n : Int)) := by
  induction d with
  | zero =>
    intro i hi hd
    obtain rfl : i = n := by omega
    exact Ev.at1 fun k => by simp only [laws_heldGoneS.l0]; rw [if_neg (by rw [mkG_len]; omega)]
  | succ d ih =>
    intro i hi hd
    have hlt : i < n := by omega
    refine Ev.go (fun k => ?_) (ih (i + 1) (by omega) (by omega))
    simp only [laws_heldGoneS.l0]
    rw [if_pos (by rw [mkG_len]; omega), if_pos (by omega), rdG_get _ i (by rw [mkG_len]; exact hlt), mkG_get, if_pos rfl, w64 (n := m + 2 * (i : Int) + 1) (by omega) (by omega), if_pos rfl, wnat i n hlt (by omega), w64 (n := m + 2 * (i : Int) + 1 + 1) (by omega) (by omega), show m + 2 * ((i + 1 : Nat) : Int) = m + 2 * (i : Int) + 1 + 1 by omega]
theorem held_gone (m : Int) (n : Nat) (h0 : 0 ≤ m) (h1 : m ≤ 4000000) (hn : n ≤ 2000000) : Ev (fun k => laws_heldGoneS.f k (mkG m n) m) (m + 2 * (n : Int)) :=
  Ev.eq (fun k => by simp [laws_heldGoneS.f]) (held_gone_l m n h0 h1 hn n 0 (by omega) (by omega))
theorem mark_epochs (a : Int) (l1 : List Int) (l2 : List S57) (h1 : l1.length ≤ 2000000) (h2 : l2.length ≤ 2000000) :
    Ev (fun k => laws_markEpochs.f k a l1 l2 1) (1 + (l1.length : Int) + 2 * (l2.length : Int), mkI 1 l1.length, mkG (1 + (l1.length : Int)) l2.length) :=
  Ev.then_ (mark_ints l1 1 (by omega) (by omega) h1) (Ev.then_ (mark_gone l2 (1 + (l1.length : Int)) (by omega) (by omega) h2) (Ev.now _))
theorem held_epochs (a : Int) (n1 n2 : Nat) (h1 : n1 ≤ 2000000) (h2 : n2 ≤ 2000000) : Ev (fun k => laws_heldEpochs.f k a (mkI 1 n1) (mkG (1 + (n1 : Int)) n2) 1) (1 + (n1 : Int) + 2 * (n2 : Int)) := by
  refine Ev.then_ (held_ints 1 n1 (by omega) (by omega) h1) (Ev.eq (fun k => if_neg (by omega)) ?_)
  exact Ev.then_ (held_gone (1 + (n1 : Int)) n2 (by omega) (by omega) h2) (Ev.eq (fun k => if_neg (by omega)) (Ev.now _))

end Go.Proofs.Ytdbhpcekjcohdaa.Q
