import Derived.Test.YtdbhpcekjcohdaaEpOk
import Derived.Test.YtdbhpcekjcohdaaG46
import Derived.Test.YtdbhpcekjcohdaaG28
namespace Go.Proofs.Ytdbhpcekjcohdaa.Q
open Go.RowKit Go.Proofs.YtdbhpcekjcohdaaW.PrintWords Go.Proofs.YtdbhpcekjcohdaaW.PrintLast Go.Proofs.YtdbhpcekjcohdaaW.PrintMore
/-! ### copies of what came in, and their likeness -/
def cvG (g : S70) : S57 := ⟨g.f0, g.f1⟩
theorem to_ints_l (l : List Int) (hl : l.length ≤ 9223372036854775807) (d : Nat) : ∀ (x : List Int) (i : Nat), x.length = l.length → i ≤ l.length → l.length - i = d → x.take i = l.take i → Ev (fun k => laws_toIntS.l0 k l x (i : Int)) l := by
  induction d with
  | zero =>
    intro x i hx hi hd he
    obtain rfl : i = l.length := by omega
    rw [eq_of_take x l hx he]
    exact Ev.at1 fun k => by simp only [laws_toIntS.l0]; rw [if_neg (by omega)]
  | succ d ih =>
    intro x i hx hi hd he
    have hlt : i < l.length := by omega
    refine Ev.go (fun k => ?_) (ih (x.set i l[i]) (i + 1) (by simpa using hx) (by omega) (by omega) ?_)
    · simp only [laws_toIntS.l0]
      rw [if_pos (by omega), if_pos (by omega), if_pos (by omega), rd_get l i hlt, wnat i _ hlt hl]; rfl
    · rw [take_set x i _ (by omega), he, List.take_succ_eq_append_getElem hlt]
theorem to_ints (l : List Int) (hl : l.length ≤ 35184372088832) : Ev (fun k => laws_toIntS.f k l) l := by
  refine Ev.eq (fun k => ?_) (to_ints_l l (by omega) l.length (List.replicate l.length 0) 0 (by simp) (by omega) (by omega) (by simp))
  simp only [laws_toIntS.f, Int.toNat_natCast]
  rw [if_pos (by omega), if_pos hl]; rfl
theorem to_gone_l (l : List S70) (hl : l.length ≤ 9223372036854775807) (d : Nat) : ∀ (x : List S57) (i : Nat), x.length = l.length → i ≤ l.length → l.length - i = d → x.take i = (l.map cvG).take i → Ev (fun k => laws_toGoneS.l0 k l x (i : Int)) (l.map cvG) := by
  induction d with
  | zero =>
    intro x i hx hi hd he
    obtain rfl : i = l.length := by omega
    rw [eq_of_take x (l.map cvG) (by simpa using hx) (by simpa using he)]
    exact Ev.at1 fun k => by simp only [laws_toGoneS.l0]; rw [if_neg (by omega)]
  | succ d ih =>
    intro x i hx hi hd he
    have hlt : i < l.length := by omega
    refine Ev.go (fun k => ?_) (ih (x.set i (cvG l[i])) (i + 1) (by simpa using hx) (by omega) (by omega) ?_)
    · simp only [laws_toGoneS.l0, laws_toGone.f, Option.bind_some]
      rw [if_pos (by omega), if_pos (by omega), if_pos (by omega), rdL_get l i hlt, wnat i _ hlt hl]; rfl
    · rw [take_set x i _ (by omega), he, List.take_succ_eq_append_getElem (by simpa using hlt)]; simp
theorem to_gone (l : List S70) (hl : l.length ≤ 17592186044416) : Ev (fun k => laws_toGoneS.f k l) (l.map cvG) := by
  refine Ev.eq (fun k => ?_) (to_gone_l l (by omega) l.length (List.replicate l.length z57) 0 (by simp) (by omega) (by omega) (by simp))
  simp only [laws_toGoneS.f, Int.toNat_natCast]
  rw [if_pos (by omega), if_pos hl]; rfl
theorem to_epochs (a : Int) (l1 : List Int) (l2 : List S70) (h1 : l1.length ≤ 1048576) (h2 : l2.length ≤ 1048576) : Ev (fun k => laws_toEpochs.f k a l1 l2) (a, l1, l2.map cvG) :=
  Ev.then_ (to_ints l1 (by omega)) (Ev.then_ (to_gone l2 (by omega)) (Ev.now _))
theorem eq_ints_l (l : List Int) (hl : l.length ≤ 9223372036854775807) (d : Nat) : ∀ i : Nat, i ≤ l.length → l.length - i = d → Ev (fun k => laws_eqIntS.l0 k l l (i : Int)) true := by
  induction d with
  | zero => intro i hi hd; exact Ev.at1 fun k => by simp only [laws_eqIntS.l0]; rw [if_neg (by omega)]
  | succ d ih =>
    intro i hi hd
    have hlt : i < l.length := by omega
    refine Ev.go (fun k => ?_) (ih (i + 1) (by omega) (by omega))
    simp only [laws_eqIntS.l0, if_true]
    rw [if_pos (by omega), if_pos (by omega), if_pos (by omega), wnat i _ hlt hl]
theorem eq_ints (l : List Int) (hl : l.length ≤ 9223372036854775807) : Ev (fun k => laws_eqIntS.f k l l) true :=
  Ev.eq (fun k => by simp only [laws_eqIntS.f, if_true]; rfl) (eq_ints_l l hl l.length 0 (by omega) (by omega))
theorem eq_gone_l (l : List S57) (hl : l.length ≤ 9223372036854775807) (d : Nat) : ∀ i : Nat, i ≤ l.length → l.length - i = d → Ev (fun k => laws_eqGoneS.l0 k l l (i : Int)) true := by
  induction d with
  | zero => intro i hi hd; exact Ev.at1 fun k => by simp only [laws_eqGoneS.l0]; rw [if_neg (by omega)]
  | succ d ih =>
    intro i hi hd
    have hlt : i < l.length := by omega
    refine Ev.go (fun k => ?_) (ih (i + 1) (by omega) (by omega))
    simp only [laws_eqGoneS.l0, laws_eqGone.f, if_true, Option.bind_some]
    rw [if_pos (by omega), if_pos (by omega), if_pos (by omega), wnat i _ hlt hl]
theorem eq_gone (l : List S57) (hl : l.length ≤ 9223372036854775807) : Ev (fun k => laws_eqGoneS.f k l l) true :=
  Ev.eq (fun k => by simp only [laws_eqGoneS.f, if_true]; rfl) (eq_gone_l l hl l.length 0 (by omega) (by omega))
theorem eq_epochs (a : Int) (l1 : List Int) (l2 : List S57) (h1 : l1.length ≤ 9223372036854775807) (h2 : l2.length ≤ 9223372036854775807) : Ev (fun k => laws_eqEpochs.f k a l1 l2 a l1 l2) true := by
  refine Ev.eq (fun k => by simp only [laws_eqEpochs.f, if_true]; rfl) ?_
  refine Ev.then_ (eq_ints l1 h1) (Ev.eq (fun k => if_pos rfl) ?_)
  exact Ev.then_ (eq_gone l2 h2) (Ev.eq (fun k => if_pos rfl) (Ev.now true))
theorem sz_epochs (a : Int) (l1 : List Int) (l2 : List S70) (h1 : l1.length ≤ maxLen) (h2 : l2.length ≤ maxLen) : ∃ t, laws_szEpochs.f a l1 l2 1048576 = some t ∧ (t < 0 ∨ (¬ t < 0 ∧ l1.length ≤ 1048576 ∧ l2.length ≤ 1048576)) := by
  unfold maxLen at h1 h2
  simp only [laws_szEpochs.f, laws_szIntS.f, laws_szGoneS.f]
  rw [w64 (n := 1048576 - (l1.length : Int)) (by omega) (by omega)]
  by_cases c1 : (1048576 - (l1.length : Int)) < 0
  · rw [if_pos c1]; exact ⟨-1, by simp, .inl (by omega)⟩
  · rw [if_neg c1]
    simp only [Option.bind_some]
    rw [if_neg c1, w64 (n := (1048576 - (l1.length : Int)) - (l2.length : Int)) (by omega) (by omega)]
    by_cases c2 : ((1048576 - (l1.length : Int)) - (l2.length : Int)) < 0
    · rw [if_pos c2]; exact ⟨-1, by simp, .inl (by omega)⟩
    · rw [if_neg c2]
      simp only [Option.bind_some]
      rw [if_neg c2]
      exact ⟨_, rfl, .inr ⟨c2, by omega, by omega⟩⟩

end Go.Proofs.Ytdbhpcekjcohdaa.Q
