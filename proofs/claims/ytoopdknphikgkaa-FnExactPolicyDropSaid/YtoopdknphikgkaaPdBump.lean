import Derived.Test.YtoopdknphikgkaaPdGuess
import Derived.Test.YtoopdknphikgkaaPdG44
import Derived.Test.YtoopdknphikgkaaPdG30
namespace Go.Proofs.Ytoopdknphikgkaa.Q
open Go.RowKit Go.Proofs.YtoopdknphikgkaaW.PrintWords Go.Proofs.YtoopdknphikgkaaW.PrintLast Go.Proofs.YtoopdknphikgkaaW.PrintMore
theorem copy_spec_l (l : List (List Int)) (a b : Int) (hl : l.length ≤ 1048576) (hg : ∀ r ∈ l, r.length ≤ 1048576) (d : Nat) : ∀ i : Nat, i ≤ l.length → l.length - i = d → Ev (fun k => spec_l12Copy.l0 k (i : Int) l b (l.take i) a) (l, a) := by
  induction d with
  | zero =>
    intro i hi hd
    refine Ev.succ ?_
    simp only [spec_l12Copy.l0]
    rw [List.take_of_length_le (by omega)]
    exact Ev.no (by omega) (Ev.now _)
  | succ d ih =>
    intro i hi hd
    have hlt : i < l.length := by omega
    have hr := hg _ (List.getElem_mem hlt)
    refine Ev.succ ?_
    simp only [spec_l12Copy.l0, Option.bind_some]
    rw [rdL_get l i hlt, wnat i _ hlt (by omega)]
    have h := ih (i + 1) (by omega) (by omega)
    rw [List.take_succ_eq_append_getElem hlt] at h
    exact Ev.yes (by omega) (Ev.yes (by omega) (Ev.yes (by simp only [List.length_nil]; omega) (Ev.yes (by rw [List.length_take]; omega) h)))
theorem copy_spec (l : List (List Int)) (a : Int) (hl : l.length ≤ 1048576) (hg : ∀ r ∈ l, r.length ≤ 1048576) : Ev (fun k => spec_l12Copy.f k l a) (l, a) := by
  simp only [spec_l12Copy.f]
  have h := copy_spec_l l a a hl hg l.length 0 (by omega) (by omega)
  rw [List.take_zero] at h
  exact h
theorem copy_impl_l (l : List (List Int)) (a : Int) (hl : l.length ≤ 1048576) (hg : ∀ r ∈ l, r.length ≤ 1048576) (d : Nat) : ∀ i : Nat, i ≤ l.length → l.length - i = d → Ev (fun k => impl_copySketch.l0 k l (l.length : Int) (i : Int) (l.take i) a) (l, a) := by
  induction d with
  | zero =>
    intro i hi hd
    refine Ev.succ ?_
    simp only [impl_copySketch.l0]
    rw [List.take_of_length_le (by omega)]
    exact Ev.no (by omega) (Ev.now _)
  | succ d ih =>
    intro i hi hd
    have hlt : i < l.length := by omega
    have hr := hg _ (List.getElem_mem hlt)
    refine Ev.succ ?_
    simp only [impl_copySketch.l0, impl_copyInts.f, Option.bind_some]
    rw [rdL_get l i hlt, wnat i _ hlt (by omega), if_pos (by simp only [List.length_nil]; omega)]
    simp only [Option.bind_some]
    have h := ih (i + 1) (by omega) (by omega)
    rw [List.take_succ_eq_append_getElem hlt] at h
    exact Ev.yes (by omega) (Ev.yes (by omega) (Ev.yes (by omega) (Ev.yes (by rw [List.length_take]; omega) h)))
theorem copy_impl (l : List (List Int)) (a : Int) (hl : l.length ≤ 1048576) (hg : ∀ r ∈ l, r.length ≤ 1048576) : Ev (fun k => impl_copySketch.f k l a) (l, a) := by
  simp only [impl_copySketch.f]
  have h := copy_impl_l l a hl hg l.length 0 (by omega) (by omega)
  rw [List.take_zero] at h
  exact h
end Go.Proofs.Ytoopdknphikgkaa.Q
