import Derived.Test.YtdbhpcekjcohdaaLoEpF0
import Derived.Test.YtdbhpcekjcohdaaLoEpSame
import Derived.Test.YtdbhpcekjcohdaaLoG26
namespace Go.Proofs.Ytdbhpcekjcohdaa.Q
open Go.RowKit Go.Proofs.YtdbhpcekjcohdaaW.PrintWords Go.Proofs.YtdbhpcekjcohdaaW.PrintLast Go.Proofs.YtdbhpcekjcohdaaW.PrintMore
theorem free_impl_l (a : Int) (l1 : List Int) (l2 : List S57) (b0 : Int) (b1 : List Int) (hl : l2.length ≤ 1048577) (d : Nat) : ∀ (i : Nat) (x : List Int) (y : List S57), i ≤ l2.length → l2.length - i = d → x.length ≤ i → y.length ≤ i →
    Ev (fun k => impl_FreeNodes.l0 k x l2 (l2.length : Int) (i : Int) a l1 l2 b0 b1 y) (b0, b1, y ++ (l2.drop i).filter (fun g => !gonB a g), x ++ ((l2.drop i).filter (gonB a)).map S57.f0) := by
  induction d with
  | zero =>
    intro i x y hi hd hx hy
    rw [List.drop_eq_nil_of_le (by omega)]
    exact Ev.at1 fun k => by simp only [impl_FreeNodes.l0]; rw [if_neg (by omega)]; simp
  | succ d ih =>
    intro i x y hi hd hx hy
    have hlt : i < l2.length := by omega
    have hr := rdG_get l2 i hlt
    rw [drop_get l2 i hlt]
    by_cases c : l2[i].f1 ≤ wrap64 (a - 2)
    · have cb : gonB a l2[i] = true := by simp [gonB, c]
      rw [List.filter_cons_of_pos (p := gonB a) cb, List.filter_cons_of_neg (p := fun g => !gonB a g) (by simp [cb]), List.map_cons, List.append_cons]
      refine Ev.go (fun k => ?_) (ih (i + 1) (x ++ [l2[i].f0]) y (by omega) (by omega) (by simp; omega) (by omega))
      simp only [impl_FreeNodes.l0]; rw [if_pos (by omega), if_pos (by omega), if_pos (by omega), hr, if_pos c, if_pos (by omega), wnat i _ hlt (by omega)]
    · have cb : gonB a l2[i] = false := by simp [gonB, c]
      rw [List.filter_cons_of_neg (p := gonB a) (by simp [cb]), List.filter_cons_of_pos (p := fun g => !gonB a g) (by simp [cb]), List.append_cons]
      refine Ev.go (fun k => ?_) (ih (i + 1) x (y ++ [l2[i]]) (by omega) (by omega) (by omega) (by simp; omega))
      simp only [impl_FreeNodes.l0]; rw [if_pos (by omega), if_pos (by omega), if_pos (by omega), hr, if_neg c, if_pos (by omega), wnat i _ hlt (by omega)]
theorem free_impl (a : Int) (l1 : List Int) (l2 : List S57) (h1 : l1.length ≤ 1048577) (h2 : l2.length ≤ 1048577) : Ev (fun k => impl_FreeNodes.f k a l1 l2) (freeF a l1 l2) := by
  have hs := impl_ok a l1 l2 (by omega) (by omega)
  have cs := copy_impl a l1 l2 (by omega) (by omega)
  refine Ev.eq (fun k => by simp only [impl_FreeNodes.f, cs, Option.bind_some]; rfl) ?_
  refine Ev.then_ hs ?_
  by_cases c : okEp a l1 l2 = true
  · rw [show freeF a l1 l2 = (a, l1, l2.filter (fun g => !gonB a g), (l2.filter (gonB a)).map S57.f0) from if_pos c]
    exact Ev.eq (fun k => if_pos c) (free_impl_l a l1 l2 a l1 h2 l2.length 0 [] [] (by omega) (by omega) (by simp) (by simp))
  · rw [show freeF a l1 l2 = (a, l1, l2, []) from if_neg c]
    exact Ev.eq (fun k => if_neg c) (Ev.now _)
end Go.Proofs.Ytdbhpcekjcohdaa.Q
