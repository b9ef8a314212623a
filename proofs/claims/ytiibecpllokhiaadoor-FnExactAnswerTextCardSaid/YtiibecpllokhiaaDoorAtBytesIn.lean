import Derived.Test.YtiibecpllokhiaaDoorAtWithin
import Derived.Test.YtiibecpllokhiaaDoorAtG68
namespace Go.Proofs.YtiibecpllokhiaaDoor.Q
open Go.RowKit Go.Proofs.YtiibecpllokhiaaDoorW.PrintWords Go.Proofs.YtiibecpllokhiaaDoorW.PrintLast Go.Proofs.YtiibecpllokhiaaDoorW.PrintMore
theorem bytesIn_l (s : ByteArray) (lo hi : Int) (hs : s.size ≤ 9223372036854775807) (d : Nat) : ∀ i : Nat, i ≤ s.size → s.size - i = d → Ev (fun k => impl_bytesIn.l0 k s lo hi (s.size : Int) (i : Int)) (inB lo hi (s.data.toList.drop i)) := by
  induction d with
  | zero =>
    intro i hi_ hd
    refine Ev.succ ?_
    simp only [impl_bytesIn.l0]
    rw [List.drop_eq_nil_of_le (by rw [sizeL]; omega)]
    exact Ev.no (by omega) (Ev.now _)
  | succ d ih =>
    intro i hi_ hd
    have hlt : i < s.size := by omega
    have hb := bt_rng s i
    refine Ev.succ ?_
    simp only [impl_bytesIn.l0]
    rw [w64 (n := bt s i) (by omega) (by omega), wnat i _ hlt hs, drop_get _ i (by rw [sizeL]; exact hlt)]
    simp only [in_impl, Option.bind_some]
    refine Ev.yes (by omega) (Ev.yes (by omega) (Ev.yes (by omega) ?_))
    rw [bt_get s i hlt]
    by_cases c : lo ≤ ((s.data.toList[i]'(by rw [sizeL]; exact hlt)).toNat : Int) ∧ ((s.data.toList[i]'(by rw [sizeL]; exact hlt)).toNat : Int) ≤ hi
    · refine Ev.yes (decide_eq_true c) ?_
      rw [show inB lo hi (s.data.toList[i]'(by rw [sizeL]; exact hlt) :: s.data.toList.drop (i + 1)) = inB lo hi (s.data.toList.drop (i + 1)) from by simp only [inB, List.all_cons]; rw [decide_eq_true c, Bool.true_and]]
      exact ih (i + 1) (by omega) (by omega)
    · refine Ev.no (by simpa using c) ?_
      rw [show inB lo hi (s.data.toList[i]'(by rw [sizeL]; exact hlt) :: s.data.toList.drop (i + 1)) = false from by simp only [inB, List.all_cons]; rw [decide_eq_false c, Bool.false_and]]
      exact Ev.now _
theorem bytesIn_ev (s : ByteArray) (lo hi : Int) (hs : s.size ≤ 9223372036854775807) : Ev (fun k => impl_bytesIn.f k s lo hi) (inB lo hi s.data.toList) := bytesIn_l s lo hi hs s.size 0 (by omega) (by omega)
end Go.Proofs.YtiibecpllokhiaaDoor.Q
