import Derived.Test.YtiibecpllokhiaaDoorSoStr
import Derived.Test.YtiibecpllokhiaaDoorSoG31
import Derived.Test.YtiibecpllokhiaaDoorSoG69
import Derived.Test.YtiibecpllokhiaaDoorSoG13
namespace Go.Proofs.YtiibecpllokhiaaDoor.Q
open Go.RowKit Go.Proofs.YtiibecpllokhiaaDoorW.PrintWords Go.Proofs.YtiibecpllokhiaaDoorW.PrintLast Go.Proofs.YtiibecpllokhiaaDoorW.PrintMore
def pre (s p : ByteArray) : Bool := decide (p.size ≤ s.size) && ((s.extract 0 p.size).toList == p.toList)
theorem cutPrefix_eq (s p : ByteArray) : strings_CutPrefix.f s p = some (if pre s p = true then (s.extract p.size s.size, true) else (s, false)) := by
  simp only [strings_CutPrefix.f, stringslite_CutPrefix.f, stringslite_HasPrefix.f, Int.toNat_natCast]
  by_cases c : (s.size : Int) ≥ (p.size : Int)
  · rw [if_pos c, if_pos (by omega), if_pos (by omega)]
    simp only [Option.bind_some]
    have e : pre s p = ((s.extract 0 p.size).toList == p.toList) := by rw [pre, decide_eq_true (by omega), Bool.true_and]
    rw [e]
    by_cases c2 : ((s.extract 0 p.size).toList == p.toList) = true
    · rw [if_pos c2, if_pos (by omega), if_pos (by omega), if_pos c2]; rfl
    · rw [if_neg c2, if_neg c2]; rfl
  · rw [if_neg c]
    have e : pre s p = false := by rw [pre, decide_eq_false (by omega), Bool.false_and]
    simp only [Option.bind_some, e]
    rw [if_neg (by simp), if_neg (by simp)]; rfl
theorem ext_ext (s : ByteArray) (a b c d : Nat) (_ : b ≤ s.size) (h2 : d ≤ b - a) : (s.extract a b).extract c d = s.extract (a + c) (a + d) := by
  apply ba_ext
  simp only [Lib.extract_data]
  rw [List.drop_take, List.take_take, List.drop_drop, Nat.min_eq_left (by omega), show a + d - (a + c) = d - c by omega]
end Go.Proofs.YtiibecpllokhiaaDoor.Q
