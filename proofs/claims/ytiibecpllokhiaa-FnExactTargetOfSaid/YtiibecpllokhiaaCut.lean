import Derived.Test.YtiibecpllokhiaaStr
import Derived.Test.YtiibecpllokhiaaG15
namespace Go.Proofs.Ytiibecpllokhiaa.Q
open Go.RowKit Go.Proofs.YtiibecpllokhiaaW.PrintWords Go.Proofs.YtiibecpllokhiaaW.PrintLast Go.Proofs.YtiibecpllokhiaaW.PrintMore
/-! ### what begins, and what ends, with a text -/
def pre (s p : ByteArray) : Bool := decide (p.size ≤ s.size) && ((s.extract 0 p.size).toList == p.toList)
def suf (s p : ByteArray) : Bool := decide (p.size ≤ s.size) && ((s.extract (s.size - p.size) s.size).toList == p.toList)
theorem cutPrefix_eq (s p : ByteArray) : strings_CutPrefix.f s p = some (if pre s p = true then (s.extract p.size s.size, true) else (s, false)) := by
  simp only [strings_CutPrefix.f, stringslite_CutPrefix.f, stringslite_HasPrefix.f, Int.toNat_natCast]
  by_cases c : (s.size : Int) ≥ (p.size : Int)
  · rw [if_pos c, if_pos (by omega), if_pos (by omega)]
    simp only [Option.bind_some]
    have e : pre s p = ((s.extract 0 p.size).toList == p.toList) := by rw [pre, decide_eq_true (by omega), Bool.true_and]
    rw [e]
    by_cases c2 : ((s.extract 0 p.size).toList == p.toList) = true
    · rw [if_pos c2, if_pos (by omega), if_pos (by omega), if_pos c2]; rfl
    · rw [if_neg c2, if_neg c2]; rfl
  · rw [if_neg c]
    have e : pre s p = false := by rw [pre, decide_eq_false (by omega), Bool.false_and]
    simp only [Option.bind_some, e]
    rw [if_neg (by simp), if_neg (by simp)]; rfl
theorem cutSuffix_eq (s p : ByteArray) (hs : s.size ≤ 9223372036854775807) : strings_CutSuffix.f s p = some (if suf s p = true then (s.extract 0 (s.size - p.size), true) else (s, false)) := by
  simp only [strings_CutSuffix.f, stringslite_CutSuffix.f, stringslite_HasSuffix.f]
  by_cases c : (s.size : Int) ≥ (p.size : Int)
  · have hw : wrap64 ((s.size : Int) - (p.size : Int)) = ((s.size - p.size : Nat) : Int) := by rw [w64 (by omega) (by omega)]; omega
    rw [if_pos c, hw, if_pos (by omega), if_pos (by omega)]
    simp only [Option.bind_some, Int.toNat_natCast]
    have e : suf s p = ((s.extract (s.size - p.size) s.size).toList == p.toList) := by rw [suf, decide_eq_true (by omega), Bool.true_and]
    rw [e]
    by_cases c2 : ((s.extract (s.size - p.size) s.size).toList == p.toList) = true
    · rw [if_pos c2, if_pos (by omega), if_pos (by omega), if_pos c2]; rfl
    · rw [if_neg c2, if_neg c2]; rfl
  · rw [if_neg c]
    have e : suf s p = false := by rw [suf, decide_eq_false (by omega), Bool.false_and]
    simp only [Option.bind_some, e]
    rw [if_neg (by simp), if_neg (by simp)]; rfl
theorem ext_ext (s : ByteArray) (a b c d : Nat) (_ : b ≤ s.size) (h2 : d ≤ b - a) : (s.extract a b).extract c d = s.extract (a + c) (a + d) := by
  apply ba_ext
  simp only [Lib.extract_data]
  rw [List.drop_take, List.take_take, List.drop_drop, Nat.min_eq_left (by omega), show a + d - (a + c) = d - c by omega]

end Go.Proofs.Ytiibecpllokhiaa.Q
