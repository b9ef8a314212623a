import Derived.Lib.Strings
import Derived.Test.YtoopdknphikgkaaSm
namespace Go.Proofs.Ytoopdknphikgkaa.Q
open Go.RowKit Go.Proofs.YtoopdknphikgkaaW.PrintWords Go.Proofs.YtoopdknphikgkaaW.PrintLast Go.Proofs.YtoopdknphikgkaaW.PrintMore
/-! ### texts -/
theorem toL (s : ByteArray) : s.toList = s.data.toList := Lib.toList_data s
theorem sizeL (s : ByteArray) : s.data.toList.length = s.size := (Lib.size_eq s).symm
theorem ba_ext {s t : ByteArray} (h : s.data.toList = t.data.toList) : s = t := ByteArray.ext (Array.toList_inj.1 h)
theorem ext_size (s : ByteArray) (a b : Nat) (h : b ≤ s.size) : (s.extract a b).size = b - a := by
  rw [← sizeL, Lib.extract_data, List.length_take, List.length_drop, sizeL]; omega
theorem bt_get (s : ByteArray) (i : Nat) (h : i < s.size) : bt s (i : Int) = ((s.data.toList[i]'(by rw [sizeL]; exact h)).toNat : Int) := by simp [bt, h]; rfl
theorem bt_rng (s : ByteArray) (i : Int) : 0 ≤ bt s i ∧ bt s i ≤ 255 := bt_range s i
/-- Are all bytes in lo .. hi. -/
def inB (lo hi : Int) (l : List UInt8) : Bool := l.all fun b => decide (lo ≤ (b.toNat : Int) ∧ (b.toNat : Int) ≤ hi)

end Go.Proofs.Ytoopdknphikgkaa.Q
