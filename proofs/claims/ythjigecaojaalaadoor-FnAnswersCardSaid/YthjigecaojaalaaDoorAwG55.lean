import Derived.Test.YthjigecaojaalaaDoorAwB0
import Derived.Test.YthjigecaojaalaaDoorAwG14
import Derived.Test.YthjigecaojaalaaDoorAwG29
import Derived.Test.YthjigecaojaalaaDoorAwG82
import Derived.Test.YthjigecaojaalaaDoorAwWords
namespace Go.Proofs.YthjigecaojaalaaDoor.Q
open Go.RowKit Go.Proofs.YthjigecaojaalaaDoorW.PrintWords Go.Proofs.YthjigecaojaalaaDoorW.PrintLast Go.Proofs.YthjigecaojaalaaDoorW.PrintMore
attribute [local go_sem] max2_int min2_int max_two min_two max_three min_three max_four min_four   -- for this text's walks alone
set_option linter.unusedVariables false
set_option linter.unusedSimpArgs false
def spec_l09Any.l0 : Nat → Int → List Int → Int → Int → ByteArray → List (S41) → Option (ByteArray × (List (S41)) × Int × Int)
  | 0, _, _, _, _, _, _ => none
  | k + 1, x4, x1000, x1001, x1002, x563000, x563001 => if (x563001.length : Int) < (wrap64 (8 + (Int.tmod x4 2))) then ((spec_l01Long.f k (Int.tmod x4 40) 97).bind fun t582 => (if x563001.length < 4398046511104 then (spec_l09Any.l0 k x4 x1000 x1001 x1002 x563000 (x563001 ++ [(⟨(⟨#[121]⟩ : ByteArray), t582⟩ : S41)])) else (none))) else (some (x563000, x563001, x1001, x1002))
def spec_l09Any.f (k : Nat) (s0_0 : List Int) (s0_1 : Int) (s0_2 : Int) : Option (ByteArray × (List (S41)) × Int × Int) := (spec_l01Below.f s0_0 s0_1 s0_2 12).bind fun bt550 => ((spec_l01Below.f s0_0 bt550.2.1 bt550.2.2 60).bind fun bt553 => ((spec_l09Head.f k s0_0 bt553.2.1 bt553.2.2).bind fun bt556 => (if bt550.1 = 0 then ((spec_l01Long.f k 80 65).bind fun t563 => ((spec_l01Long.f k 81 65).bind fun t564 => ((some (([(⟨#[]⟩ : ByteArray), t563, t564, (⟨#[97, 13, 98]⟩ : ByteArray), (⟨#[71, 69, 84, 32, 47, 97, 32, 98, 32, 72, 84, 84, 80, 47, 49, 46, 49]⟩ : ByteArray), (⟨#[72, 84, 84, 80, 47, 49, 46, 49, 32, 55, 48, 48, 32, 120]⟩ : ByteArray), (⟨#[71, 69, 84, 32, 47, 32, 72, 84, 84, 80, 47, 49, 46, 49]⟩ : ByteArray)] : List ByteArray) : List ByteArray)).bind fun y565 => (if 0 ≤ (Int.tmod bt553.1 7) then (if (Int.tmod bt553.1 7) < (y565.length : Int) then (some (rdOf ByteArray.empty y565 (Int.tmod bt553.1 7), bt556.2.1, bt556.2.2.1, bt556.2.2.2)) else (none)) else (none))))) else (if bt550.1 = 1 then (if (bt556.2.1.length : Int) > 0 then ((spec_l01Long.f k 21 97).bind fun t569 => ((some (([(⟨#[]⟩ : ByteArray), (⟨#[65]⟩ : ByteArray), (⟨#[97, 32, 98]⟩ : ByteArray), t569, (⟨#[45]⟩ : ByteArray)] : List ByteArray) : List ByteArray)).bind fun y570 => (if 0 ≤ (Int.tmod bt553.1 5) then (if (Int.tmod bt553.1 5) < (y570.length : Int) then (if 0 < (bt556.2.1.length : Int) then (some (bt556.1, (bt556.2.1.set (0 : Int).toNat (⟨rdOf ByteArray.empty y570 (Int.tmod bt553.1 5), (rd_T41 bt556.2.1 0).f1⟩ : S41)), bt556.2.2.1, bt556.2.2.2)) else (none)) else (none)) else (none)))) else (some (bt556.1, bt556.2.1, bt556.2.2.1, bt556.2.2.2))) else (if bt550.1 = 2 then (if (bt556.2.1.length : Int) > 0 then ((spec_l01Long.f k 60 97).bind fun t575 => ((spec_l01Long.f k 61 97).bind fun t576 => ((some (([(⟨#[32, 97]⟩ : ByteArray), (⟨#[97, 32]⟩ : ByteArray), t575, t576, (⟨#[10]⟩ : ByteArray)] : List ByteArray) : List ByteArray)).bind fun y577 => (if 0 ≤ (Int.tmod bt553.1 5) then (if (Int.tmod bt553.1 5) < (y577.length : Int) then (if 0 < (bt556.2.1.length : Int) then (some (bt556.1, (bt556.2.1.set (0 : Int).toNat (⟨(rd_T41 bt556.2.1 0).f0, rdOf ByteArray.empty y577 (Int.tmod bt553.1 5)⟩ : S41)), bt556.2.2.1, bt556.2.2.2)) else (none)) else (none)) else (none))))) else (some (bt556.1, bt556.2.1, bt556.2.2.1, bt556.2.2.2))) else (if bt550.1 = 3 then (spec_l09Any.l0 k bt553.1 s0_0 bt556.2.2.1 bt556.2.2.2 bt556.1 bt556.2.1) else (some (bt556.1, bt556.2.1, bt556.2.2.1, bt556.2.2.2))))))))
def spec_l09Any.T9 : Bool × List (List Nat × List Nat) := (true, [([], []), ([0], [0]), ([], []), ([2], [2]), ([], []), ([4], [4]), ([3, 5], [3, 5]), ([6], [6]), ([1, 0, 1, 2, 3, 4, 5, 6, 7], [1]), ([8, 0, 1, 2, 3, 4, 5, 6, 7], [8]), ([9, 7, 2, 0, 1, 2, 3, 4, 5, 6, 7], [7, 9])])
def spec_l09Any.B9 : List Nat := [0, 1, 0, 4, 0, 16, 60, 124, 255, 511, 1023]
theorem spec_l09Any.tab9 : rtab .any (opsOf Tryd.f55 9) = spec_l09Any.T9 := by kernel_rfl
theorem spec_l09Any.bits9 : waitsOk spec_l09Any.T9.2 spec_l09Any.B9 = true := by kernel_rfl
def spec_l09Any.T12 : Bool × List (List Nat × List Nat) := (true, [([], []), ([0], [0]), ([], []), ([2], []), ([2, 3], [2, 3]), ([], []), ([5], [5]), ([4, 6], [4, 6]), ([7], [7]), ([1, 0, 1, 2, 3, 4, 5, 6, 7, 8], [1]), ([9, 0, 1, 2, 3, 4, 5, 6, 7, 8], [9]), ([10, 8, 3, 0, 1, 2, 3, 4, 5, 6, 7, 8], [8, 10])])
def spec_l09Any.B12 : List Nat := [0, 1, 0, 4, 12, 0, 32, 124, 252, 511, 1023, 2047]
theorem spec_l09Any.tab12 : rtab .any (opsOf Tryd.f55 12) = spec_l09Any.T12 := by kernel_rfl
theorem spec_l09Any.bits12 : waitsOk spec_l09Any.T12.2 spec_l09Any.B12 = true := by kernel_rfl
def spec_l09Any.T15 : Bool × List (List Nat × List Nat) := (true, [([], []), ([0], [0]), ([], []), ([2], [2]), ([3], [3]), ([4], [4]), ([5], [5]), ([1, 6, 4], [1, 6]), ([0, 1, 2, 3, 4, 5, 6, 7], []), ([8, 7, 7, 0, 1, 2, 3, 4, 5, 6, 7], [7, 8])])
def spec_l09Any.B15 : List Nat := [0, 1, 0, 4, 12, 28, 60, 127, 255, 511]
theorem spec_l09Any.tab15 : rtab .any (opsOf Tryd.f55 15) = spec_l09Any.T15 := by kernel_rfl
theorem spec_l09Any.bits15 : waitsOk spec_l09Any.T15.2 spec_l09Any.B15 = true := by kernel_rfl
set_option maxHeartbeats 8000000 in
set_option maxRecDepth 100000 in
theorem spec_l09Any.calls (k : Nat) (g : Nat) (s0_0 : List Int) (s0_1 : Int) (s0_2 : Int) (r1 : ByteArray) (r2 : List (S41)) (r3 : Int) (r4 : Int) (w0 w : World) (hI : IsS106 w0 w g s0_0 s0_1 s0_2) (hB : Below w0.heap.size w0 w) (h : spec_l09Any.f k s0_0 s0_1 s0_2 = some (r1, r2, r3, r4)) :
    Calls Tryd.prog 55 #[.pointer (some ⟨g, 0, none⟩)] w fun e w' => ∃ v1_ : Value, e = .returned (.agg #[.string r1, v1_]) ∧ Kd.R k41 41 w' w.heap.size (fun _ => True) v1_ r2 ∧ IsS106 w0 w' g s0_0 r3 r4 ∧ Below w0.heap.size w0 w' ∧ KeepBut w w' g none := by
  have hu44 := Tryd.underlying44
  have hu41 := Tryd.underlying41
  have HI0 := Aside0.mk hI
  have HK := Aside0.mk (KeepBut.refl w g none)
  have HL := Aside0.mk hB.size
  clear hI
  have HW0 := Aside0.mk hB.size
  have HB := Aside0.mk hB
  clear hB
  have H : ((spec_l01Below.f s0_0 s0_1 s0_2 12).bind fun bt550 => ((spec_l01Below.f s0_0 bt550.2.1 bt550.2.2 60).bind fun bt553 => ((spec_l09Head.f k s0_0 bt553.2.1 bt553.2.2).bind fun bt556 => (if bt550.1 = 0 then ((spec_l01Long.f k 80 65).bind fun t563 => ((spec_l01Long.f k 81 65).bind fun t564 => ((some (([(⟨#[]⟩ : ByteArray), t563, t564, (⟨#[97, 13, 98]⟩ : ByteArray), (⟨#[71, 69, 84, 32, 47, 97, 32, 98, 32, 72, 84, 84, 80, 47, 49, 46, 49]⟩ : ByteArray), (⟨#[72, 84, 84, 80, 47, 49, 46, 49, 32, 55, 48, 48, 32, 120]⟩ : ByteArray), (⟨#[71, 69, 84, 32, 47, 32, 72, 84, 84, 80, 47, 49, 46, 49]⟩ : ByteArray)] : List ByteArray) : List ByteArray)).bind fun y565 => (if 0 ≤ (Int.tmod bt553.1 7) then (if (Int.tmod bt553.1 7) < (y565.length : Int) then (some (rdOf ByteArray.empty y565 (Int.tmod bt553.1 7), bt556.2.1, bt556.2.2.1, bt556.2.2.2)) else (none)) else (none))))) else (if bt550.1 = 1 then (if (bt556.2.1.length : Int) > 0 then ((spec_l01Long.f k 21 97).bind fun t569 => ((some (([(⟨#[]⟩ : ByteArray), (⟨#[65]⟩ : ByteArray), (⟨#[97, 32, 98]⟩ : ByteArray), t569, (⟨#[45]⟩ : ByteArray)] : List ByteArray) : List ByteArray)).bind fun y570 => (if 0 ≤ (Int.tmod bt553.1 5) then (if (Int.tmod bt553.1 5) < (y570.length : Int) then (if 0 < (bt556.2.1.length : Int) then (some (bt556.1, (bt556.2.1.set (0 : Int).toNat (⟨rdOf ByteArray.empty y570 (Int.tmod bt553.1 5), (rd_T41 bt556.2.1 0).f1⟩ : S41)), bt556.2.2.1, bt556.2.2.2)) else (none)) else (none)) else (none)))) else (some (bt556.1, bt556.2.1, bt556.2.2.1, bt556.2.2.2))) else (if bt550.1 = 2 then (if (bt556.2.1.length : Int) > 0 then ((spec_l01Long.f k 60 97).bind fun t575 => ((spec_l01Long.f k 61 97).bind fun t576 => ((some (([(⟨#[32, 97]⟩ : ByteArray), (⟨#[97, 32]⟩ : ByteArray), t575, t576, (⟨#[10]⟩ : ByteArray)] : List ByteArray) : List ByteArray)).bind fun y577 => (if 0 ≤ (Int.tmod bt553.1 5) then (if (Int.tmod bt553.1 5) < (y577.length : Int) then (if 0 < (bt556.2.1.length : Int) then (some (bt556.1, (bt556.2.1.set (0 : Int).toNat (⟨(rd_T41 bt556.2.1 0).f0, rdOf ByteArray.empty y577 (Int.tmod bt553.1 5)⟩ : S41)), bt556.2.2.1, bt556.2.2.2)) else (none)) else (none)) else (none))))) else (some (bt556.1, bt556.2.1, bt556.2.2.1, bt556.2.2.2))) else (if bt550.1 = 3 then (spec_l09Any.l0 k bt553.1 s0_0 bt556.2.2.1 bt556.2.2.2 bt556.1 bt556.2.1) else (some (bt556.1, bt556.2.1, bt556.2.2.1, bt556.2.2.2))))))))) = some (r1, r2, r3, r4) := h
  clear h
  replace H := Option.bind_eq_some_iff.mp H
  obtain ⟨⟨t550, t551, t552⟩, A20, H⟩ := H
  replace H : ((spec_l01Below.f s0_0 t551 t552 60).bind fun bt553 => ((spec_l09Head.f k s0_0 bt553.2.1 bt553.2.2).bind fun bt556 => (if t550 = 0 then ((spec_l01Long.f k 80 65).bind fun t563 => ((spec_l01Long.f k 81 65).bind fun t564 => ((some (([(⟨#[]⟩ : ByteArray), t563, t564, (⟨#[97, 13, 98]⟩ : ByteArray), (⟨#[71, 69, 84, 32, 47, 97, 32, 98, 32, 72, 84, 84, 80, 47, 49, 46, 49]⟩ : ByteArray), (⟨#[72, 84, 84, 80, 47, 49, 46, 49, 32, 55, 48, 48, 32, 120]⟩ : ByteArray), (⟨#[71, 69, 84, 32, 47, 32, 72, 84, 84, 80, 47, 49, 46, 49]⟩ : ByteArray)] : List ByteArray) : List ByteArray)).bind fun y565 => (if 0 ≤ (Int.tmod bt553.1 7) then (if (Int.tmod bt553.1 7) < (y565.length : Int) then (some (rdOf ByteArray.empty y565 (Int.tmod bt553.1 7), bt556.2.1, bt556.2.2.1, bt556.2.2.2)) else (none)) else (none))))) else (if t550 = 1 then (if (bt556.2.1.length : Int) > 0 then ((spec_l01Long.f k 21 97).bind fun t569 => ((some (([(⟨#[]⟩ : ByteArray), (⟨#[65]⟩ : ByteArray), (⟨#[97, 32, 98]⟩ : ByteArray), t569, (⟨#[45]⟩ : ByteArray)] : List ByteArray) : List ByteArray)).bind fun y570 => (if 0 ≤ (Int.tmod bt553.1 5) then (if (Int.tmod bt553.1 5) < (y570.length : Int) then (if 0 < (bt556.2.1.length : Int) then (some (bt556.1, (bt556.2.1.set (0 : Int).toNat (⟨rdOf ByteArray.empty y570 (Int.tmod bt553.1 5), (rd_T41 bt556.2.1 0).f1⟩ : S41)), bt556.2.2.1, bt556.2.2.2)) else (none)) else (none)) else (none)))) else (some (bt556.1, bt556.2.1, bt556.2.2.1, bt556.2.2.2))) else (if t550 = 2 then (if (bt556.2.1.length : Int) > 0 then ((spec_l01Long.f k 60 97).bind fun t575 => ((spec_l01Long.f k 61 97).bind fun t576 => ((some (([(⟨#[32, 97]⟩ : ByteArray), (⟨#[97, 32]⟩ : ByteArray), t575, t576, (⟨#[10]⟩ : ByteArray)] : List ByteArray) : List ByteArray)).bind fun y577 => (if 0 ≤ (Int.tmod bt553.1 5) then (if (Int.tmod bt553.1 5) < (y577.length : Int) then (if 0 < (bt556.2.1.length : Int) then (some (bt556.1, (bt556.2.1.set (0 : Int).toNat (⟨(rd_T41 bt556.2.1 0).f0, rdOf ByteArray.empty y577 (Int.tmod bt553.1 5)⟩ : S41)), bt556.2.2.1, bt556.2.2.2)) else (none)) else (none)) else (none))))) else (some (bt556.1, bt556.2.1, bt556.2.2.1, bt556.2.2.2))) else (if t550 = 3 then (spec_l09Any.l0 k bt553.1 s0_0 bt556.2.2.1 bt556.2.2.2 bt556.1 bt556.2.1) else (some (bt556.1, bt556.2.1, bt556.2.2.1, bt556.2.2.2)))))))) = some (r1, r2, r3, r4) := H
  have A2 := Aside0.mk A20
  clear A20
  replace H := Option.bind_eq_some_iff.mp H
  obtain ⟨⟨t553, t554, t555⟩, A30, H⟩ := H
  replace H : ((spec_l09Head.f k s0_0 t554 t555).bind fun bt556 => (if t550 = 0 then ((spec_l01Long.f k 80 65).bind fun t563 => ((spec_l01Long.f k 81 65).bind fun t564 => ((some (([(⟨#[]⟩ : ByteArray), t563, t564, (⟨#[97, 13, 98]⟩ : ByteArray), (⟨#[71, 69, 84, 32, 47, 97, 32, 98, 32, 72, 84, 84, 80, 47, 49, 46, 49]⟩ : ByteArray), (⟨#[72, 84, 84, 80, 47, 49, 46, 49, 32, 55, 48, 48, 32, 120]⟩ : ByteArray), (⟨#[71, 69, 84, 32, 47, 32, 72, 84, 84, 80, 47, 49, 46, 49]⟩ : ByteArray)] : List ByteArray) : List ByteArray)).bind fun y565 => (if 0 ≤ (Int.tmod t553 7) then (if (Int.tmod t553 7) < (y565.length : Int) then (some (rdOf ByteArray.empty y565 (Int.tmod t553 7), bt556.2.1, bt556.2.2.1, bt556.2.2.2)) else (none)) else (none))))) else (if t550 = 1 then (if (bt556.2.1.length : Int) > 0 then ((spec_l01Long.f k 21 97).bind fun t569 => ((some (([(⟨#[]⟩ : ByteArray), (⟨#[65]⟩ : ByteArray), (⟨#[97, 32, 98]⟩ : ByteArray), t569, (⟨#[45]⟩ : ByteArray)] : List ByteArray) : List ByteArray)).bind fun y570 => (if 0 ≤ (Int.tmod t553 5) then (if (Int.tmod t553 5) < (y570.length : Int) then (if 0 < (bt556.2.1.length : Int) then (some (bt556.1, (bt556.2.1.set (0 : Int).toNat (⟨rdOf ByteArray.empty y570 (Int.tmod t553 5), (rd_T41 bt556.2.1 0).f1⟩ : S41)), bt556.2.2.1, bt556.2.2.2)) else (none)) else (none)) else (none)))) else (some (bt556.1, bt556.2.1, bt556.2.2.1, bt556.2.2.2))) else (if t550 = 2 then (if (bt556.2.1.length : Int) > 0 then ((spec_l01Long.f k 60 97).bind fun t575 => ((spec_l01Long.f k 61 97).bind fun t576 => ((some (([(⟨#[32, 97]⟩ : ByteArray), (⟨#[97, 32]⟩ : ByteArray), t575, t576, (⟨#[10]⟩ : ByteArray)] : List ByteArray) : List ByteArray)).bind fun y577 => (if 0 ≤ (Int.tmod t553 5) then (if (Int.tmod t553 5) < (y577.length : Int) then (if 0 < (bt556.2.1.length : Int) then (some (bt556.1, (bt556.2.1.set (0 : Int).toNat (⟨(rd_T41 bt556.2.1 0).f0, rdOf ByteArray.empty y577 (Int.tmod t553 5)⟩ : S41)), bt556.2.2.1, bt556.2.2.2)) else (none)) else (none)) else (none))))) else (some (bt556.1, bt556.2.1, bt556.2.2.1, bt556.2.2.2))) else (if t550 = 3 then (spec_l09Any.l0 k t553 s0_0 bt556.2.2.1 bt556.2.2.2 bt556.1 bt556.2.1) else (some (bt556.1, bt556.2.1, bt556.2.2.1, bt556.2.2.2))))))) = some (r1, r2, r3, r4) := H
  have A3 := Aside0.mk A30
  clear A30
  replace H := Option.bind_eq_some_iff.mp H
  obtain ⟨⟨t556, t557, t560, t561⟩, A40, H⟩ := H
  replace H : (if t550 = 0 then ((spec_l01Long.f k 80 65).bind fun t563 => ((spec_l01Long.f k 81 65).bind fun t564 => ((some (([(⟨#[]⟩ : ByteArray), t563, t564, (⟨#[97, 13, 98]⟩ : ByteArray), (⟨#[71, 69, 84, 32, 47, 97, 32, 98, 32, 72, 84, 84, 80, 47, 49, 46, 49]⟩ : ByteArray), (⟨#[72, 84, 84, 80, 47, 49, 46, 49, 32, 55, 48, 48, 32, 120]⟩ : ByteArray), (⟨#[71, 69, 84, 32, 47, 32, 72, 84, 84, 80, 47, 49, 46, 49]⟩ : ByteArray)] : List ByteArray) : List ByteArray)).bind fun y565 => (if 0 ≤ (Int.tmod t553 7) then (if (Int.tmod t553 7) < (y565.length : Int) then (some (rdOf ByteArray.empty y565 (Int.tmod t553 7), t557, t560, t561)) else (none)) else (none))))) else (if t550 = 1 then (if (t557.length : Int) > 0 then ((spec_l01Long.f k 21 97).bind fun t569 => ((some (([(⟨#[]⟩ : ByteArray), (⟨#[65]⟩ : ByteArray), (⟨#[97, 32, 98]⟩ : ByteArray), t569, (⟨#[45]⟩ : ByteArray)] : List ByteArray) : List ByteArray)).bind fun y570 => (if 0 ≤ (Int.tmod t553 5) then (if (Int.tmod t553 5) < (y570.length : Int) then (if 0 < (t557.length : Int) then (some (t556, (t557.set (0 : Int).toNat (⟨rdOf ByteArray.empty y570 (Int.tmod t553 5), (rd_T41 t557 0).f1⟩ : S41)), t560, t561)) else (none)) else (none)) else (none)))) else (some (t556, t557, t560, t561))) else (if t550 = 2 then (if (t557.length : Int) > 0 then ((spec_l01Long.f k 60 97).bind fun t575 => ((spec_l01Long.f k 61 97).bind fun t576 => ((some (([(⟨#[32, 97]⟩ : ByteArray), (⟨#[97, 32]⟩ : ByteArray), t575, t576, (⟨#[10]⟩ : ByteArray)] : List ByteArray) : List ByteArray)).bind fun y577 => (if 0 ≤ (Int.tmod t553 5) then (if (Int.tmod t553 5) < (y577.length : Int) then (if 0 < (t557.length : Int) then (some (t556, (t557.set (0 : Int).toNat (⟨(rd_T41 t557 0).f0, rdOf ByteArray.empty y577 (Int.tmod t553 5)⟩ : S41)), t560, t561)) else (none)) else (none)) else (none))))) else (some (t556, t557, t560, t561))) else (if t550 = 3 then (spec_l09Any.l0 k t553 s0_0 t560 t561 t556 t557) else (some (t556, t557, t560, t561)))))) = some (r1, r2, r3, r4) := H
  have A4 := Aside0.mk A40
  clear A40
  have HS5 := Aside0.mk H
  clear H
  go_enter Tryd.func55, Tryd.ntmps55
  go_upto_if 13 with (first | ((with_reducible refine gate_dst (N := 2) rfl ?_); refine box_event ?hg (N := 2) ?hd (cs := #[.string (⟨#[]⟩ : ByteArray), .slice none 0 0]) (t := 44) ?hr ?_; (case hd => rfl); (case hg => rfl); (case hr => (go_simp; done)); intro gb549 hg w6 hbox hb; have n0_ := Aside0.mk (IsS106.below (by repeat ((with_reducible exact HI0.out))) hb); have n1_ := Aside0.mk (KeepBut.trans (by repeat ((with_reducible exact HK.out))) (KeepBut.of_below hb g none) (.inl rfl)); have n2_ := Aside0.mk (below_step (by repeat ((with_reducible exact HB.out))) hb); have n3_ := Aside0.mk (hbox); have n4_ := Aside0.mk ((by rw [hg]; exact (keep_size (w := w) (g := g) (row := none) (by repeat ((with_reducible exact HK.out)))) : w.heap.size ≤ gb549)); have n5_ := Aside0.mk ((Nat.le_trans HW0.out (by rw [hg]; exact (keep_size (w := w) (g := g) (row := none) (by repeat ((with_reducible exact HK.out)))) : w.heap.size ≤ gb549) : w0.heap.size ≤ gb549)); have n6_ := Aside0.mk ((by rw [hg]; exact Nat.ne_of_lt (IsS106.lt (show IsS106 w0 _ g s0_0 s0_1 s0_2 from by repeat ((with_reducible exact HI0.out)))) : g ≠ gb549)); have n7_ := Aside0.mk ((by rw [hg]; exact Nat.ne_of_gt (IsS106.lt (show IsS106 w0 _ g s0_0 s0_1 s0_2 from by repeat ((with_reducible exact HI0.out)))) : gb549 ≠ g)); clear HI0; clear HK; clear HB; have HI0 := n0_; have HK := n1_; have HB := n2_; have BK549 := n3_; have GW549 := n4_; have GE549 := n5_; have NB0_549 := n6_; have NB549_0 := n7_; clear n0_ n1_ n2_ n3_ n4_ n5_ n6_ n7_; clear hb hbox hg) | ((with_reducible refine gate_callee (f := 42) rfl ?_); refine goesL_ (some 7) rfl rfl Tryd.func42 (by kernel_rfl) rfl #[.pointer (some ⟨g, 0, none⟩), .int .i64 12] rfl (by (try simp only [List.map_toArray, List.map_cons, List.map_nil]); rfl) ?_; (with_reducible refine (spec_l01Below.calls g s0_0 s0_1 s0_2 12 t550 t551 t552 w0 _ ?side1 ?side2 A2.out).mono ?_); (case side1 => repeat ((with_reducible exact HI0.out))); (case side2 => repeat ((with_reducible exact HB.out))); rintro e w7 ⟨rfl, hi, hb, hk⟩; refine ⟨_, rfl, ?_⟩; have n0_ := Aside0.mk (KeepBut.blk hk (g' := gb549) (o := .cells #[.string (⟨#[]⟩ : ByteArray), .slice none 0 0] 44 (0, 0)) (by (with_reducible repeat (first | refine blk_drewN ?_ _ | refine blk_drew ?_ | refine blk_alloc ?_ _ )); exact BK549.out) NB549_0.out (by simp)); have n1_ := Aside0.mk (KeepBut.trans (by repeat ((with_reducible exact HK.out))) hk (.inl rfl)); have n2_ := Aside0.mk (hb); have n3_ := Aside0.mk (hi); clear BK549; clear HK; clear HB; clear HI0; have BK549 := n0_; have HK := n1_; have HB := n2_; have HI0 := n3_; clear n0_ n1_ n2_ n3_; (try clear hb); (try clear hb2); (try clear hk); (try clear hi)) | ((with_reducible refine gate_callee (f := 42) rfl ?_); refine goesL_ (some 9) rfl rfl Tryd.func42 (by kernel_rfl) rfl #[.pointer (some ⟨g, 0, none⟩), .int .i64 60] rfl (by (try simp only [List.map_toArray, List.map_cons, List.map_nil]); rfl) ?_; (with_reducible refine (spec_l01Below.calls g s0_0 t551 t552 60 t553 t554 t555 w0 _ ?side1 ?side2 A3.out).mono ?_); (case side1 => repeat ((with_reducible exact HI0.out))); (case side2 => repeat ((with_reducible exact HB.out))); rintro e w8 ⟨rfl, hi, hb, hk⟩; refine ⟨_, rfl, ?_⟩; have n0_ := Aside0.mk (KeepBut.blk hk (g' := gb549) (o := .cells #[.string (⟨#[]⟩ : ByteArray), .slice none 0 0] 44 (0, 0)) (by (with_reducible repeat (first | refine blk_drewN ?_ _ | refine blk_drew ?_ | refine blk_alloc ?_ _ )); exact BK549.out) NB549_0.out (by simp)); have n1_ := Aside0.mk (KeepBut.trans (by repeat ((with_reducible exact HK.out))) hk (.inl rfl)); have n2_ := Aside0.mk (hb); have n3_ := Aside0.mk (hi); clear BK549; clear HK; clear HB; clear HI0; have BK549 := n0_; have HK := n1_; have HB := n2_; have HI0 := n3_; clear n0_ n1_ n2_ n3_; (try clear hb); (try clear hb2); (try clear hk); (try clear hi)) | ((with_reducible refine gate_callee (f := 84) rfl ?_); refine goesL_ (some 11) rfl rfl Tryd.func84 (by kernel_rfl) rfl #[.pointer (some ⟨g, 0, none⟩)] rfl (by (try simp only [List.map_toArray, List.map_cons, List.map_nil]); rfl) ?_; (with_reducible refine (spec_l09Head.calls k g s0_0 t554 t555 t556 t557 t560 t561 w0 _ ?side1 ?side2 A4.out).mono ?_); (case side1 => repeat ((with_reducible exact HI0.out))); (case side2 => repeat ((with_reducible exact HB.out))); rintro e w9 ⟨v558, rfl, ho0, hi, hb, hk⟩; refine ⟨_, rfl, ?_⟩; have n0_ := Aside0.mk (KeepBut.blk hk (g' := gb549) (o := .cells #[.string (⟨#[]⟩ : ByteArray), .slice none 0 0] 44 (0, 0)) (by (with_reducible repeat (first | refine blk_drewN ?_ _ | refine blk_drew ?_ | refine blk_alloc ?_ _ )); exact BK549.out) NB549_0.out (by simp)); have n1_ := Aside0.mk (Kd.R_lower ho0 (keep_size (w := w) (g := g) (row := none) (by repeat ((with_reducible exact HK.out))))); have n2_ := Aside0.mk (KeepBut.trans (by repeat ((with_reducible exact HK.out))) hk (.inl rfl)); have n3_ := Aside0.mk (hb); have n4_ := Aside0.mk (hi); clear BK549; clear HK; clear HB; clear HI0; have BK549 := n0_; have HO559 := n1_; have HK := n2_; have HB := n3_; have HI0 := n4_; clear n0_ n1_ n2_ n3_ n4_; (try clear hb); (try clear hb2); (try clear hk); (try clear hi); (try clear ho0)) | ((with_reducible refine gate_dst (N := 5) rfl ?_); refine box_event ?hg (N := 5) ?hd (cs := #[.string (⟨#[]⟩ : ByteArray), .slice none 0 0]) (t := 44) ?hr ?_; (case hd => rfl); (case hg => rfl); (case hr => (go_simp; done)); intro gb562 hg w10 hbox hb; have n0_ := Aside0.mk (Kd.R_below (by (with_reducible repeat (first | apply Kd.R_alloc | apply Kd.R_drewN | apply Kd.R_drew )); exact HO559.out) hb); have n1_ := Aside0.mk (IsS106.below (by repeat ((with_reducible exact HI0.out))) hb); have n2_ := Aside0.mk (blk_below (g := gb549) (o := .cells #[.string (⟨#[]⟩ : ByteArray), .slice none 0 0] 44 (0, 0)) (by (with_reducible repeat (first | refine blk_drewN ?_ _ | refine blk_drew ?_ | refine blk_alloc ?_ _ )); exact BK549.out) hb); have n3_ := Aside0.mk (KeepBut.trans (by repeat ((with_reducible exact HK.out))) (KeepBut.of_below hb g none) (.inl rfl)); have n4_ := Aside0.mk (below_step (by repeat ((with_reducible exact HB.out))) hb); have n5_ := Aside0.mk (hbox); have n6_ := Aside0.mk ((by rw [hg]; exact (keep_size (w := w) (g := g) (row := none) (by repeat ((with_reducible exact HK.out)))) : w.heap.size ≤ gb562)); have n7_ := Aside0.mk ((Nat.le_trans HW0.out (by rw [hg]; exact (keep_size (w := w) (g := g) (row := none) (by repeat ((with_reducible exact HK.out)))) : w.heap.size ≤ gb562) : w0.heap.size ≤ gb562)); have n8_ := Aside0.mk ((by rw [hg]; exact Nat.ne_of_lt (blk_lt (g := gb549) (o := .cells #[.string (⟨#[]⟩ : ByteArray), .slice none 0 0] 44 (0, 0)) (by (with_reducible repeat (first | refine blk_drewN ?_ _ | refine blk_drew ?_ | refine blk_alloc ?_ _ )); exact BK549.out)) : gb549 ≠ gb562)); have n9_ := Aside0.mk ((by rw [hg]; exact Nat.ne_of_gt (blk_lt (g := gb549) (o := .cells #[.string (⟨#[]⟩ : ByteArray), .slice none 0 0] 44 (0, 0)) (by (with_reducible repeat (first | refine blk_drewN ?_ _ | refine blk_drew ?_ | refine blk_alloc ?_ _ )); exact BK549.out)) : gb562 ≠ gb549)); have n10_ := Aside0.mk ((by rw [hg]; exact Nat.ne_of_lt (IsS106.lt (show IsS106 w0 _ g s0_0 t560 t561 from by repeat ((with_reducible exact HI0.out)))) : g ≠ gb562)); have n11_ := Aside0.mk ((by rw [hg]; exact Nat.ne_of_gt (IsS106.lt (show IsS106 w0 _ g s0_0 t560 t561 from by repeat ((with_reducible exact HI0.out)))) : gb562 ≠ g)); clear HO559; clear HI0; clear BK549; clear HK; clear HB; have HO559 := n0_; have HI0 := n1_; have BK549 := n2_; have HK := n3_; have HB := n4_; have BK562 := n5_; have GW562 := n6_; have GE562 := n7_; have NB549_562 := n8_; have NB562_549 := n9_; have NB0_562 := n10_; have NB562_0 := n11_; clear n0_ n1_ n2_ n3_ n4_ n5_ n6_ n7_ n8_ n9_ n10_ n11_; clear hb hbox hg; have hnb11 := NB562_549.out; have hnc11 := NB549_562.out; have hnb12 := NB562_0.out; have hnc12 := NB0_562.out; have hcz13_0 : w10.cell? ⟨gb562, 0, none⟩ = some (.string (⟨#[]⟩ : ByteArray)) := (blk_cell BK562.out 0).trans rfl; have hcz13_1 : w10.cell? ⟨gb562, 1, none⟩ = some (.slice none 0 0) := (blk_cell BK562.out 1).trans rfl; have hfz13_0 := blk_frozen BK562.out 0; have hfz13_1 := blk_frozen BK562.out 1; obtain ⟨Ao14, co14, eo14⟩ := Kd.R_slice HO559.out; subst eo14))
  (try simp only [Act.put, List.setIfInBounds_toArray, List.set_cons_zero, List.set_cons_succ])
  have H := HS5.out
  clear HS5
  by_cases c15 : t550 = 0
  · rw [if_pos c15] at H
    have c15b0 : (t550 == 0) = true := beq_iff_eq.mpr c15
    have c15b1 : (t550 != 0) = false := bne_eq_false_iff_eq.mpr c15
    clear c15
    (rw [c15b0])
    replace H := Option.bind_eq_some_iff.mp H
    obtain ⟨t563, A160, H⟩ := H
    replace H : ((spec_l01Long.f k 81 65).bind fun t564 => ((some (([(⟨#[]⟩ : ByteArray), t563, t564, (⟨#[97, 13, 98]⟩ : ByteArray), (⟨#[71, 69, 84, 32, 47, 97, 32, 98, 32, 72, 84, 84, 80, 47, 49, 46, 49]⟩ : ByteArray), (⟨#[72, 84, 84, 80, 47, 49, 46, 49, 32, 55, 48, 48, 32, 120]⟩ : ByteArray), (⟨#[71, 69, 84, 32, 47, 32, 72, 84, 84, 80, 47, 49, 46, 49]⟩ : ByteArray)] : List ByteArray) : List ByteArray)).bind fun y565 => (if 0 ≤ (Int.tmod t553 7) then (if (Int.tmod t553 7) < (y565.length : Int) then (some (rdOf ByteArray.empty y565 (Int.tmod t553 7), t557, t560, t561)) else (none)) else (none)))) = some (r1, r2, r3, r4) := H
    have A16 := Aside0.mk A160
    clear A160
    replace H := Option.bind_eq_some_iff.mp H
    obtain ⟨t564, A170, H⟩ := H
    replace H : ((some (([(⟨#[]⟩ : ByteArray), t563, t564, (⟨#[97, 13, 98]⟩ : ByteArray), (⟨#[71, 69, 84, 32, 47, 97, 32, 98, 32, 72, 84, 84, 80, 47, 49, 46, 49]⟩ : ByteArray), (⟨#[72, 84, 84, 80, 47, 49, 46, 49, 32, 55, 48, 48, 32, 120]⟩ : ByteArray), (⟨#[71, 69, 84, 32, 47, 32, 72, 84, 84, 80, 47, 49, 46, 49]⟩ : ByteArray)] : List ByteArray) : List ByteArray)).bind fun y565 => (if 0 ≤ (Int.tmod t553 7) then (if (Int.tmod t553 7) < (y565.length : Int) then (some (rdOf ByteArray.empty y565 (Int.tmod t553 7), t557, t560, t561)) else (none)) else (none))) = some (r1, r2, r3, r4) := H
    have A17 := Aside0.mk A170
    clear A170
    obtain ⟨y565, hy565⟩ : ∃ y_ : List ByteArray, y_ = (([(⟨#[]⟩ : ByteArray), t563, t564, (⟨#[97, 13, 98]⟩ : ByteArray), (⟨#[71, 69, 84, 32, 47, 97, 32, 98, 32, 72, 84, 84, 80, 47, 49, 46, 49]⟩ : ByteArray), (⟨#[72, 84, 84, 80, 47, 49, 46, 49, 32, 55, 48, 48, 32, 120]⟩ : ByteArray), (⟨#[71, 69, 84, 32, 47, 32, 72, 84, 84, 80, 47, 49, 46, 49]⟩ : ByteArray)] : List ByteArray)) := ⟨_, rfl⟩
    replace H : (if 0 ≤ (Int.tmod t553 7) then (if (Int.tmod t553 7) < (y565.length : Int) then (some (rdOf ByteArray.empty y565 (Int.tmod t553 7), t557, t560, t561)) else (none)) else (none)) = some (r1, r2, r3, r4) := by (have H2_ := (Option.bind_some _ _).symm.trans H; rw [hy565]; with_reducible exact H2_)
    have Ny565 := Aside0.mk hy565
    clear hy565
    obtain ⟨ji18, hji18⟩ : ∃ j_ : Int, (Int.tmod t553 7) = j_ := ⟨_, rfl⟩
    replace H : (if 0 ≤ (ji18) then (if (ji18) < (y565.length : Int) then (some (rdOf ByteArray.empty y565 (ji18), t557, t560, t561)) else (none)) else (none)) = some (r1, r2, r3, r4) := by (rw [hji18] at H; exact H)
    (try rw [hji18] at A16)
    (try rw [hji18] at A17)
    by_cases c19 : 0 ≤ (ji18)
    · rw [if_pos c19] at H
      have c19b0 : decide (0 ≤ (ji18)) = true := decide_eq_true c19
      clear c19
      by_cases c20 : (ji18) < (y565.length : Int)
      · rw [if_pos c20] at H
        have c20b0 : decide ((ji18) < (y565.length : Int)) = true := decide_eq_true c20
        clear c20
        simp only [Option.some.injEq, Prod.mk.injEq] at H
        obtain ⟨rfl, rfl, rfl, rfl⟩ := H
        go_wp2_with (first | ((with_reducible refine gate_callee (f := 56) rfl ?_); refine goesL_ (some 15) rfl rfl Tryd.func56 (by kernel_rfl) rfl #[.int .i64 80, .int .u8 65] rfl (by (try simp only [List.map_toArray, List.map_cons, List.map_nil]); rfl) ?_; (with_reducible refine (spec_l01Long.calls k 80 65 t563 _ A16.out).mono ?_); rintro e w21 ⟨rfl, hb⟩; refine ⟨_, rfl, ?_⟩; have n0_ := Aside0.mk (Kd.R_below (by (with_reducible repeat (first | apply Kd.R_alloc | apply Kd.R_drewN | apply Kd.R_drew )); exact (Kd.R_mono (Kd.R_far (p := ⟨gb562, 1, none⟩) (Kd.R_far (p := ⟨gb562, 0, none⟩) (Kd.R_types HO559.out BK562.out (by decide)) (fun _ hk => hk.2) (.string t556)) (fun _ hk => hk.2) (.slice Ao14 t557.length co14)) (fun _ h_ => by exact h_.1))) hb); have n1_ := Aside0.mk (IsS106.below (show IsS106 w0 ((w10.setCell ⟨gb562, 0, none⟩ (.string t556)).setCell ⟨gb562, 1, none⟩ (.slice Ao14 t557.length co14)) g s0_0 t560 t561 from by repeat ((with_reducible first | exact HI0.out | refine IsS106.far ?_ NB0_562.out _))) hb); have n2_ := Aside0.mk (blk_below (g := gb549) (o := .cells #[.string (⟨#[]⟩ : ByteArray), .slice none 0 0] 44 (0, 0)) (by (with_reducible repeat (first | refine blk_drewN ?_ _ | refine blk_drew ?_ | refine blk_alloc ?_ _ )); refine blk_far ?_ NB549_562.out _; (with_reducible repeat (first | refine blk_drewN ?_ _ | refine blk_drew ?_ | refine blk_alloc ?_ _ )); refine blk_far ?_ NB549_562.out _; (with_reducible repeat (first | refine blk_drewN ?_ _ | refine blk_drew ?_ | refine blk_alloc ?_ _ )); exact BK549.out) hb); have n3_ := Aside0.mk (blk_below (g := gb562) (o := .cells #[.string t556, .slice Ao14 t557.length co14] 44 (0, 0)) (by (with_reducible repeat (first | refine blk_drewN ?_ _ | refine blk_drew ?_ | refine blk_alloc ?_ _ )); refine blk_put (cs := #[.string t556, .slice none 0 0]) ?_ 1 _ rfl; (with_reducible repeat (first | refine blk_drewN ?_ _ | refine blk_drew ?_ | refine blk_alloc ?_ _ )); refine blk_put (cs := #[.string (⟨#[]⟩ : ByteArray), .slice none 0 0]) ?_ 0 _ rfl; (with_reducible repeat (first | refine blk_drewN ?_ _ | refine blk_drew ?_ | refine blk_alloc ?_ _ )); exact BK562.out) hb); have n4_ := Aside0.mk (KeepBut.trans (by repeat ((with_reducible first | exact HK.out | refine keep_far ?_ GW562.out _))) (KeepBut.of_below hb g none) (.inl rfl)); have n5_ := Aside0.mk (below_step (by repeat ((with_reducible first | exact HB.out | refine below_set ?_ GE562.out))) hb); clear HO559; clear HI0; clear BK549; clear BK562; clear HK; clear HB; have HO559 := n0_; have HI0 := n1_; have BK549 := n2_; have BK562 := n3_; have HK := n4_; have HB := n5_; clear n0_ n1_ n2_ n3_ n4_ n5_; (try clear hb); (try clear hb2); (try clear hk); (try clear hi)) | ((with_reducible refine gate_callee (f := 56) rfl ?_); refine goesL_ (some 16) rfl rfl Tryd.func56 (by kernel_rfl) rfl #[.int .i64 81, .int .u8 65] rfl (by (try simp only [List.map_toArray, List.map_cons, List.map_nil]); rfl) ?_; (with_reducible refine (spec_l01Long.calls k 81 65 t564 _ A17.out).mono ?_); rintro e w22 ⟨rfl, hb⟩; refine ⟨_, rfl, ?_⟩; have n0_ := Aside0.mk (Kd.R_below (by (with_reducible repeat (first | apply Kd.R_alloc | apply Kd.R_drewN | apply Kd.R_drew )); exact HO559.out) hb); have n1_ := Aside0.mk (IsS106.below (by repeat ((with_reducible exact HI0.out))) hb); have n2_ := Aside0.mk (blk_below (g := gb549) (o := .cells #[.string (⟨#[]⟩ : ByteArray), .slice none 0 0] 44 (0, 0)) (by (with_reducible repeat (first | refine blk_drewN ?_ _ | refine blk_drew ?_ | refine blk_alloc ?_ _ )); exact BK549.out) hb); have n3_ := Aside0.mk (blk_below (g := gb562) (o := .cells #[.string t556, .slice Ao14 t557.length co14] 44 (0, 0)) (by (with_reducible repeat (first | refine blk_drewN ?_ _ | refine blk_drew ?_ | refine blk_alloc ?_ _ )); exact BK562.out) hb); have n4_ := Aside0.mk (KeepBut.trans (by repeat ((with_reducible exact HK.out))) (KeepBut.of_below hb g none) (.inl rfl)); have n5_ := Aside0.mk (below_step (by repeat ((with_reducible exact HB.out))) hb); clear HO559; clear HI0; clear BK549; clear BK562; clear HK; clear HB; have HO559 := n0_; have HI0 := n1_; have BK549 := n2_; have BK562 := n3_; have HK := n4_; have HB := n5_; clear n0_ n1_ n2_ n3_ n4_ n5_; (try clear hb); (try clear hb2); (try clear hk); (try clear hi)) | ((with_reducible refine gate_dst (N := 17) rfl ?_); refine Kd.R_lit Kd.string _ 9 ?hg (N := 17) ?hd (xs := ([(⟨#[]⟩ : ByteArray), t563, t564, (⟨#[97, 13, 98]⟩ : ByteArray), (⟨#[71, 69, 84, 32, 47, 97, 32, 98, 32, 72, 84, 84, 80, 47, 49, 46, 49]⟩ : ByteArray), (⟨#[72, 84, 84, 80, 47, 49, 46, 49, 32, 55, 48, 48, 32, 120]⟩ : ByteArray), (⟨#[71, 69, 84, 32, 47, 32, 72, 84, 84, 80, 47, 49, 46, 49]⟩ : ByteArray)] : List ByteArray)) (inner := [.string (⟨#[]⟩ : ByteArray), .string t563, .string t564, .string (⟨#[97, 13, 98]⟩ : ByteArray), .string (⟨#[71, 69, 84, 32, 47, 97, 32, 98, 32, 72, 84, 84, 80, 47, 49, 46, 49]⟩ : ByteArray), .string (⟨#[72, 84, 84, 80, 47, 49, 46, 49, 32, 55, 48, 48, 32, 120]⟩ : ByteArray), .string (⟨#[71, 69, 84, 32, 47, 32, 72, 84, 84, 80, 47, 49, 46, 49]⟩ : ByteArray)]) (ok := fun _ => True) (okp := fun _ => True) ?hr ?hp (fun _ hk => hk) trivial (Below.refl _ _) (Nat.le_refl _) (by simp) ?_; (case hd => rfl); (case hg => rfl); (case hr => (go_simp; done)); (case hp => exact (Reps.one (show Kd.M Kd.string _ _ _ (⟨#[]⟩ : ByteArray) [.string (⟨#[]⟩ : ByteArray)] from rfl) (Reps.one (show Kd.M Kd.string _ _ _ t563 [.string t563] from rfl) (Reps.one (show Kd.M Kd.string _ _ _ t564 [.string t564] from rfl) (Reps.one (show Kd.M Kd.string _ _ _ (⟨#[97, 13, 98]⟩ : ByteArray) [.string (⟨#[97, 13, 98]⟩ : ByteArray)] from rfl) (Reps.one (show Kd.M Kd.string _ _ _ (⟨#[71, 69, 84, 32, 47, 97, 32, 98, 32, 72, 84, 84, 80, 47, 49, 46, 49]⟩ : ByteArray) [.string (⟨#[71, 69, 84, 32, 47, 97, 32, 98, 32, 72, 84, 84, 80, 47, 49, 46, 49]⟩ : ByteArray)] from rfl) (Reps.one (show Kd.M Kd.string _ _ _ (⟨#[72, 84, 84, 80, 47, 49, 46, 49, 32, 55, 48, 48, 32, 120]⟩ : ByteArray) [.string (⟨#[72, 84, 84, 80, 47, 49, 46, 49, 32, 55, 48, 48, 32, 120]⟩ : ByteArray)] from rfl) (Reps.one (show Kd.M Kd.string _ _ _ (⟨#[71, 69, 84, 32, 47, 32, 72, 84, 84, 80, 47, 49, 46, 49]⟩ : ByteArray) [.string (⟨#[71, 69, 84, 32, 47, 32, 72, 84, 84, 80, 47, 49, 46, 49]⟩ : ByteArray)] from rfl) (Reps.none _ _))))))))); intro v566 w23 ho24 hb hg_ hnew_; clear hg_ hnew_; (rw [← Ny565.out] at ho24); have n0_ := Aside0.mk (Kd.R_below (by (with_reducible repeat (first | apply Kd.R_alloc | apply Kd.R_drewN | apply Kd.R_drew )); exact HO559.out) hb); have n1_ := Aside0.mk (Kd.R_lower ho24 (keep_size (w := w) (g := g) (row := none) (by repeat ((with_reducible exact HK.out))))); have n2_ := Aside0.mk (IsS106.below (by repeat ((with_reducible exact HI0.out))) hb); have n3_ := Aside0.mk (blk_below (g := gb549) (o := .cells #[.string (⟨#[]⟩ : ByteArray), .slice none 0 0] 44 (0, 0)) (by (with_reducible repeat (first | refine blk_drewN ?_ _ | refine blk_drew ?_ | refine blk_alloc ?_ _ )); exact BK549.out) hb); have n4_ := Aside0.mk (blk_below (g := gb562) (o := .cells #[.string t556, .slice Ao14 t557.length co14] 44 (0, 0)) (by (with_reducible repeat (first | refine blk_drewN ?_ _ | refine blk_drew ?_ | refine blk_alloc ?_ _ )); exact BK562.out) hb); have n5_ := Aside0.mk (KeepBut.trans (by repeat ((with_reducible exact HK.out))) (KeepBut.of_below hb g none) (.inl rfl)); have n6_ := Aside0.mk (below_step (by repeat ((with_reducible exact HB.out))) hb); clear HO559; clear HI0; clear BK549; clear BK562; clear HK; clear HB; have HO559 := n0_; have HO567 := n1_; have HI0 := n2_; have BK549 := n3_; have BK562 := n4_; have HK := n5_; have HB := n6_; clear n0_ n1_ n2_ n3_ n4_ n5_ n6_; clear hb ho24; obtain ⟨Ao25, co25, eo25⟩ := Kd.R_slice HO567.out; subst eo25; have p568 : 0 ≤ ((ji18) : Int) := of_decide_eq_true (by (with_reducible assumption)); have q568 : (ji18) < (y565.length : Int) := of_decide_eq_true (by (with_reducible assumption)); obtain ⟨ad568, e568, hx568_0⟩ := Kd.at_string (Kd.R_reads' HO567.out).2.2 (ji18) p568 q568; cases e568; replace p568 := eq_true p568; replace q568 := eq_true q568; have hnb26 := NB562_549.out; have hnc26 := NB549_562.out; have hnb27 := NB562_0.out; have hnc27 := NB0_562.out; have hcz28_0 : w23.cell? ⟨gb562, 0, none⟩ = some (.string t556) := (blk_cell BK562.out 0).trans rfl; have hcz28_1 : w23.cell? ⟨gb562, 1, none⟩ = some (.slice Ao14 t557.length co14) := (blk_cell BK562.out 1).trans rfl; have hfz28_0 := blk_frozen BK562.out 0; have hfz28_1 := blk_frozen BK562.out 1; have hnb29 := NB549_0.out; have hnc29 := NB0_549.out; have hcz30_0 : w23.cell? ⟨gb549, 0, none⟩ = some (.string (⟨#[]⟩ : ByteArray)) := (blk_cell BK549.out 0).trans rfl; have hcz30_1 : w23.cell? ⟨gb549, 1, none⟩ = some (.slice none 0 0) := (blk_cell BK549.out 1).trans rfl; have hfz30_0 := blk_frozen BK549.out 0; have hfz30_1 := blk_frozen BK549.out 1))
        refine bodyPost_ret (results_cell_row rfl _ _ gb549 44 #[.string (rdOf ByteArray.empty y565 (ji18)), .slice Ao14 t557.length co14] (0, 0) _ rfl (by (with_reducible repeat (first | refine blk_drewN ?_ _ | refine blk_drew ?_ | refine blk_alloc ?_ _ )); refine blk_put (cs := #[.string (rdOf ByteArray.empty y565 (ji18)), .slice none 0 0]) ?_ 1 _ rfl; (with_reducible repeat (first | refine blk_drewN ?_ _ | refine blk_drew ?_ | refine blk_alloc ?_ _ )); refine blk_put (cs := #[.string (⟨#[]⟩ : ByteArray), .slice none 0 0]) ?_ 0 _ rfl; (with_reducible repeat (first | refine blk_drewN ?_ _ | refine blk_drew ?_ | refine blk_alloc ?_ _ )); refine blk_far ?_ NB549_562.out _; (with_reducible repeat (first | refine blk_drewN ?_ _ | refine blk_drew ?_ | refine blk_alloc ?_ _ )); exact BK549.out) Tryd.underlying44 rfl (by kernel_rfl)) rfl ?_
        exact ⟨_, by rfl, by (with_reducible repeat (first | apply Kd.R_alloc | apply Kd.R_drewN | apply Kd.R_drew )); exact Kd.R_mono (Kd.R_far (p := ⟨gb549, 1, none⟩) (Kd.R_far (p := ⟨gb549, 0, none⟩) (Kd.R_far (p := ⟨gb562, 0, none⟩) (Kd.R_types (Kd.R_types HO559.out BK562.out (by decide)) BK549.out (by decide)) (fun _ hk => hk.1.2) (.string (rdOf ByteArray.empty y565 (ji18)))) (fun _ hk => hk.2) (.string (rdOf ByteArray.empty y565 (ji18)))) (fun _ hk => hk.2) (.slice Ao14 t557.length co14)) (fun _ hk => trivial), by repeat ((with_reducible first | exact HI0.out | refine IsS106.far ?_ NB0_549.out _ | refine IsS106.far ?_ NB0_562.out _)), by repeat ((with_reducible first | exact HB.out | refine below_set ?_ GE549.out | refine below_set ?_ GE562.out)), by repeat ((with_reducible first | exact HK.out | refine keep_far ?_ GW549.out _ | refine keep_far ?_ GW562.out _))⟩
      · rw [if_neg c20] at H
        exact absurd H (by simp)
    · rw [if_neg c19] at H
      exact absurd H (by simp)
  · rw [if_neg c15] at H
    have c15b0 : (t550 == 0) = false := beq_eq_false_iff_ne.mpr c15
    have c15b1 : (t550 != 0) = true := bne_iff_ne.mpr c15
    (rw [c15b0])
    by_cases c31 : t550 = 1
    · rw [if_pos c31] at H
      have c31b0 : (t550 == 1) = true := beq_iff_eq.mpr c31
      have c31b1 : (t550 != 1) = false := bne_eq_false_iff_eq.mpr c31
      clear c31
      by_cases c32 : (t557.length : Int) > 0
      · rw [if_pos c32] at H
        have c32b0 : decide (0 < (t557.length : Int)) = true := decide_eq_true c32
        have c32b1 : decide (0 < t557.length) = true := decide_eq_true (by omega)
        clear c32
        replace H := Option.bind_eq_some_iff.mp H
        obtain ⟨t569, A330, H⟩ := H
        replace H : ((some (([(⟨#[]⟩ : ByteArray), (⟨#[65]⟩ : ByteArray), (⟨#[97, 32, 98]⟩ : ByteArray), t569, (⟨#[45]⟩ : ByteArray)] : List ByteArray) : List ByteArray)).bind fun y570 => (if 0 ≤ (Int.tmod t553 5) then (if (Int.tmod t553 5) < (y570.length : Int) then (if 0 < (t557.length : Int) then (some (t556, (t557.set (0 : Int).toNat (⟨rdOf ByteArray.empty y570 (Int.tmod t553 5), (rd_T41 t557 0).f1⟩ : S41)), t560, t561)) else (none)) else (none)) else (none))) = some (r1, r2, r3, r4) := H
        have A33 := Aside0.mk A330
        clear A330
        obtain ⟨y570, hy570⟩ : ∃ y_ : List ByteArray, y_ = (([(⟨#[]⟩ : ByteArray), (⟨#[65]⟩ : ByteArray), (⟨#[97, 32, 98]⟩ : ByteArray), t569, (⟨#[45]⟩ : ByteArray)] : List ByteArray)) := ⟨_, rfl⟩
        replace H : (if 0 ≤ (Int.tmod t553 5) then (if (Int.tmod t553 5) < (y570.length : Int) then (if 0 < (t557.length : Int) then (some (t556, (t557.set (0 : Int).toNat (⟨rdOf ByteArray.empty y570 (Int.tmod t553 5), (rd_T41 t557 0).f1⟩ : S41)), t560, t561)) else (none)) else (none)) else (none)) = some (r1, r2, r3, r4) := by (have H2_ := (Option.bind_some _ _).symm.trans H; rw [hy570]; with_reducible exact H2_)
        have Ny570 := Aside0.mk hy570
        clear hy570
        obtain ⟨ji34, hji34⟩ : ∃ j_ : Int, (Int.tmod t553 5) = j_ := ⟨_, rfl⟩
        replace H : (if 0 ≤ (ji34) then (if (ji34) < (y570.length : Int) then (if 0 < (t557.length : Int) then (some (t556, (t557.set (0 : Int).toNat (⟨rdOf ByteArray.empty y570 (ji34), (rd_T41 t557 0).f1⟩ : S41)), t560, t561)) else (none)) else (none)) else (none)) = some (r1, r2, r3, r4) := by (rw [hji34] at H; exact H)
        (try rw [hji34] at A33)
        by_cases c35 : 0 ≤ (ji34)
        · rw [if_pos c35] at H
          have c35b0 : decide (0 ≤ (ji34)) = true := decide_eq_true c35
          clear c35
          by_cases c36 : (ji34) < (y570.length : Int)
          · rw [if_pos c36] at H
            have c36b0 : decide ((ji34) < (y570.length : Int)) = true := decide_eq_true c36
            clear c36
            by_cases c37 : 0 < (t557.length : Int)
            · rw [if_pos c37] at H
              have c37b0 : decide (0 < (t557.length : Int)) = true := decide_eq_true c37
              have c37b1 : decide (0 < t557.length) = true := decide_eq_true (by omega)
              clear c37
              obtain ⟨y574, hy574⟩ : ∃ y_ : List (S41), y_ = (t557.set (0 : Int).toNat (⟨rdOf ByteArray.empty y570 (ji34), (rd_T41 t557 0).f1⟩ : S41)) := ⟨_, rfl⟩
              replace H : (some (t556, y574, t560, t561)) = some (r1, r2, r3, r4) := by (rw [hy574]; with_reducible exact H)
              have Ny574 := Aside0.mk hy574
              clear hy574
              simp only [Option.some.injEq, Prod.mk.injEq] at H
              obtain ⟨rfl, rfl, rfl, rfl⟩ := H
              have hnb39 := NB562_549.out
              have hnc39 := NB549_562.out
              have hnb40 := NB562_0.out
              have hnc40 := NB0_562.out
              have hcz41_0 : w10.cell? ⟨gb562, 0, none⟩ = some (.string (⟨#[]⟩ : ByteArray)) := (blk_cell BK562.out 0).trans rfl
              have hcz41_1 : w10.cell? ⟨gb562, 1, none⟩ = some (.slice none 0 0) := (blk_cell BK562.out 1).trans rfl
              have hfz41_0 := blk_frozen BK562.out 0
              have hfz41_1 := blk_frozen BK562.out 1
              go_wp2
              have pi573 : (0 ≤ ((ji34) : Int)) = True := eq_true (of_decide_eq_true (by (with_reducible assumption)))
              have qi573 : ((ji34) < (y570.length : Int)) = True := eq_true (of_decide_eq_true (by (with_reducible assumption)))
              have n0_ : Aside0 (Kd.R k41 41 ((w10.setCell ⟨gb562, 0, none⟩ (.string t556)).setCell ⟨gb562, 1, none⟩ (.slice Ao14 t557.length co14)) w.heap.size (fun _ => True) (.slice Ao14 t557.length co14) t557) := ⟨by (with_reducible repeat (first | apply Kd.R_alloc | apply Kd.R_drewN | apply Kd.R_drew )); exact Kd.R_mono (Kd.R_far (p := ⟨gb562, 1, none⟩) (Kd.R_far (p := ⟨gb562, 0, none⟩) (Kd.R_types HO559.out BK562.out (by decide)) (fun _ hk => hk.2) (.string t556)) (fun _ hk => hk.2) (.slice Ao14 t557.length co14)) (fun _ hk => trivial)⟩
              have n1_ : Aside0 (((w10.setCell ⟨gb562, 0, none⟩ (.string t556)).setCell ⟨gb562, 1, none⟩ (.slice Ao14 t557.length co14)).heap[gb549]? = some (.cells #[.string (⟨#[]⟩ : ByteArray), .slice none 0 0] 44 (0, 0))) := ⟨by (with_reducible repeat (first | refine blk_drewN ?_ _ | refine blk_drew ?_ | refine blk_alloc ?_ _ )); refine blk_far ?_ NB549_562.out _; (with_reducible repeat (first | refine blk_drewN ?_ _ | refine blk_drew ?_ | refine blk_alloc ?_ _ )); refine blk_far ?_ NB549_562.out _; (with_reducible repeat (first | refine blk_drewN ?_ _ | refine blk_drew ?_ | refine blk_alloc ?_ _ )); exact BK549.out⟩
              have n2_ : Aside0 (((w10.setCell ⟨gb562, 0, none⟩ (.string t556)).setCell ⟨gb562, 1, none⟩ (.slice Ao14 t557.length co14)).heap[gb562]? = some (.cells #[.string t556, .slice Ao14 t557.length co14] 44 (0, 0))) := ⟨by (with_reducible repeat (first | refine blk_drewN ?_ _ | refine blk_drew ?_ | refine blk_alloc ?_ _ )); refine blk_put (cs := #[.string t556, .slice none 0 0]) ?_ 1 _ rfl; (with_reducible repeat (first | refine blk_drewN ?_ _ | refine blk_drew ?_ | refine blk_alloc ?_ _ )); refine blk_put (cs := #[.string (⟨#[]⟩ : ByteArray), .slice none 0 0]) ?_ 0 _ rfl; (with_reducible repeat (first | refine blk_drewN ?_ _ | refine blk_drew ?_ | refine blk_alloc ?_ _ )); exact BK562.out⟩
              have n3_ : Aside0 (IsS106 w0 ((w10.setCell ⟨gb562, 0, none⟩ (.string t556)).setCell ⟨gb562, 1, none⟩ (.slice Ao14 t557.length co14)) g s0_0 t560 t561) := ⟨by repeat ((with_reducible first | exact HI0.out | refine IsS106.far ?_ NB0_562.out _))⟩
              have n4_ : Aside0 (KeepBut w ((w10.setCell ⟨gb562, 0, none⟩ (.string t556)).setCell ⟨gb562, 1, none⟩ (.slice Ao14 t557.length co14)) g none) := ⟨by repeat ((with_reducible first | exact HK.out | refine keep_far ?_ GW562.out _))⟩
              have n5_ : Aside0 (Below w0.heap.size w0 ((w10.setCell ⟨gb562, 0, none⟩ (.string t556)).setCell ⟨gb562, 1, none⟩ (.slice Ao14 t557.length co14))) := ⟨by repeat ((with_reducible first | exact HB.out | refine below_set ?_ GE562.out))⟩
              (try clear HO559)
              (try clear BK549)
              (try clear BK562)
              (try clear HI0)
              (try clear HK)
              (try clear HB)
              generalize ((w10.setCell ⟨gb562, 0, none⟩ (.string t556)).setCell ⟨gb562, 1, none⟩ (.slice Ao14 t557.length co14)) = w42 at n0_ n1_ n2_ n3_ n4_ n5_ ⊢
              have HO559 := n0_
              have BK549 := n1_
              have BK562 := n2_
              have HI0 := n3_
              have HK := n4_
              have HB := n5_
              clear n0_ n1_ n2_ n3_ n4_ n5_
              have n0_ := Aside0.mk (Kd.R_drew HO559.out)
              have n1_ := Aside0.mk (blk_drew BK549.out)
              have n2_ := Aside0.mk (blk_drew BK562.out)
              have n3_ := Aside0.mk (IsS106.drew HI0.out)
              have n4_ := Aside0.mk (keep_drew HK.out)
              have n5_ := Aside0.mk (below_drew1 HB.out)
              clear HO559
              clear BK549
              clear BK562
              clear HI0
              clear HK
              clear HB
              have HO559 := n0_
              have BK549 := n1_
              have BK562 := n2_
              have HI0 := n3_
              have HK := n4_
              have HB := n5_
              clear n0_ n1_ n2_ n3_ n4_ n5_
              refine start_ (n := 11) (S := fun w' => w'.cell? ⟨gb562, 0, none⟩ = some (.string t556) ∧ w'.cell? ⟨gb562, 1, none⟩ = some (.slice Ao14 t557.length co14)) (ds := [10]) #[false, false, false, false, false, false, false, false, false, false, false] (by kernel_rfl) rfl rfl ⟨(blk_cell BK562.out 0).trans rfl, (blk_cell BK562.out 1).trans rfl⟩ (fun hHeld => ?_); refine with_tabW spec_l09Any.tab9 spec_l09Any.bits9 (fun HT_ HW_ => ?_)
              generalize w42.drew = w43 at HO559 BK549 BK562 HI0 HK HB hHeld ⊢
              refine pure_ (i := 0) (N := some 29) (v := ?_) (a' := ?_) #[true, false, false, false, false, false, false, false, false, false, false] rfl rfl (any_of HT_.out (by kernel_rfl)) (fun _ _ _ h => h) (Or.inl ⟨by rfl, ?_⟩) ?_ ?_
              rotate_left
              · intro w'
                go_simp
                with_reducible rfl
              rotate_left
              · simp only [Act.put, List.setIfInBounds_toArray, List.set_cons_zero, List.set_cons_succ, i64_w, i32_w]
                rfl
              refine pure_ (i := 4) (N := some 33) (v := ?_) (a' := ?_) #[true, false, false, false, true, false, false, false, false, false, false] rfl rfl (any_of HT_.out (by kernel_rfl)) (fun _ _ _ h => h) (Or.inl ⟨by rfl, ?_⟩) ?_ ?_
              rotate_left
              · intro w'
                go_simp
                with_reducible rfl
              rotate_left
              · simp only [Act.put, List.setIfInBounds_toArray, List.set_cons_zero, List.set_cons_succ, i64_w, i32_w]
                rfl
              refine pure_ (i := 5) (N := some 34) (v := ?_) (a' := ?_) #[true, false, false, false, true, true, false, false, false, false, false] rfl rfl (any_of HT_.out (by kernel_rfl)) (fun _ _ _ h => h) (Or.inl ⟨by rfl, ?_⟩) ?_ ?_
              rotate_left
              · intro w'
                go_simp
                with_reducible rfl
              rotate_left
              · simp only [Act.put, List.setIfInBounds_toArray, List.set_cons_zero, List.set_cons_succ, i64_w, i32_w]
                rfl
              refine take_ (i := 1) (N := some 30) (v := ?_) (a' := ?_) #[true, true, false, false, true, true, false, false, false, false, false] rfl rfl (take_ofW HT_.out HW_.out (by kernel_rfl)) (fun _ _ _ h => h) (Or.inl ⟨by rfl, ?_⟩) hHeld ?_ ?_
              rotate_left
              · rintro w' ⟨s0, s1⟩
                go_simp
                with_reducible rfl
              rotate_left
              · simp only [Act.put, List.setIfInBounds_toArray, List.set_cons_zero, List.set_cons_succ, i64_w, i32_w]
                rfl
              refine one_ (i := 2) (N := some 31) #[true, true, true, false, true, true, false, false, false, false, false] rfl rfl (one_of HT_.out (by kernel_rfl)) (by decide) (fun K hK => ?_)
              refine goes_ Tryd.func56 (by kernel_rfl) rfl #[.int .i64 21, .int .u8 97] (by rfl) rfl rfl (by (try simp only [List.map_toArray, List.map_cons, List.map_nil]); rfl) ?_
              with_reducible refine (spec_l01Long.calls k 21 97 t569 _ A33.out).mono ?_
              rintro e w44 ⟨rfl, hb⟩
              refine ⟨_, rfl, ?_⟩
              have n0_ := Aside0.mk (Kd.R_below (by (with_reducible repeat (first | apply Kd.R_alloc | apply Kd.R_drewN | apply Kd.R_drew )); exact HO559.out) hb)
              have n1_ := Aside0.mk (IsS106.below (by repeat ((with_reducible exact HI0.out))) hb)
              have n2_ := Aside0.mk (blk_below (g := gb549) (o := .cells #[.string (⟨#[]⟩ : ByteArray), .slice none 0 0] 44 (0, 0)) (by (with_reducible repeat (first | refine blk_drewN ?_ _ | refine blk_drew ?_ | refine blk_alloc ?_ _ )); exact BK549.out) hb)
              have n3_ := Aside0.mk (blk_below (g := gb562) (o := .cells #[.string t556, .slice Ao14 t557.length co14] 44 (0, 0)) (by (with_reducible repeat (first | refine blk_drewN ?_ _ | refine blk_drew ?_ | refine blk_alloc ?_ _ )); exact BK562.out) hb)
              have n4_ := Aside0.mk (KeepBut.trans (by repeat ((with_reducible exact HK.out))) (KeepBut.of_below hb g none) (.inl rfl))
              have n5_ := Aside0.mk (below_step (by repeat ((with_reducible exact HB.out))) hb)
              clear HO559
              clear HI0
              clear BK549
              clear BK562
              clear HK
              clear HB
              have HO559 := n0_
              have HI0 := n1_
              have BK549 := n2_
              have BK562 := n3_
              have HK := n4_
              have HB := n5_
              clear n0_ n1_ n2_ n3_ n4_ n5_
              (try clear hb)
              (try clear hb2)
              (try clear hk)
              (try clear hi)
              refine hK.out _ _ ⟨(blk_cell BK562.out 0).trans rfl, (blk_cell BK562.out 1).trans rfl⟩ (fun hHeld => ?_)
              clear hK K
              refine norm_ (a' := ?_) ?_ ?_
              rotate_left
              · show Act.put _ (some 31) _ = _
                simp only [Act.put, List.setIfInBounds_toArray, List.set_cons_zero, List.set_cons_succ, i64_w, i32_w]
                rfl
              refine one_ (i := 3) (N := some 32) #[true, true, true, true, true, true, false, false, false, false, false] rfl rfl (one_of HT_.out (by kernel_rfl)) (by decide) (fun K hK => ?_)
              refine Kd.R_lit_step Kd.string _ 9 ?hg (N := 32) ?hd (xs := ([(⟨#[]⟩ : ByteArray), (⟨#[65]⟩ : ByteArray), (⟨#[97, 32, 98]⟩ : ByteArray), t569, (⟨#[45]⟩ : ByteArray)] : List ByteArray)) (inner := [.string (⟨#[]⟩ : ByteArray), .string (⟨#[65]⟩ : ByteArray), .string (⟨#[97, 32, 98]⟩ : ByteArray), .string t569, .string (⟨#[45]⟩ : ByteArray)]) (ok := fun _ => True) (okp := fun _ => True) ?hr ?hp (fun _ hk => hk) trivial (Below.refl _ _) (Nat.le_refl _) (by simp) ?_; (case hd => rfl); (case hg => rfl); (case hr => (go_simp; done)); (case hp => exact (Reps.one (show Kd.M Kd.string _ _ _ (⟨#[]⟩ : ByteArray) [.string (⟨#[]⟩ : ByteArray)] from rfl) (Reps.one (show Kd.M Kd.string _ _ _ (⟨#[65]⟩ : ByteArray) [.string (⟨#[65]⟩ : ByteArray)] from rfl) (Reps.one (show Kd.M Kd.string _ _ _ (⟨#[97, 32, 98]⟩ : ByteArray) [.string (⟨#[97, 32, 98]⟩ : ByteArray)] from rfl) (Reps.one (show Kd.M Kd.string _ _ _ t569 [.string t569] from rfl) (Reps.one (show Kd.M Kd.string _ _ _ (⟨#[45]⟩ : ByteArray) [.string (⟨#[45]⟩ : ByteArray)] from rfl) (Reps.none _ _)))))))
              intro v571 w45 ho46 hb hg_ hnew_
              clear hg_ hnew_
              (rw [← Ny570.out] at ho46)
              have n0_ := Aside0.mk (Kd.R_below (by (with_reducible repeat (first | apply Kd.R_alloc | apply Kd.R_drewN | apply Kd.R_drew )); exact HO559.out) hb)
              have n1_ := Aside0.mk (Kd.R_lower ho46 (keep_size (w := w) (g := g) (row := none) (by repeat ((with_reducible exact HK.out)))))
              have n2_ := Aside0.mk (IsS106.below (by repeat ((with_reducible exact HI0.out))) hb)
              have n3_ := Aside0.mk (blk_below (g := gb549) (o := .cells #[.string (⟨#[]⟩ : ByteArray), .slice none 0 0] 44 (0, 0)) (by (with_reducible repeat (first | refine blk_drewN ?_ _ | refine blk_drew ?_ | refine blk_alloc ?_ _ )); exact BK549.out) hb)
              have n4_ := Aside0.mk (blk_below (g := gb562) (o := .cells #[.string t556, .slice Ao14 t557.length co14] 44 (0, 0)) (by (with_reducible repeat (first | refine blk_drewN ?_ _ | refine blk_drew ?_ | refine blk_alloc ?_ _ )); exact BK562.out) hb)
              have n5_ := Aside0.mk (KeepBut.trans (by repeat ((with_reducible exact HK.out))) (KeepBut.of_below hb g none) (.inl rfl))
              have n6_ := Aside0.mk (below_step (by repeat ((with_reducible exact HB.out))) hb)
              clear HO559
              clear HI0
              clear BK549
              clear BK562
              clear HK
              clear HB
              have HO559 := n0_
              have HO572 := n1_
              have HI0 := n2_
              have BK549 := n3_
              have BK562 := n4_
              have HK := n5_
              have HB := n6_
              clear n0_ n1_ n2_ n3_ n4_ n5_ n6_
              clear hb ho46
              obtain ⟨Ao47, co47, eo47⟩ := Kd.R_slice HO572.out
              subst eo47
              obtain ⟨ado47, fo47, _⟩ := Kd.at_string (Kd.R_reads' HO572.out).2.2 0 (by decide) (by rw [Ny570.out]; simp)
              cases fo47
              have p38 : 0 ≤ (0 : Int) := (by omega)
              have q38 : (0 : Int) < ((t557.length : Int) : Int) := of_decide_eq_true (by (with_reducible assumption))
              have qi38 : (0 < t557.length) = True := eq_true (by omega)
              obtain ⟨go38, co38, eo38, gb38, gl38, cl38, HG38⟩ := Kd.R_form HO559.out (by omega)
              (cases eo38)
              have GB38 := Aside0.mk gb38
              have GG38 := Aside0.mk HG38
              clear gb38 gl38 HG38
              obtain ⟨ce38, hcl38, hM38, hcc38, hfr38⟩ := Kd.R_elem HO559.out z41 (0 : Int) p38 q38
              obtain rfl := k41_openM hM38
              have hx38_0 : World.cell? _ ⟨go38, (0 : Int).toNat * 2, none⟩ = some (.string ((rd_T41 t557 0).f0)) := hcc38 0 _ rfl
              have hx38_1 : World.cell? _ ⟨go38, (0 : Int).toNat * 2 + 1, none⟩ = some (.string ((rd_T41 t557 0).f1)) := hcc38 1 _ rfl
              have hf38_0 : World.frozen? _ ⟨go38, (0 : Int).toNat * 2, none⟩ = false := hfr38 0
              have hf38_1 : World.frozen? _ ⟨go38, (0 : Int).toNat * 2 + 1, none⟩ = false := hfr38 1
              (clear hcl38 hcc38 hfr38 hM38)
              (try rw [show ((0 : Int)).toNat = 0 from rfl] at hx38_0)
              (try simp only [Nat.reduceMul, Nat.zero_mul, Nat.zero_add, Nat.reduceAdd] at hx38_0)
              (try rw [show ((0 : Int)).toNat = 0 from rfl] at hf38_0)
              (try simp only [Nat.reduceMul, Nat.zero_mul, Nat.zero_add, Nat.reduceAdd] at hf38_0)
              (try rw [show ((0 : Int)).toNat = 0 from rfl] at hx38_1)
              (try simp only [Nat.reduceMul, Nat.zero_mul, Nat.zero_add, Nat.reduceAdd] at hx38_1)
              (try rw [show ((0 : Int)).toNat = 0 from rfl] at hf38_1)
              (try simp only [Nat.reduceMul, Nat.zero_mul, Nat.zero_add, Nat.reduceAdd] at hf38_1)
              replace p38 := eq_true p38
              replace q38 := eq_true q38
              have HN0_go38 := Aside0.mk (show g ≠ go38 from by have h_ := IsS106.own_ne HI0.out HO559.out (by decide); intro e_; exact h_ (by rw [e_]; rfl))
              obtain ⟨ce48, hcl48, hM48, hcc48, hfr48⟩ := Kd.R_elem HO559.out z41 (0 : Int) (by omega) (by have h_ : (0 : Int) < ((t557.length : Int) : Int) := of_decide_eq_true (by (with_reducible assumption)); exact h_)
              obtain rfl := k41_openM hM48
              have HP48 := (Kd.R_seg HO559.out (0 : Int) (by omega) (by have h_ : (0 : Int) < ((t557.length : Int) : Int) := of_decide_eq_true (by (with_reducible assumption)); exact h_) (seg := [.string (rdOf ByteArray.empty y570 (ji34))]) (j := 0) hcl48 hcc48 (show 1 ≤ 2 from by decide) (x' := (⟨rdOf ByteArray.empty y570 (ji34), (rd_T41 t557 0).f1⟩ : S41)) (k41_mkM _ _ _ (⟨rdOf ByteArray.empty y570 (ji34), (rd_T41 t557 0).f1⟩ : S41) ) (fun _ hk => hk)).1
              rw [← Ny574.out] at HP48
              have HQ48 := Aside0.mk HP48
              (clear hcl48 hcc48 hfr48 hM48 HP48)
              refine hK.out _ _ ⟨(blk_cell BK562.out 0).trans rfl, (blk_cell BK562.out 1).trans rfl⟩ (fun hHeld => ?_)
              clear hK K
              refine norm_ (a' := ?_) ?_ ?_
              rotate_left
              · show Act.put _ (some 32) _ = _
                simp only [Act.put, List.setIfInBounds_toArray, List.set_cons_zero, List.set_cons_succ, i64_w, i32_w]
                rfl
              refine pure_ (i := 6) (N := some 35) (v := ?_) (a' := ?_) #[true, true, true, true, true, true, true, false, false, false, false] rfl rfl (any_of HT_.out (by kernel_rfl)) (fun _ _ _ h => h) (Or.inl ⟨by rfl, ?_⟩) ?_ ?_
              rotate_left
              · intro w'
                go_simp
                with_reducible rfl
              rotate_left
              · simp only [Act.put, List.setIfInBounds_toArray, List.set_cons_zero, List.set_cons_succ, i64_w, i32_w]
                rfl
              refine one_ (i := 7) (N := some 36) #[true, true, true, true, true, true, true, true, false, false, false] rfl rfl (one_of HT_.out (by kernel_rfl)) (by decide) (fun K hK => ?_)
              (have p573 : 0 ≤ ((ji34) : Int) := of_decide_eq_true (by (with_reducible assumption)); have q573 : (ji34) < (y570.length : Int) := of_decide_eq_true (by (with_reducible assumption)); obtain ⟨ad573, e573, hx573_0⟩ := Kd.at_string (Kd.R_reads' HO572.out).2.2 (ji34) p573 q573; obtain rfl : ado47 = ad573 := (by injection e573))
              refine value_ (w1 := ?_) (v := ?_) (by rfl) rfl ?_ ?_
              rotate_left 2
              · go_simp
                constructor
                · rfl
                · rfl
              clear hx573_0
              refine hK.out _ _ ⟨(blk_cell BK562.out 0).trans rfl, (blk_cell BK562.out 1).trans rfl⟩ (fun hHeld => ?_)
              clear hK K
              refine norm_ (a' := ?_) ?_ ?_
              rotate_left
              · show Act.put _ (some 36) _ = _
                simp only [Act.put, List.setIfInBounds_toArray, List.set_cons_zero, List.set_cons_succ, i64_w, i32_w]
                rfl
              refine pure_ (i := 8) (N := some 37) (v := ?_) (a' := ?_) #[true, true, true, true, true, true, true, true, true, false, false] rfl rfl (any_of HT_.out (by kernel_rfl)) (fun _ _ _ h => h) (Or.inl ⟨by rfl, ?_⟩) ?_ ?_
              rotate_left
              · intro w'
                go_simp
                with_reducible rfl
              rotate_left
              · simp only [Act.put, List.setIfInBounds_toArray, List.set_cons_zero, List.set_cons_succ, i64_w, i32_w]
                rfl
              refine pure_ (i := 9) (N := some 38) (v := ?_) (a' := ?_) #[true, true, true, true, true, true, true, true, true, true, false] rfl rfl (any_of HT_.out (by kernel_rfl)) (fun _ _ _ h => h) (Or.inl ⟨by rfl, ?_⟩) ?_ ?_
              rotate_left
              · intro w'
                go_simp
                with_reducible rfl
              rotate_left
              · simp only [Act.put, List.setIfInBounds_toArray, List.set_cons_zero, List.set_cons_succ, i64_w, i32_w]
                rfl
              refine last_ (i := 10) (N := none) #[true, true, true, true, true, true, true, true, true, true, true] rfl rfl (one_of HT_.out (by kernel_rfl)) (by decide) (fun K hK => ?_)
              refine skip_ (w1 := ?_) (by rfl) rfl ?_ ?_
              rotate_left
              · go_simp
                rfl
              refine hK.out _ _ ?_
              clear hK K
              refine done_ (done_of HT_.out (by kernel_rfl)) ?_
              have n0_ : Aside0 (Kd.R k41 41 (w45.setCell ⟨go38, 0, none⟩ (.string (rdOf ByteArray.empty y570 (ji34)))) w.heap.size (fun _ => True) (.slice (some ⟨go38, 0, none⟩) t557.length co14) y574) := ⟨by (with_reducible repeat (first | apply Kd.R_alloc | apply Kd.R_drewN | apply Kd.R_drew )); exact HQ48.out⟩
              have n1_ : Aside0 (Kd.R Kd.string 9 (w45.setCell ⟨go38, 0, none⟩ (.string (rdOf ByteArray.empty y570 (ji34)))) w.heap.size (fun _ => True) (.slice (some ado47) y570.length co47) y570) := ⟨by (with_reducible repeat (first | apply Kd.R_alloc | apply Kd.R_drewN | apply Kd.R_drew )); exact Kd.R_mono (Kd.R_far (p := ⟨go38, 0, none⟩) (Kd.R_types HO572.out GG38.out (by decide)) (fun _ hk => hk.2) (.string (rdOf ByteArray.empty y570 (ji34)))) (fun _ hk => trivial)⟩
              have n2_ : Aside0 ((w45.setCell ⟨go38, 0, none⟩ (.string (rdOf ByteArray.empty y570 (ji34)))).heap[gb549]? = some (.cells #[.string (⟨#[]⟩ : ByteArray), .slice none 0 0] 44 (0, 0))) := ⟨by (with_reducible repeat (first | refine blk_drewN ?_ _ | refine blk_drew ?_ | refine blk_alloc ?_ _ )); refine blk_far ?_ (by have h_ := Kd.R_ne HO559.out BK549.out (by decide); intro e_; exact h_ (by rw [e_]; rfl)) _; (with_reducible repeat (first | refine blk_drewN ?_ _ | refine blk_drew ?_ | refine blk_alloc ?_ _ )); exact BK549.out⟩
              have n3_ : Aside0 ((w45.setCell ⟨go38, 0, none⟩ (.string (rdOf ByteArray.empty y570 (ji34)))).heap[gb562]? = some (.cells #[.string t556, .slice (some ⟨go38, 0, none⟩) t557.length co14] 44 (0, 0))) := ⟨by (with_reducible repeat (first | refine blk_drewN ?_ _ | refine blk_drew ?_ | refine blk_alloc ?_ _ )); refine blk_far ?_ (by have h_ := Kd.R_ne HO559.out BK562.out (by decide); intro e_; exact h_ (by rw [e_]; rfl)) _; (with_reducible repeat (first | refine blk_drewN ?_ _ | refine blk_drew ?_ | refine blk_alloc ?_ _ )); exact BK562.out⟩
              have n4_ : Aside0 (IsS106 w0 (w45.setCell ⟨go38, 0, none⟩ (.string (rdOf ByteArray.empty y570 (ji34)))) g s0_0 t560 t561) := ⟨by repeat ((with_reducible first | exact HI0.out | refine IsS106.far ?_ HN0_go38.out _))⟩
              have n5_ : Aside0 (KeepBut w (w45.setCell ⟨go38, 0, none⟩ (.string (rdOf ByteArray.empty y570 (ji34)))) g none) := ⟨by repeat ((with_reducible first | exact HK.out | refine keep_far ?_ GB38.out _))⟩
              have n6_ : Aside0 (Below w0.heap.size w0 (w45.setCell ⟨go38, 0, none⟩ (.string (rdOf ByteArray.empty y570 (ji34))))) := ⟨by repeat ((with_reducible first | exact HB.out | refine below_set ?_ (Nat.le_trans HL.out GB38.out)))⟩
              (try clear HO559)
              (try clear HO572)
              (try clear BK549)
              (try clear BK562)
              (try clear HI0)
              (try clear HK)
              (try clear HB)
              generalize (w45.setCell ⟨go38, 0, none⟩ (.string (rdOf ByteArray.empty y570 (ji34)))) = w49 at n0_ n1_ n2_ n3_ n4_ n5_ n6_ ⊢
              have HO559 := n0_
              have HO572 := n1_
              have BK549 := n2_
              have BK562 := n3_
              have HI0 := n4_
              have HK := n5_
              have HB := n6_
              clear n0_ n1_ n2_ n3_ n4_ n5_ n6_
              have hcz50_0 : w49.cell? ⟨gb562, 0, none⟩ = some (.string t556) := (blk_cell BK562.out 0).trans rfl
              have hcz50_1 : w49.cell? ⟨gb562, 1, none⟩ = some (.slice (some ⟨go38, 0, none⟩) t557.length co14) := (blk_cell BK562.out 1).trans rfl
              have hfz50_0 := blk_frozen BK562.out 0
              have hfz50_1 := blk_frozen BK562.out 1
              have hnb51 := NB549_0.out
              have hnc51 := NB0_549.out
              have hcz52_0 : w49.cell? ⟨gb549, 0, none⟩ = some (.string (⟨#[]⟩ : ByteArray)) := (blk_cell BK549.out 0).trans rfl
              have hcz52_1 : w49.cell? ⟨gb549, 1, none⟩ = some (.slice none 0 0) := (blk_cell BK549.out 1).trans rfl
              have hfz52_0 := blk_frozen BK549.out 0
              have hfz52_1 := blk_frozen BK549.out 1
              go_wp2
              refine bodyPost_ret (results_cell_row rfl _ _ gb549 44 #[.string t556, .slice (some ⟨go38, 0, none⟩) t557.length co14] (0, 0) _ rfl (by (with_reducible repeat (first | refine blk_drewN ?_ _ | refine blk_drew ?_ | refine blk_alloc ?_ _ )); refine blk_put (cs := #[.string t556, .slice none 0 0]) ?_ 1 _ rfl; (with_reducible repeat (first | refine blk_drewN ?_ _ | refine blk_drew ?_ | refine blk_alloc ?_ _ )); refine blk_put (cs := #[.string (⟨#[]⟩ : ByteArray), .slice none 0 0]) ?_ 0 _ rfl; (with_reducible repeat (first | refine blk_drewN ?_ _ | refine blk_drew ?_ | refine blk_alloc ?_ _ )); exact BK549.out) Tryd.underlying44 rfl (by kernel_rfl)) rfl ?_
              exact ⟨_, by rfl, by (with_reducible repeat (first | apply Kd.R_alloc | apply Kd.R_drewN | apply Kd.R_drew )); exact Kd.R_mono (Kd.R_far (p := ⟨gb549, 1, none⟩) (Kd.R_far (p := ⟨gb549, 0, none⟩) (Kd.R_types HO559.out BK549.out (by decide)) (fun _ hk => hk.2) (.string t556)) (fun _ hk => hk.2) (.slice (some ⟨go38, 0, none⟩) t557.length co14)) (fun _ hk => trivial), by repeat ((with_reducible first | exact HI0.out | refine IsS106.far ?_ NB0_549.out _)), by repeat ((with_reducible first | exact HB.out | refine below_set ?_ GE549.out)), by repeat ((with_reducible first | exact HK.out | refine keep_far ?_ GW549.out _))⟩
            · rw [if_neg c37] at H
              exact absurd H (by simp)
          · rw [if_neg c36] at H
            exact absurd H (by simp)
        · rw [if_neg c35] at H
          exact absurd H (by simp)
      · rw [if_neg c32] at H
        have c32b0 : decide (0 < (t557.length : Int)) = false := decide_eq_false c32
        have c32b1 : decide (0 < t557.length) = false := decide_eq_false (by omega)
        clear c32
        simp only [Option.some.injEq, Prod.mk.injEq] at H
        obtain ⟨rfl, rfl, rfl, rfl⟩ := H
        have hnb53 := NB562_549.out
        have hnc53 := NB549_562.out
        have hnb54 := NB562_0.out
        have hnc54 := NB0_562.out
        have hcz55_0 : w10.cell? ⟨gb562, 0, none⟩ = some (.string (⟨#[]⟩ : ByteArray)) := (blk_cell BK562.out 0).trans rfl
        have hcz55_1 : w10.cell? ⟨gb562, 1, none⟩ = some (.slice none 0 0) := (blk_cell BK562.out 1).trans rfl
        have hfz55_0 := blk_frozen BK562.out 0
        have hfz55_1 := blk_frozen BK562.out 1
        have hnb56 := NB549_0.out
        have hnc56 := NB0_549.out
        have hcz57_0 : w10.cell? ⟨gb549, 0, none⟩ = some (.string (⟨#[]⟩ : ByteArray)) := (blk_cell BK549.out 0).trans rfl
        have hcz57_1 : w10.cell? ⟨gb549, 1, none⟩ = some (.slice none 0 0) := (blk_cell BK549.out 1).trans rfl
        have hfz57_0 := blk_frozen BK549.out 0
        have hfz57_1 := blk_frozen BK549.out 1
        go_wp2
        refine bodyPost_ret (results_cell_row rfl _ _ gb549 44 #[.string t556, .slice Ao14 t557.length co14] (0, 0) _ rfl (by (with_reducible repeat (first | refine blk_drewN ?_ _ | refine blk_drew ?_ | refine blk_alloc ?_ _ )); refine blk_put (cs := #[.string t556, .slice none 0 0]) ?_ 1 _ rfl; (with_reducible repeat (first | refine blk_drewN ?_ _ | refine blk_drew ?_ | refine blk_alloc ?_ _ )); refine blk_put (cs := #[.string (⟨#[]⟩ : ByteArray), .slice none 0 0]) ?_ 0 _ rfl; (with_reducible repeat (first | refine blk_drewN ?_ _ | refine blk_drew ?_ | refine blk_alloc ?_ _ )); refine blk_far ?_ NB549_562.out _; (with_reducible repeat (first | refine blk_drewN ?_ _ | refine blk_drew ?_ | refine blk_alloc ?_ _ )); refine blk_far ?_ NB549_562.out _; (with_reducible repeat (first | refine blk_drewN ?_ _ | refine blk_drew ?_ | refine blk_alloc ?_ _ )); exact BK549.out) Tryd.underlying44 rfl (by kernel_rfl)) rfl ?_
        exact ⟨_, by rfl, by (with_reducible repeat (first | apply Kd.R_alloc | apply Kd.R_drewN | apply Kd.R_drew )); exact Kd.R_mono (Kd.R_far (p := ⟨gb549, 1, none⟩) (Kd.R_far (p := ⟨gb549, 0, none⟩) (Kd.R_far (p := ⟨gb562, 1, none⟩) (Kd.R_far (p := ⟨gb562, 0, none⟩) (Kd.R_types (Kd.R_types HO559.out BK562.out (by decide)) BK549.out (by decide)) (fun _ hk => hk.1.2) (.string t556)) (fun _ hk => hk.1.2) (.slice Ao14 t557.length co14)) (fun _ hk => hk.2) (.string t556)) (fun _ hk => hk.2) (.slice Ao14 t557.length co14)) (fun _ hk => trivial), by repeat ((with_reducible first | exact HI0.out | refine IsS106.far ?_ NB0_549.out _ | refine IsS106.far ?_ NB0_562.out _)), by repeat ((with_reducible first | exact HB.out | refine below_set ?_ GE549.out | refine below_set ?_ GE562.out)), by repeat ((with_reducible first | exact HK.out | refine keep_far ?_ GW549.out _ | refine keep_far ?_ GW562.out _))⟩
    · rw [if_neg c31] at H
      have c31b0 : (t550 == 1) = false := beq_eq_false_iff_ne.mpr c31
      have c31b1 : (t550 != 1) = true := bne_iff_ne.mpr c31
      by_cases c58 : t550 = 2
      · rw [if_pos c58] at H
        have c58b0 : (t550 == 2) = true := beq_iff_eq.mpr c58
        have c58b1 : (t550 != 2) = false := bne_eq_false_iff_eq.mpr c58
        clear c58
        by_cases c59 : (t557.length : Int) > 0
        · rw [if_pos c59] at H
          have c59b0 : decide (0 < (t557.length : Int)) = true := decide_eq_true c59
          have c59b1 : decide (0 < t557.length) = true := decide_eq_true (by omega)
          clear c59
          replace H := Option.bind_eq_some_iff.mp H
          obtain ⟨t575, A600, H⟩ := H
          replace H : ((spec_l01Long.f k 61 97).bind fun t576 => ((some (([(⟨#[32, 97]⟩ : ByteArray), (⟨#[97, 32]⟩ : ByteArray), t575, t576, (⟨#[10]⟩ : ByteArray)] : List ByteArray) : List ByteArray)).bind fun y577 => (if 0 ≤ (Int.tmod t553 5) then (if (Int.tmod t553 5) < (y577.length : Int) then (if 0 < (t557.length : Int) then (some (t556, (t557.set (0 : Int).toNat (⟨(rd_T41 t557 0).f0, rdOf ByteArray.empty y577 (Int.tmod t553 5)⟩ : S41)), t560, t561)) else (none)) else (none)) else (none)))) = some (r1, r2, r3, r4) := H
          have A60 := Aside0.mk A600
          clear A600
          replace H := Option.bind_eq_some_iff.mp H
          obtain ⟨t576, A610, H⟩ := H
          replace H : ((some (([(⟨#[32, 97]⟩ : ByteArray), (⟨#[97, 32]⟩ : ByteArray), t575, t576, (⟨#[10]⟩ : ByteArray)] : List ByteArray) : List ByteArray)).bind fun y577 => (if 0 ≤ (Int.tmod t553 5) then (if (Int.tmod t553 5) < (y577.length : Int) then (if 0 < (t557.length : Int) then (some (t556, (t557.set (0 : Int).toNat (⟨(rd_T41 t557 0).f0, rdOf ByteArray.empty y577 (Int.tmod t553 5)⟩ : S41)), t560, t561)) else (none)) else (none)) else (none))) = some (r1, r2, r3, r4) := H
          have A61 := Aside0.mk A610
          clear A610
          obtain ⟨y577, hy577⟩ : ∃ y_ : List ByteArray, y_ = (([(⟨#[32, 97]⟩ : ByteArray), (⟨#[97, 32]⟩ : ByteArray), t575, t576, (⟨#[10]⟩ : ByteArray)] : List ByteArray)) := ⟨_, rfl⟩
          replace H : (if 0 ≤ (Int.tmod t553 5) then (if (Int.tmod t553 5) < (y577.length : Int) then (if 0 < (t557.length : Int) then (some (t556, (t557.set (0 : Int).toNat (⟨(rd_T41 t557 0).f0, rdOf ByteArray.empty y577 (Int.tmod t553 5)⟩ : S41)), t560, t561)) else (none)) else (none)) else (none)) = some (r1, r2, r3, r4) := by (have H2_ := (Option.bind_some _ _).symm.trans H; rw [hy577]; with_reducible exact H2_)
          have Ny577 := Aside0.mk hy577
          clear hy577
          obtain ⟨ji62, hji62⟩ : ∃ j_ : Int, (Int.tmod t553 5) = j_ := ⟨_, rfl⟩
          replace H : (if 0 ≤ (ji62) then (if (ji62) < (y577.length : Int) then (if 0 < (t557.length : Int) then (some (t556, (t557.set (0 : Int).toNat (⟨(rd_T41 t557 0).f0, rdOf ByteArray.empty y577 (ji62)⟩ : S41)), t560, t561)) else (none)) else (none)) else (none)) = some (r1, r2, r3, r4) := by (rw [hji62] at H; exact H)
          (try rw [hji62] at A60)
          (try rw [hji62] at A61)
          by_cases c63 : 0 ≤ (ji62)
          · rw [if_pos c63] at H
            have c63b0 : decide (0 ≤ (ji62)) = true := decide_eq_true c63
            clear c63
            by_cases c64 : (ji62) < (y577.length : Int)
            · rw [if_pos c64] at H
              have c64b0 : decide ((ji62) < (y577.length : Int)) = true := decide_eq_true c64
              clear c64
              by_cases c65 : 0 < (t557.length : Int)
              · rw [if_pos c65] at H
                have c65b0 : decide (0 < (t557.length : Int)) = true := decide_eq_true c65
                have c65b1 : decide (0 < t557.length) = true := decide_eq_true (by omega)
                clear c65
                obtain ⟨y581, hy581⟩ : ∃ y_ : List (S41), y_ = (t557.set (0 : Int).toNat (⟨(rd_T41 t557 0).f0, rdOf ByteArray.empty y577 (ji62)⟩ : S41)) := ⟨_, rfl⟩
                replace H : (some (t556, y581, t560, t561)) = some (r1, r2, r3, r4) := by (rw [hy581]; with_reducible exact H)
                have Ny581 := Aside0.mk hy581
                clear hy581
                simp only [Option.some.injEq, Prod.mk.injEq] at H
                obtain ⟨rfl, rfl, rfl, rfl⟩ := H
                have hnb67 := NB562_549.out
                have hnc67 := NB549_562.out
                have hnb68 := NB562_0.out
                have hnc68 := NB0_562.out
                have hcz69_0 : w10.cell? ⟨gb562, 0, none⟩ = some (.string (⟨#[]⟩ : ByteArray)) := (blk_cell BK562.out 0).trans rfl
                have hcz69_1 : w10.cell? ⟨gb562, 1, none⟩ = some (.slice none 0 0) := (blk_cell BK562.out 1).trans rfl
                have hfz69_0 := blk_frozen BK562.out 0
                have hfz69_1 := blk_frozen BK562.out 1
                go_wp2
                have pi580 : (0 ≤ ((ji62) : Int)) = True := eq_true (of_decide_eq_true (by (with_reducible assumption)))
                have qi580 : ((ji62) < (y577.length : Int)) = True := eq_true (of_decide_eq_true (by (with_reducible assumption)))
                have n0_ : Aside0 (Kd.R k41 41 ((w10.setCell ⟨gb562, 0, none⟩ (.string t556)).setCell ⟨gb562, 1, none⟩ (.slice Ao14 t557.length co14)) w.heap.size (fun _ => True) (.slice Ao14 t557.length co14) t557) := ⟨by (with_reducible repeat (first | apply Kd.R_alloc | apply Kd.R_drewN | apply Kd.R_drew )); exact Kd.R_mono (Kd.R_far (p := ⟨gb562, 1, none⟩) (Kd.R_far (p := ⟨gb562, 0, none⟩) (Kd.R_types HO559.out BK562.out (by decide)) (fun _ hk => hk.2) (.string t556)) (fun _ hk => hk.2) (.slice Ao14 t557.length co14)) (fun _ hk => trivial)⟩
                have n1_ : Aside0 (((w10.setCell ⟨gb562, 0, none⟩ (.string t556)).setCell ⟨gb562, 1, none⟩ (.slice Ao14 t557.length co14)).heap[gb549]? = some (.cells #[.string (⟨#[]⟩ : ByteArray), .slice none 0 0] 44 (0, 0))) := ⟨by (with_reducible repeat (first | refine blk_drewN ?_ _ | refine blk_drew ?_ | refine blk_alloc ?_ _ )); refine blk_far ?_ NB549_562.out _; (with_reducible repeat (first | refine blk_drewN ?_ _ | refine blk_drew ?_ | refine blk_alloc ?_ _ )); refine blk_far ?_ NB549_562.out _; (with_reducible repeat (first | refine blk_drewN ?_ _ | refine blk_drew ?_ | refine blk_alloc ?_ _ )); exact BK549.out⟩
                have n2_ : Aside0 (((w10.setCell ⟨gb562, 0, none⟩ (.string t556)).setCell ⟨gb562, 1, none⟩ (.slice Ao14 t557.length co14)).heap[gb562]? = some (.cells #[.string t556, .slice Ao14 t557.length co14] 44 (0, 0))) := ⟨by (with_reducible repeat (first | refine blk_drewN ?_ _ | refine blk_drew ?_ | refine blk_alloc ?_ _ )); refine blk_put (cs := #[.string t556, .slice none 0 0]) ?_ 1 _ rfl; (with_reducible repeat (first | refine blk_drewN ?_ _ | refine blk_drew ?_ | refine blk_alloc ?_ _ )); refine blk_put (cs := #[.string (⟨#[]⟩ : ByteArray), .slice none 0 0]) ?_ 0 _ rfl; (with_reducible repeat (first | refine blk_drewN ?_ _ | refine blk_drew ?_ | refine blk_alloc ?_ _ )); exact BK562.out⟩
                have n3_ : Aside0 (IsS106 w0 ((w10.setCell ⟨gb562, 0, none⟩ (.string t556)).setCell ⟨gb562, 1, none⟩ (.slice Ao14 t557.length co14)) g s0_0 t560 t561) := ⟨by repeat ((with_reducible first | exact HI0.out | refine IsS106.far ?_ NB0_562.out _))⟩
                have n4_ : Aside0 (KeepBut w ((w10.setCell ⟨gb562, 0, none⟩ (.string t556)).setCell ⟨gb562, 1, none⟩ (.slice Ao14 t557.length co14)) g none) := ⟨by repeat ((with_reducible first | exact HK.out | refine keep_far ?_ GW562.out _))⟩
                have n5_ : Aside0 (Below w0.heap.size w0 ((w10.setCell ⟨gb562, 0, none⟩ (.string t556)).setCell ⟨gb562, 1, none⟩ (.slice Ao14 t557.length co14))) := ⟨by repeat ((with_reducible first | exact HB.out | refine below_set ?_ GE562.out))⟩
                (try clear HO559)
                (try clear BK549)
                (try clear BK562)
                (try clear HI0)
                (try clear HK)
                (try clear HB)
                generalize ((w10.setCell ⟨gb562, 0, none⟩ (.string t556)).setCell ⟨gb562, 1, none⟩ (.slice Ao14 t557.length co14)) = w70 at n0_ n1_ n2_ n3_ n4_ n5_ ⊢
                have HO559 := n0_
                have BK549 := n1_
                have BK562 := n2_
                have HI0 := n3_
                have HK := n4_
                have HB := n5_
                clear n0_ n1_ n2_ n3_ n4_ n5_
                have n0_ := Aside0.mk (Kd.R_drew HO559.out)
                have n1_ := Aside0.mk (blk_drew BK549.out)
                have n2_ := Aside0.mk (blk_drew BK562.out)
                have n3_ := Aside0.mk (IsS106.drew HI0.out)
                have n4_ := Aside0.mk (keep_drew HK.out)
                have n5_ := Aside0.mk (below_drew1 HB.out)
                clear HO559
                clear BK549
                clear BK562
                clear HI0
                clear HK
                clear HB
                have HO559 := n0_
                have BK549 := n1_
                have BK562 := n2_
                have HI0 := n3_
                have HK := n4_
                have HB := n5_
                clear n0_ n1_ n2_ n3_ n4_ n5_
                refine start_ (n := 12) (S := fun w' => w'.cell? ⟨gb562, 0, none⟩ = some (.string t556) ∧ w'.cell? ⟨gb562, 1, none⟩ = some (.slice Ao14 t557.length co14)) (ds := [11]) #[false, false, false, false, false, false, false, false, false, false, false, false] (by kernel_rfl) rfl rfl ⟨(blk_cell BK562.out 0).trans rfl, (blk_cell BK562.out 1).trans rfl⟩ (fun hHeld => ?_); refine with_tabW spec_l09Any.tab12 spec_l09Any.bits12 (fun HT_ HW_ => ?_)
                generalize w70.drew = w71 at HO559 BK549 BK562 HI0 HK HB hHeld ⊢
                refine pure_ (i := 0) (N := some 45) (v := ?_) (a' := ?_) #[true, false, false, false, false, false, false, false, false, false, false, false] rfl rfl (any_of HT_.out (by kernel_rfl)) (fun _ _ _ h => h) (Or.inl ⟨by rfl, ?_⟩) ?_ ?_
                rotate_left
                · intro w'
                  go_simp
                  with_reducible rfl
                rotate_left
                · simp only [Act.put, List.setIfInBounds_toArray, List.set_cons_zero, List.set_cons_succ, i64_w, i32_w]
                  rfl
                refine pure_ (i := 5) (N := some 50) (v := ?_) (a' := ?_) #[true, false, false, false, false, true, false, false, false, false, false, false] rfl rfl (any_of HT_.out (by kernel_rfl)) (fun _ _ _ h => h) (Or.inl ⟨by rfl, ?_⟩) ?_ ?_
                rotate_left
                · intro w'
                  go_simp
                  with_reducible rfl
                rotate_left
                · simp only [Act.put, List.setIfInBounds_toArray, List.set_cons_zero, List.set_cons_succ, i64_w, i32_w]
                  rfl
                refine pure_ (i := 6) (N := some 51) (v := ?_) (a' := ?_) #[true, false, false, false, false, true, true, false, false, false, false, false] rfl rfl (any_of HT_.out (by kernel_rfl)) (fun _ _ _ h => h) (Or.inl ⟨by rfl, ?_⟩) ?_ ?_
                rotate_left
                · intro w'
                  go_simp
                  with_reducible rfl
                rotate_left
                · simp only [Act.put, List.setIfInBounds_toArray, List.set_cons_zero, List.set_cons_succ, i64_w, i32_w]
                  rfl
                refine take_ (i := 1) (N := some 46) (v := ?_) (a' := ?_) #[true, true, false, false, false, true, true, false, false, false, false, false] rfl rfl (take_ofW HT_.out HW_.out (by kernel_rfl)) (fun _ _ _ h => h) (Or.inl ⟨by rfl, ?_⟩) hHeld ?_ ?_
                rotate_left
                · rintro w' ⟨s0, s1⟩
                  go_simp
                  with_reducible rfl
                rotate_left
                · simp only [Act.put, List.setIfInBounds_toArray, List.set_cons_zero, List.set_cons_succ, i64_w, i32_w]
                  rfl
                refine one_ (i := 2) (N := some 47) #[true, true, true, false, false, true, true, false, false, false, false, false] rfl rfl (one_of HT_.out (by kernel_rfl)) (by decide) (fun K hK => ?_)
                refine goes_ Tryd.func56 (by kernel_rfl) rfl #[.int .i64 60, .int .u8 97] (by rfl) rfl rfl (by (try simp only [List.map_toArray, List.map_cons, List.map_nil]); rfl) ?_
                with_reducible refine (spec_l01Long.calls k 60 97 t575 _ A60.out).mono ?_
                rintro e w72 ⟨rfl, hb⟩
                refine ⟨_, rfl, ?_⟩
                have n0_ := Aside0.mk (Kd.R_below (by (with_reducible repeat (first | apply Kd.R_alloc | apply Kd.R_drewN | apply Kd.R_drew )); exact HO559.out) hb)
                have n1_ := Aside0.mk (IsS106.below (by repeat ((with_reducible exact HI0.out))) hb)
                have n2_ := Aside0.mk (blk_below (g := gb549) (o := .cells #[.string (⟨#[]⟩ : ByteArray), .slice none 0 0] 44 (0, 0)) (by (with_reducible repeat (first | refine blk_drewN ?_ _ | refine blk_drew ?_ | refine blk_alloc ?_ _ )); exact BK549.out) hb)
                have n3_ := Aside0.mk (blk_below (g := gb562) (o := .cells #[.string t556, .slice Ao14 t557.length co14] 44 (0, 0)) (by (with_reducible repeat (first | refine blk_drewN ?_ _ | refine blk_drew ?_ | refine blk_alloc ?_ _ )); exact BK562.out) hb)
                have n4_ := Aside0.mk (KeepBut.trans (by repeat ((with_reducible exact HK.out))) (KeepBut.of_below hb g none) (.inl rfl))
                have n5_ := Aside0.mk (below_step (by repeat ((with_reducible exact HB.out))) hb)
                clear HO559
                clear HI0
                clear BK549
                clear BK562
                clear HK
                clear HB
                have HO559 := n0_
                have HI0 := n1_
                have BK549 := n2_
                have BK562 := n3_
                have HK := n4_
                have HB := n5_
                clear n0_ n1_ n2_ n3_ n4_ n5_
                (try clear hb)
                (try clear hb2)
                (try clear hk)
                (try clear hi)
                refine hK.out _ _ ⟨(blk_cell BK562.out 0).trans rfl, (blk_cell BK562.out 1).trans rfl⟩ (fun hHeld => ?_)
                clear hK K
                refine norm_ (a' := ?_) ?_ ?_
                rotate_left
                · show Act.put _ (some 47) _ = _
                  simp only [Act.put, List.setIfInBounds_toArray, List.set_cons_zero, List.set_cons_succ, i64_w, i32_w]
                  rfl
                refine one_ (i := 3) (N := some 48) #[true, true, true, true, false, true, true, false, false, false, false, false] rfl rfl (one_of HT_.out (by kernel_rfl)) (by decide) (fun K hK => ?_)
                refine goes_ Tryd.func56 (by kernel_rfl) rfl #[.int .i64 61, .int .u8 97] (by rfl) rfl rfl (by (try simp only [List.map_toArray, List.map_cons, List.map_nil]); rfl) ?_
                with_reducible refine (spec_l01Long.calls k 61 97 t576 _ A61.out).mono ?_
                rintro e w73 ⟨rfl, hb⟩
                refine ⟨_, rfl, ?_⟩
                have n0_ := Aside0.mk (Kd.R_below (by (with_reducible repeat (first | apply Kd.R_alloc | apply Kd.R_drewN | apply Kd.R_drew )); exact HO559.out) hb)
                have n1_ := Aside0.mk (IsS106.below (by repeat ((with_reducible exact HI0.out))) hb)
                have n2_ := Aside0.mk (blk_below (g := gb549) (o := .cells #[.string (⟨#[]⟩ : ByteArray), .slice none 0 0] 44 (0, 0)) (by (with_reducible repeat (first | refine blk_drewN ?_ _ | refine blk_drew ?_ | refine blk_alloc ?_ _ )); exact BK549.out) hb)
                have n3_ := Aside0.mk (blk_below (g := gb562) (o := .cells #[.string t556, .slice Ao14 t557.length co14] 44 (0, 0)) (by (with_reducible repeat (first | refine blk_drewN ?_ _ | refine blk_drew ?_ | refine blk_alloc ?_ _ )); exact BK562.out) hb)
                have n4_ := Aside0.mk (KeepBut.trans (by repeat ((with_reducible exact HK.out))) (KeepBut.of_below hb g none) (.inl rfl))
                have n5_ := Aside0.mk (below_step (by repeat ((with_reducible exact HB.out))) hb)
                clear HO559
                clear HI0
                clear BK549
                clear BK562
                clear HK
                clear HB
                have HO559 := n0_
                have HI0 := n1_
                have BK549 := n2_
                have BK562 := n3_
                have HK := n4_
                have HB := n5_
                clear n0_ n1_ n2_ n3_ n4_ n5_
                (try clear hb)
                (try clear hb2)
                (try clear hk)
                (try clear hi)
                refine hK.out _ _ ⟨(blk_cell BK562.out 0).trans rfl, (blk_cell BK562.out 1).trans rfl⟩ (fun hHeld => ?_)
                clear hK K
                refine norm_ (a' := ?_) ?_ ?_
                rotate_left
                · show Act.put _ (some 48) _ = _
                  simp only [Act.put, List.setIfInBounds_toArray, List.set_cons_zero, List.set_cons_succ, i64_w, i32_w]
                  rfl
                refine one_ (i := 4) (N := some 49) #[true, true, true, true, true, true, true, false, false, false, false, false] rfl rfl (one_of HT_.out (by kernel_rfl)) (by decide) (fun K hK => ?_)
                refine Kd.R_lit_step Kd.string _ 9 ?hg (N := 49) ?hd (xs := ([(⟨#[32, 97]⟩ : ByteArray), (⟨#[97, 32]⟩ : ByteArray), t575, t576, (⟨#[10]⟩ : ByteArray)] : List ByteArray)) (inner := [.string (⟨#[32, 97]⟩ : ByteArray), .string (⟨#[97, 32]⟩ : ByteArray), .string t575, .string t576, .string (⟨#[10]⟩ : ByteArray)]) (ok := fun _ => True) (okp := fun _ => True) ?hr ?hp (fun _ hk => hk) trivial (Below.refl _ _) (Nat.le_refl _) (by simp) ?_; (case hd => rfl); (case hg => rfl); (case hr => (go_simp; done)); (case hp => exact (Reps.one (show Kd.M Kd.string _ _ _ (⟨#[32, 97]⟩ : ByteArray) [.string (⟨#[32, 97]⟩ : ByteArray)] from rfl) (Reps.one (show Kd.M Kd.string _ _ _ (⟨#[97, 32]⟩ : ByteArray) [.string (⟨#[97, 32]⟩ : ByteArray)] from rfl) (Reps.one (show Kd.M Kd.string _ _ _ t575 [.string t575] from rfl) (Reps.one (show Kd.M Kd.string _ _ _ t576 [.string t576] from rfl) (Reps.one (show Kd.M Kd.string _ _ _ (⟨#[10]⟩ : ByteArray) [.string (⟨#[10]⟩ : ByteArray)] from rfl) (Reps.none _ _)))))))
                intro v578 w74 ho75 hb hg_ hnew_
                clear hg_ hnew_
                (rw [← Ny577.out] at ho75)
                have n0_ := Aside0.mk (Kd.R_below (by (with_reducible repeat (first | apply Kd.R_alloc | apply Kd.R_drewN | apply Kd.R_drew )); exact HO559.out) hb)
                have n1_ := Aside0.mk (Kd.R_lower ho75 (keep_size (w := w) (g := g) (row := none) (by repeat ((with_reducible exact HK.out)))))
                have n2_ := Aside0.mk (IsS106.below (by repeat ((with_reducible exact HI0.out))) hb)
                have n3_ := Aside0.mk (blk_below (g := gb549) (o := .cells #[.string (⟨#[]⟩ : ByteArray), .slice none 0 0] 44 (0, 0)) (by (with_reducible repeat (first | refine blk_drewN ?_ _ | refine blk_drew ?_ | refine blk_alloc ?_ _ )); exact BK549.out) hb)
                have n4_ := Aside0.mk (blk_below (g := gb562) (o := .cells #[.string t556, .slice Ao14 t557.length co14] 44 (0, 0)) (by (with_reducible repeat (first | refine blk_drewN ?_ _ | refine blk_drew ?_ | refine blk_alloc ?_ _ )); exact BK562.out) hb)
                have n5_ := Aside0.mk (KeepBut.trans (by repeat ((with_reducible exact HK.out))) (KeepBut.of_below hb g none) (.inl rfl))
                have n6_ := Aside0.mk (below_step (by repeat ((with_reducible exact HB.out))) hb)
                clear HO559
                clear HI0
                clear BK549
                clear BK562
                clear HK
                clear HB
                have HO559 := n0_
                have HO579 := n1_
                have HI0 := n2_
                have BK549 := n3_
                have BK562 := n4_
                have HK := n5_
                have HB := n6_
                clear n0_ n1_ n2_ n3_ n4_ n5_ n6_
                clear hb ho75
                obtain ⟨Ao76, co76, eo76⟩ := Kd.R_slice HO579.out
                subst eo76
                obtain ⟨ado76, fo76, _⟩ := Kd.at_string (Kd.R_reads' HO579.out).2.2 0 (by decide) (by rw [Ny577.out]; simp)
                cases fo76
                have p66 : 0 ≤ (0 : Int) := (by omega)
                have q66 : (0 : Int) < ((t557.length : Int) : Int) := of_decide_eq_true (by (with_reducible assumption))
                have qi66 : (0 < t557.length) = True := eq_true (by omega)
                obtain ⟨go66, co66, eo66, gb66, gl66, cl66, HG66⟩ := Kd.R_form HO559.out (by omega)
                (cases eo66)
                have GB66 := Aside0.mk gb66
                have GG66 := Aside0.mk HG66
                clear gb66 gl66 HG66
                obtain ⟨ce66, hcl66, hM66, hcc66, hfr66⟩ := Kd.R_elem HO559.out z41 (0 : Int) p66 q66
                obtain rfl := k41_openM hM66
                have hx66_0 : World.cell? _ ⟨go66, (0 : Int).toNat * 2, none⟩ = some (.string ((rd_T41 t557 0).f0)) := hcc66 0 _ rfl
                have hx66_1 : World.cell? _ ⟨go66, (0 : Int).toNat * 2 + 1, none⟩ = some (.string ((rd_T41 t557 0).f1)) := hcc66 1 _ rfl
                have hf66_0 : World.frozen? _ ⟨go66, (0 : Int).toNat * 2, none⟩ = false := hfr66 0
                have hf66_1 : World.frozen? _ ⟨go66, (0 : Int).toNat * 2 + 1, none⟩ = false := hfr66 1
                (clear hcl66 hcc66 hfr66 hM66)
                (try rw [show ((0 : Int)).toNat = 0 from rfl] at hx66_0)
                (try simp only [Nat.reduceMul, Nat.zero_mul, Nat.zero_add, Nat.reduceAdd] at hx66_0)
                (try rw [show ((0 : Int)).toNat = 0 from rfl] at hf66_0)
                (try simp only [Nat.reduceMul, Nat.zero_mul, Nat.zero_add, Nat.reduceAdd] at hf66_0)
                (try rw [show ((0 : Int)).toNat = 0 from rfl] at hx66_1)
                (try simp only [Nat.reduceMul, Nat.zero_mul, Nat.zero_add, Nat.reduceAdd] at hx66_1)
                (try rw [show ((0 : Int)).toNat = 0 from rfl] at hf66_1)
                (try simp only [Nat.reduceMul, Nat.zero_mul, Nat.zero_add, Nat.reduceAdd] at hf66_1)
                replace p66 := eq_true p66
                replace q66 := eq_true q66
                have HN0_go66 := Aside0.mk (show g ≠ go66 from by have h_ := IsS106.own_ne HI0.out HO559.out (by decide); intro e_; exact h_ (by rw [e_]; rfl))
                obtain ⟨ce77, hcl77, hM77, hcc77, hfr77⟩ := Kd.R_elem HO559.out z41 (0 : Int) (by omega) (by have h_ : (0 : Int) < ((t557.length : Int) : Int) := of_decide_eq_true (by (with_reducible assumption)); exact h_)
                obtain rfl := k41_openM hM77
                have HP77 := (Kd.R_seg HO559.out (0 : Int) (by omega) (by have h_ : (0 : Int) < ((t557.length : Int) : Int) := of_decide_eq_true (by (with_reducible assumption)); exact h_) (seg := [.string (rdOf ByteArray.empty y577 (ji62))]) (j := 1) hcl77 hcc77 (show 2 ≤ 2 from by decide) (x' := (⟨(rd_T41 t557 0).f0, rdOf ByteArray.empty y577 (ji62)⟩ : S41)) (k41_mkM _ _ _ (⟨(rd_T41 t557 0).f0, rdOf ByteArray.empty y577 (ji62)⟩ : S41) ) (fun _ hk => hk)).1
                rw [← Ny581.out] at HP77
                have HQ77 := Aside0.mk HP77
                (clear hcl77 hcc77 hfr77 hM77 HP77)
                refine hK.out _ _ ⟨(blk_cell BK562.out 0).trans rfl, (blk_cell BK562.out 1).trans rfl⟩ (fun hHeld => ?_)
                clear hK K
                refine norm_ (a' := ?_) ?_ ?_
                rotate_left
                · show Act.put _ (some 49) _ = _
                  simp only [Act.put, List.setIfInBounds_toArray, List.set_cons_zero, List.set_cons_succ, i64_w, i32_w]
                  rfl
                refine pure_ (i := 7) (N := some 52) (v := ?_) (a' := ?_) #[true, true, true, true, true, true, true, true, false, false, false, false] rfl rfl (any_of HT_.out (by kernel_rfl)) (fun _ _ _ h => h) (Or.inl ⟨by rfl, ?_⟩) ?_ ?_
                rotate_left
                · intro w'
                  go_simp
                  with_reducible rfl
                rotate_left
                · simp only [Act.put, List.setIfInBounds_toArray, List.set_cons_zero, List.set_cons_succ, i64_w, i32_w]
                  rfl
                refine one_ (i := 8) (N := some 53) #[true, true, true, true, true, true, true, true, true, false, false, false] rfl rfl (one_of HT_.out (by kernel_rfl)) (by decide) (fun K hK => ?_)
                (have p580 : 0 ≤ ((ji62) : Int) := of_decide_eq_true (by (with_reducible assumption)); have q580 : (ji62) < (y577.length : Int) := of_decide_eq_true (by (with_reducible assumption)); obtain ⟨ad580, e580, hx580_0⟩ := Kd.at_string (Kd.R_reads' HO579.out).2.2 (ji62) p580 q580; obtain rfl : ado76 = ad580 := (by injection e580))
                refine value_ (w1 := ?_) (v := ?_) (by rfl) rfl ?_ ?_
                rotate_left 2
                · go_simp
                  constructor
                  · rfl
                  · rfl
                clear hx580_0
                refine hK.out _ _ ⟨(blk_cell BK562.out 0).trans rfl, (blk_cell BK562.out 1).trans rfl⟩ (fun hHeld => ?_)
                clear hK K
                refine norm_ (a' := ?_) ?_ ?_
                rotate_left
                · show Act.put _ (some 53) _ = _
                  simp only [Act.put, List.setIfInBounds_toArray, List.set_cons_zero, List.set_cons_succ, i64_w, i32_w]
                  rfl
                refine pure_ (i := 9) (N := some 54) (v := ?_) (a' := ?_) #[true, true, true, true, true, true, true, true, true, true, false, false] rfl rfl (any_of HT_.out (by kernel_rfl)) (fun _ _ _ h => h) (Or.inl ⟨by rfl, ?_⟩) ?_ ?_
                rotate_left
                · intro w'
                  go_simp
                  with_reducible rfl
                rotate_left
                · simp only [Act.put, List.setIfInBounds_toArray, List.set_cons_zero, List.set_cons_succ, i64_w, i32_w]
                  rfl
                refine pure_ (i := 10) (N := some 55) (v := ?_) (a' := ?_) #[true, true, true, true, true, true, true, true, true, true, true, false] rfl rfl (any_of HT_.out (by kernel_rfl)) (fun _ _ _ h => h) (Or.inl ⟨by rfl, ?_⟩) ?_ ?_
                rotate_left
                · intro w'
                  go_simp
                  with_reducible rfl
                rotate_left
                · simp only [Act.put, List.setIfInBounds_toArray, List.set_cons_zero, List.set_cons_succ, i64_w, i32_w]
                  rfl
                refine last_ (i := 11) (N := none) #[true, true, true, true, true, true, true, true, true, true, true, true] rfl rfl (one_of HT_.out (by kernel_rfl)) (by decide) (fun K hK => ?_)
                refine skip_ (w1 := ?_) (by rfl) rfl ?_ ?_
                rotate_left
                · go_simp
                  rfl
                refine hK.out _ _ ?_
                clear hK K
                refine done_ (done_of HT_.out (by kernel_rfl)) ?_
                have n0_ : Aside0 (Kd.R k41 41 (w74.setCell ⟨go66, 1, none⟩ (.string (rdOf ByteArray.empty y577 (ji62)))) w.heap.size (fun _ => True) (.slice (some ⟨go66, 0, none⟩) t557.length co14) y581) := ⟨by (with_reducible repeat (first | apply Kd.R_alloc | apply Kd.R_drewN | apply Kd.R_drew )); exact HQ77.out⟩
                have n1_ : Aside0 (Kd.R Kd.string 9 (w74.setCell ⟨go66, 1, none⟩ (.string (rdOf ByteArray.empty y577 (ji62)))) w.heap.size (fun _ => True) (.slice (some ado76) y577.length co76) y577) := ⟨by (with_reducible repeat (first | apply Kd.R_alloc | apply Kd.R_drewN | apply Kd.R_drew )); exact Kd.R_mono (Kd.R_far (p := ⟨go66, 1, none⟩) (Kd.R_types HO579.out GG66.out (by decide)) (fun _ hk => hk.2) (.string (rdOf ByteArray.empty y577 (ji62)))) (fun _ hk => trivial)⟩
                have n2_ : Aside0 ((w74.setCell ⟨go66, 1, none⟩ (.string (rdOf ByteArray.empty y577 (ji62)))).heap[gb549]? = some (.cells #[.string (⟨#[]⟩ : ByteArray), .slice none 0 0] 44 (0, 0))) := ⟨by (with_reducible repeat (first | refine blk_drewN ?_ _ | refine blk_drew ?_ | refine blk_alloc ?_ _ )); refine blk_far ?_ (by have h_ := Kd.R_ne HO559.out BK549.out (by decide); intro e_; exact h_ (by rw [e_]; rfl)) _; (with_reducible repeat (first | refine blk_drewN ?_ _ | refine blk_drew ?_ | refine blk_alloc ?_ _ )); exact BK549.out⟩
                have n3_ : Aside0 ((w74.setCell ⟨go66, 1, none⟩ (.string (rdOf ByteArray.empty y577 (ji62)))).heap[gb562]? = some (.cells #[.string t556, .slice (some ⟨go66, 0, none⟩) t557.length co14] 44 (0, 0))) := ⟨by (with_reducible repeat (first | refine blk_drewN ?_ _ | refine blk_drew ?_ | refine blk_alloc ?_ _ )); refine blk_far ?_ (by have h_ := Kd.R_ne HO559.out BK562.out (by decide); intro e_; exact h_ (by rw [e_]; rfl)) _; (with_reducible repeat (first | refine blk_drewN ?_ _ | refine blk_drew ?_ | refine blk_alloc ?_ _ )); exact BK562.out⟩
                have n4_ : Aside0 (IsS106 w0 (w74.setCell ⟨go66, 1, none⟩ (.string (rdOf ByteArray.empty y577 (ji62)))) g s0_0 t560 t561) := ⟨by repeat ((with_reducible first | exact HI0.out | refine IsS106.far ?_ HN0_go66.out _))⟩
                have n5_ : Aside0 (KeepBut w (w74.setCell ⟨go66, 1, none⟩ (.string (rdOf ByteArray.empty y577 (ji62)))) g none) := ⟨by repeat ((with_reducible first | exact HK.out | refine keep_far ?_ GB66.out _))⟩
                have n6_ : Aside0 (Below w0.heap.size w0 (w74.setCell ⟨go66, 1, none⟩ (.string (rdOf ByteArray.empty y577 (ji62))))) := ⟨by repeat ((with_reducible first | exact HB.out | refine below_set ?_ (Nat.le_trans HL.out GB66.out)))⟩
                (try clear HO559)
                (try clear HO579)
                (try clear BK549)
                (try clear BK562)
                (try clear HI0)
                (try clear HK)
                (try clear HB)
                generalize (w74.setCell ⟨go66, 1, none⟩ (.string (rdOf ByteArray.empty y577 (ji62)))) = w78 at n0_ n1_ n2_ n3_ n4_ n5_ n6_ ⊢
                have HO559 := n0_
                have HO579 := n1_
                have BK549 := n2_
                have BK562 := n3_
                have HI0 := n4_
                have HK := n5_
                have HB := n6_
                clear n0_ n1_ n2_ n3_ n4_ n5_ n6_
                have hcz79_0 : w78.cell? ⟨gb562, 0, none⟩ = some (.string t556) := (blk_cell BK562.out 0).trans rfl
                have hcz79_1 : w78.cell? ⟨gb562, 1, none⟩ = some (.slice (some ⟨go66, 0, none⟩) t557.length co14) := (blk_cell BK562.out 1).trans rfl
                have hfz79_0 := blk_frozen BK562.out 0
                have hfz79_1 := blk_frozen BK562.out 1
                have hnb80 := NB549_0.out
                have hnc80 := NB0_549.out
                have hcz81_0 : w78.cell? ⟨gb549, 0, none⟩ = some (.string (⟨#[]⟩ : ByteArray)) := (blk_cell BK549.out 0).trans rfl
                have hcz81_1 : w78.cell? ⟨gb549, 1, none⟩ = some (.slice none 0 0) := (blk_cell BK549.out 1).trans rfl
                have hfz81_0 := blk_frozen BK549.out 0
                have hfz81_1 := blk_frozen BK549.out 1
                go_wp2
                refine bodyPost_ret (results_cell_row rfl _ _ gb549 44 #[.string t556, .slice (some ⟨go66, 0, none⟩) t557.length co14] (0, 0) _ rfl (by (with_reducible repeat (first | refine blk_drewN ?_ _ | refine blk_drew ?_ | refine blk_alloc ?_ _ )); refine blk_put (cs := #[.string t556, .slice none 0 0]) ?_ 1 _ rfl; (with_reducible repeat (first | refine blk_drewN ?_ _ | refine blk_drew ?_ | refine blk_alloc ?_ _ )); refine blk_put (cs := #[.string (⟨#[]⟩ : ByteArray), .slice none 0 0]) ?_ 0 _ rfl; (with_reducible repeat (first | refine blk_drewN ?_ _ | refine blk_drew ?_ | refine blk_alloc ?_ _ )); exact BK549.out) Tryd.underlying44 rfl (by kernel_rfl)) rfl ?_
                exact ⟨_, by rfl, by (with_reducible repeat (first | apply Kd.R_alloc | apply Kd.R_drewN | apply Kd.R_drew )); exact Kd.R_mono (Kd.R_far (p := ⟨gb549, 1, none⟩) (Kd.R_far (p := ⟨gb549, 0, none⟩) (Kd.R_types HO559.out BK549.out (by decide)) (fun _ hk => hk.2) (.string t556)) (fun _ hk => hk.2) (.slice (some ⟨go66, 0, none⟩) t557.length co14)) (fun _ hk => trivial), by repeat ((with_reducible first | exact HI0.out | refine IsS106.far ?_ NB0_549.out _)), by repeat ((with_reducible first | exact HB.out | refine below_set ?_ GE549.out)), by repeat ((with_reducible first | exact HK.out | refine keep_far ?_ GW549.out _))⟩
              · rw [if_neg c65] at H
                exact absurd H (by simp)
            · rw [if_neg c64] at H
              exact absurd H (by simp)
          · rw [if_neg c63] at H
            exact absurd H (by simp)
        · rw [if_neg c59] at H
          have c59b0 : decide (0 < (t557.length : Int)) = false := decide_eq_false c59
          have c59b1 : decide (0 < t557.length) = false := decide_eq_false (by omega)
          clear c59
          simp only [Option.some.injEq, Prod.mk.injEq] at H
          obtain ⟨rfl, rfl, rfl, rfl⟩ := H
          have hnb82 := NB562_549.out
          have hnc82 := NB549_562.out
          have hnb83 := NB562_0.out
          have hnc83 := NB0_562.out
          have hcz84_0 : w10.cell? ⟨gb562, 0, none⟩ = some (.string (⟨#[]⟩ : ByteArray)) := (blk_cell BK562.out 0).trans rfl
          have hcz84_1 : w10.cell? ⟨gb562, 1, none⟩ = some (.slice none 0 0) := (blk_cell BK562.out 1).trans rfl
          have hfz84_0 := blk_frozen BK562.out 0
          have hfz84_1 := blk_frozen BK562.out 1
          have hnb85 := NB549_0.out
          have hnc85 := NB0_549.out
          have hcz86_0 : w10.cell? ⟨gb549, 0, none⟩ = some (.string (⟨#[]⟩ : ByteArray)) := (blk_cell BK549.out 0).trans rfl
          have hcz86_1 : w10.cell? ⟨gb549, 1, none⟩ = some (.slice none 0 0) := (blk_cell BK549.out 1).trans rfl
          have hfz86_0 := blk_frozen BK549.out 0
          have hfz86_1 := blk_frozen BK549.out 1
          go_wp2
          refine bodyPost_ret (results_cell_row rfl _ _ gb549 44 #[.string t556, .slice Ao14 t557.length co14] (0, 0) _ rfl (by (with_reducible repeat (first | refine blk_drewN ?_ _ | refine blk_drew ?_ | refine blk_alloc ?_ _ )); refine blk_put (cs := #[.string t556, .slice none 0 0]) ?_ 1 _ rfl; (with_reducible repeat (first | refine blk_drewN ?_ _ | refine blk_drew ?_ | refine blk_alloc ?_ _ )); refine blk_put (cs := #[.string (⟨#[]⟩ : ByteArray), .slice none 0 0]) ?_ 0 _ rfl; (with_reducible repeat (first | refine blk_drewN ?_ _ | refine blk_drew ?_ | refine blk_alloc ?_ _ )); refine blk_far ?_ NB549_562.out _; (with_reducible repeat (first | refine blk_drewN ?_ _ | refine blk_drew ?_ | refine blk_alloc ?_ _ )); refine blk_far ?_ NB549_562.out _; (with_reducible repeat (first | refine blk_drewN ?_ _ | refine blk_drew ?_ | refine blk_alloc ?_ _ )); exact BK549.out) Tryd.underlying44 rfl (by kernel_rfl)) rfl ?_
          exact ⟨_, by rfl, by (with_reducible repeat (first | apply Kd.R_alloc | apply Kd.R_drewN | apply Kd.R_drew )); exact Kd.R_mono (Kd.R_far (p := ⟨gb549, 1, none⟩) (Kd.R_far (p := ⟨gb549, 0, none⟩) (Kd.R_far (p := ⟨gb562, 1, none⟩) (Kd.R_far (p := ⟨gb562, 0, none⟩) (Kd.R_types (Kd.R_types HO559.out BK562.out (by decide)) BK549.out (by decide)) (fun _ hk => hk.1.2) (.string t556)) (fun _ hk => hk.1.2) (.slice Ao14 t557.length co14)) (fun _ hk => hk.2) (.string t556)) (fun _ hk => hk.2) (.slice Ao14 t557.length co14)) (fun _ hk => trivial), by repeat ((with_reducible first | exact HI0.out | refine IsS106.far ?_ NB0_549.out _ | refine IsS106.far ?_ NB0_562.out _)), by repeat ((with_reducible first | exact HB.out | refine below_set ?_ GE549.out | refine below_set ?_ GE562.out)), by repeat ((with_reducible first | exact HK.out | refine keep_far ?_ GW549.out _ | refine keep_far ?_ GW562.out _))⟩
      · rw [if_neg c58] at H
        have c58b0 : (t550 == 2) = false := beq_eq_false_iff_ne.mpr c58
        have c58b1 : (t550 != 2) = true := bne_iff_ne.mpr c58
        by_cases c87 : t550 = 3
        · rw [if_pos c87] at H
          have c87b0 : (t550 == 3) = true := beq_iff_eq.mpr c87
          have c87b1 : (t550 != 3) = false := bne_eq_false_iff_eq.mpr c87
          clear c87
          have H' := Aside0.mk H
          clear H
          go_wp2
          go_loopg [] k (fun kq w' => ∃ (x563001_1 : List (S41)) (u563001 : Value), Aside0 (spec_l09Any.l0 kq t553 s0_0 t560 t561 t556 x563001_1 = some (r1, r2, r3, r4)) ∧ Aside0 (kq ≤ k) ∧ Aside0 (Kd.R k41 41 w' w.heap.size (fun _ => True) u563001 x563001_1) ∧ Aside0 (w'.heap[gb549]? = some (.cells #[.string (⟨#[]⟩ : ByteArray), (.slice none 0 0)] 44 (0, 0))) ∧ Aside0 (w'.heap[gb562]? = some (.cells #[.string t556, u563001] 44 (0, 0))) ∧ Aside0 (IsS106 w0 w' g s0_0 t560 t561) ∧ Aside0 (KeepBut w w' g none) ∧ Aside0 (Below w0.heap.size w0 w'))
          case atStart => exact ⟨(t557), (.slice Ao14 t557.length co14), H', ⟨Nat.le_refl _⟩, ⟨by (with_reducible repeat (first | apply Kd.R_alloc | apply Kd.R_drewN | apply Kd.R_drew )); exact Kd.R_mono (Kd.R_far (p := ⟨gb562, 1, none⟩) (Kd.R_far (p := ⟨gb562, 0, none⟩) (Kd.R_types HO559.out BK562.out (by decide)) (fun _ hk => hk.2) (.string t556)) (fun _ hk => hk.2) (.slice Ao14 t557.length co14)) (fun _ hk => trivial)⟩, ⟨by (with_reducible repeat (first | refine blk_drewN ?_ _ | refine blk_drew ?_ | refine blk_alloc ?_ _ )); refine blk_far ?_ NB549_562.out _; (with_reducible repeat (first | refine blk_drewN ?_ _ | refine blk_drew ?_ | refine blk_alloc ?_ _ )); refine blk_far ?_ NB549_562.out _; (with_reducible repeat (first | refine blk_drewN ?_ _ | refine blk_drew ?_ | refine blk_alloc ?_ _ )); exact BK549.out⟩, ⟨by (with_reducible repeat (first | refine blk_drewN ?_ _ | refine blk_drew ?_ | refine blk_alloc ?_ _ )); refine blk_put (cs := #[.string t556, .slice none 0 0]) ?_ 1 _ rfl; (with_reducible repeat (first | refine blk_drewN ?_ _ | refine blk_drew ?_ | refine blk_alloc ?_ _ )); refine blk_put (cs := #[.string (⟨#[]⟩ : ByteArray), .slice none 0 0]) ?_ 0 _ rfl; (with_reducible repeat (first | refine blk_drewN ?_ _ | refine blk_drew ?_ | refine blk_alloc ?_ _ )); exact BK562.out⟩, ⟨by repeat ((with_reducible first | exact HI0.out | refine IsS106.far ?_ NB0_562.out _))⟩, ⟨by repeat ((with_reducible first | exact HK.out | refine keep_far ?_ GW562.out _))⟩, ⟨by repeat ((with_reducible first | exact HB.out | refine below_set ?_ GE562.out))⟩⟩
          case round =>
            clear H'
            clear c31
            clear c31b0
            clear c31b1
            clear c58
            clear c58b0
            clear c58b1
            clear c87b0
            clear c87b1
            obtain ⟨x563001_1, u563001, HA, HK1, HO_563001, BK549, BK562, HI0, HK, HB⟩ := hrel
            cases gk with
            | zero => exact absurd HA.out (by simp [spec_l09Any.l0])
            | succ k1 =>
              have H := HA.out
              clear HA
              simp only [spec_l09Any.l0] at H
              by_cases c88 : (x563001_1.length : Int) < (wrap64 (8 + (Int.tmod t553 2)))
              · rw [if_pos c88] at H
                have c88b0 : decide ((x563001_1.length : Int) < (wrap64 (8 + (Int.tmod t553 2)))) = true := decide_eq_true c88
                clear c88
                replace H := Option.bind_eq_some_iff.mp H
                obtain ⟨t582, A890, H⟩ := H
                replace H : (if x563001_1.length < 4398046511104 then (spec_l09Any.l0 k1 t553 s0_0 t560 t561 t556 (x563001_1 ++ [(⟨(⟨#[121]⟩ : ByteArray), t582⟩ : S41)])) else (none)) = some (r1, r2, r3, r4) := H
                have A89 := Aside0.mk A890
                clear A890
                by_cases c90 : x563001_1.length < 4398046511104
                · rw [if_pos c90] at H
                  have LMc90 := Aside0.mk c90
                  clear c90
                  obtain ⟨y583, hy583⟩ : ∃ y_ : List (S41), y_ = (x563001_1 ++ [(⟨(⟨#[121]⟩ : ByteArray), t582⟩ : S41)]) := ⟨_, rfl⟩
                  replace H : (spec_l09Any.l0 k1 t553 s0_0 t560 t561 t556 y583) = some (r1, r2, r3, r4) := by (rw [hy583]; with_reducible exact H)
                  have Ny583 := Aside0.mk hy583
                  clear hy583
                  have H' := Aside0.mk H
                  clear H
                  have hnb91 := NB562_549.out
                  have hnc91 := NB549_562.out
                  have hnb92 := NB562_0.out
                  have hnc92 := NB0_562.out
                  have hcz93_0 : wr.cell? ⟨gb562, 0, none⟩ = some (.string t556) := (blk_cell BK562.out 0).trans rfl
                  have hcz93_1 : wr.cell? ⟨gb562, 1, none⟩ = some (u563001) := (blk_cell BK562.out 1).trans rfl
                  have hfz93_0 := blk_frozen BK562.out 0
                  have hfz93_1 := blk_frozen BK562.out 1
                  obtain ⟨Ao94, co94, eo94⟩ := Kd.R_slice HO_563001.out
                  subst eo94
                  go_wp2
                  have n0_ := Aside0.mk (Kd.R_drew HO_563001.out)
                  have n1_ := Aside0.mk (blk_drew BK549.out)
                  have n2_ := Aside0.mk (blk_drew BK562.out)
                  have n3_ := Aside0.mk (IsS106.drew HI0.out)
                  have n4_ := Aside0.mk (keep_drew HK.out)
                  have n5_ := Aside0.mk (below_drew1 HB.out)
                  clear HO_563001
                  clear BK549
                  clear BK562
                  clear HI0
                  clear HK
                  clear HB
                  have HO_563001 := n0_
                  have BK549 := n1_
                  have BK562 := n2_
                  have HI0 := n3_
                  have HK := n4_
                  have HB := n5_
                  clear n0_ n1_ n2_ n3_ n4_ n5_
                  refine start_ (n := 10) (S := fun w' => w'.cell? ⟨gb562, 0, none⟩ = some (.string t556) ∧ w'.cell? ⟨gb562, 1, none⟩ = some (.slice Ao94 x563001_1.length co94)) (ds := [9]) #[false, false, false, false, false, false, false, false, false, false] (by kernel_rfl) rfl rfl ⟨(blk_cell BK562.out 0).trans rfl, (blk_cell BK562.out 1).trans rfl⟩ (fun hHeld => ?_); refine with_tabW spec_l09Any.tab15 spec_l09Any.bits15 (fun HT_ HW_ => ?_)
                  generalize wr.drew = w95 at HO_563001 BK549 BK562 HI0 HK HB hHeld ⊢
                  refine pure_ (i := 0) (N := some 65) (v := ?_) (a' := ?_) #[true, false, false, false, false, false, false, false, false, false] rfl rfl (any_of HT_.out (by kernel_rfl)) (fun _ _ _ h => h) (Or.inl ⟨by rfl, ?_⟩) ?_ ?_
                  rotate_left
                  · intro w'
                    go_simp
                    with_reducible rfl
                  rotate_left
                  · simp only [Act.put, List.setIfInBounds_toArray, List.set_cons_zero, List.set_cons_succ, i64_w, i32_w]
                    rfl
                  refine pure_ (i := 2) (N := some 67) (v := ?_) (a' := ?_) #[true, false, true, false, false, false, false, false, false, false] rfl rfl (any_of HT_.out (by kernel_rfl)) (fun _ _ _ h => h) (Or.inl ⟨by rfl, ?_⟩) ?_ ?_
                  rotate_left
                  · intro w'
                    go_simp
                    with_reducible rfl
                  rotate_left
                  · simp only [Act.put, List.setIfInBounds_toArray, List.set_cons_zero, List.set_cons_succ, i64_w, i32_w]
                    rfl
                  refine pure_ (i := 3) (N := some 68) (v := ?_) (a' := ?_) #[true, false, true, true, false, false, false, false, false, false] rfl rfl (any_of HT_.out (by kernel_rfl)) (fun _ _ _ h => h) (Or.inl ⟨by rfl, ?_⟩) ?_ ?_
                  rotate_left
                  · intro w'
                    go_simp
                    with_reducible rfl
                  rotate_left
                  · simp only [Act.put, List.setIfInBounds_toArray, List.set_cons_zero, List.set_cons_succ, i64_w, i32_w]
                    rfl
                  refine take_ (i := 1) (N := some 66) (v := ?_) (a' := ?_) #[true, true, true, true, false, false, false, false, false, false] rfl rfl (take_ofW HT_.out HW_.out (by kernel_rfl)) (fun _ _ _ h => h) (Or.inl ⟨by rfl, ?_⟩) hHeld ?_ ?_
                  rotate_left
                  · rintro w' ⟨s0, s1⟩
                    go_simp
                    with_reducible rfl
                  rotate_left
                  · simp only [Act.put, List.setIfInBounds_toArray, List.set_cons_zero, List.set_cons_succ, i64_w, i32_w]
                    rfl
                  refine one_ (i := 4) (N := some 69) #[true, true, true, true, true, false, false, false, false, false] rfl rfl (one_of HT_.out (by kernel_rfl)) (by decide) (fun K hK => ?_)
                  refine goes_ Tryd.func56 (by kernel_rfl) rfl #[.int .i64 (Int.tmod t553 40), .int .u8 97] (by rfl) rfl rfl (by (try simp only [List.map_toArray, List.map_cons, List.map_nil]); rfl) ?_
                  with_reducible refine (spec_l01Long.calls k1 (Int.tmod t553 40) 97 t582 _ A89.out).mono ?_
                  rintro e w96 ⟨rfl, hb⟩
                  refine ⟨_, rfl, ?_⟩
                  have n0_ := Aside0.mk (Kd.R_below (by (with_reducible repeat (first | apply Kd.R_alloc | apply Kd.R_drewN | apply Kd.R_drew )); exact HO_563001.out) hb)
                  have n1_ := Aside0.mk (blk_below (g := gb549) (o := .cells #[.string (⟨#[]⟩ : ByteArray), .slice none 0 0] 44 (0, 0)) (by (with_reducible repeat (first | refine blk_drewN ?_ _ | refine blk_drew ?_ | refine blk_alloc ?_ _ )); exact BK549.out) hb)
                  have n2_ := Aside0.mk (blk_below (g := gb562) (o := .cells #[.string t556, .slice Ao94 x563001_1.length co94] 44 (0, 0)) (by (with_reducible repeat (first | refine blk_drewN ?_ _ | refine blk_drew ?_ | refine blk_alloc ?_ _ )); exact BK562.out) hb)
                  have n3_ := Aside0.mk (IsS106.below (by repeat ((with_reducible exact HI0.out))) hb)
                  have n4_ := Aside0.mk (KeepBut.trans (by repeat ((with_reducible exact HK.out))) (KeepBut.of_below hb g none) (.inl rfl))
                  have n5_ := Aside0.mk (below_step (by repeat ((with_reducible exact HB.out))) hb)
                  clear HO_563001
                  clear BK549
                  clear BK562
                  clear HI0
                  clear HK
                  clear HB
                  have HO_563001 := n0_
                  have BK549 := n1_
                  have BK562 := n2_
                  have HI0 := n3_
                  have HK := n4_
                  have HB := n5_
                  clear n0_ n1_ n2_ n3_ n4_ n5_
                  (try clear hb)
                  (try clear hb2)
                  (try clear hk)
                  (try clear hi)
                  refine hK.out _ _ ⟨(blk_cell BK562.out 0).trans rfl, (blk_cell BK562.out 1).trans rfl⟩ (fun hHeld => ?_)
                  clear hK K
                  refine norm_ (a' := ?_) ?_ ?_
                  rotate_left
                  · show Act.put _ (some 69) _ = _
                    simp only [Act.put, List.setIfInBounds_toArray, List.set_cons_zero, List.set_cons_succ, i64_w, i32_w]
                    rfl
                  refine pure_ (i := 5) (N := some 70) (v := ?_) (a' := ?_) #[true, true, true, true, true, true, false, false, false, false] rfl rfl (any_of HT_.out (by kernel_rfl)) (fun _ _ _ h => h) (Or.inl ⟨by rfl, ?_⟩) ?_ ?_
                  rotate_left
                  · intro w'
                    go_simp
                    with_reducible rfl
                  rotate_left
                  · simp only [Act.put, List.setIfInBounds_toArray, List.set_cons_zero, List.set_cons_succ, i64_w, i32_w]
                    rfl
                  refine one_ (i := 6) (N := some 71) #[true, true, true, true, true, true, true, false, false, false] rfl rfl (one_of HT_.out (by kernel_rfl)) (by decide) (fun K hK => ?_)
                  refine value_ (w1 := ?_) (v := ?_) (by rfl) rfl ?_ ?_
                  rotate_left 2
                  · go_simp
                    constructor
                    · rfl
                    · rfl
                  refine hK.out _ _ ⟨(blk_cell (blk_alloc BK562.out _) 0).trans rfl, (blk_cell (blk_alloc BK562.out _) 1).trans rfl⟩ (fun hHeld => ?_)
                  clear hK K
                  refine norm_ (a' := ?_) ?_ ?_
                  rotate_left
                  · show Act.put _ (some 71) _ = _
                    simp only [Act.put, List.setIfInBounds_toArray, List.set_cons_zero, List.set_cons_succ, i64_w, i32_w]
                    rfl
                  refine one_ (i := 7) (N := some 72) #[true, true, true, true, true, true, true, true, false, false] rfl rfl (one_of HT_.out (by kernel_rfl)) (by decide) (fun K hK => ?_)
                  refine Kd.R_append_step k41 w.heap.size (by rfl) (.tmp 66) (.tmp 71) 42 41 (.agg #[(.string ⟨#[]⟩), (.string ⟨#[]⟩)]) 32 rfl Tryd.underlying42 info41 rfl (by decide) (by omega) (.slice Ao94 x563001_1.length co94) x563001_1 (⟨(⟨#[121]⟩ : ByteArray), t582⟩ : S41) [.string (⟨#[121]⟩ : ByteArray), .string t582] (fun _ => True) (fun _ => False) rfl rfl ?aP (fun _ hk => hk.elim) ?aF ?aO (Below.refl _ _) ?aS ?aL ?_
                  (case aP => exact k41_mkM _ _ _ (⟨(⟨#[121]⟩ : ByteArray), t582⟩ : S41))
                  (case aF => exact (fun _ _ => trivial))
                  (case aO => exact (by (with_reducible repeat (first | apply Kd.R_alloc | apply Kd.R_drewN | apply Kd.R_drew )); exact HO_563001.out))
                  (case aS => exact (keep_size (w := w) (g := g) (row := none) (by repeat ((with_reducible exact HK.out)))))
                  (case aL => have := LMc90.out; omega)
                  intro v584 w97 ho hb hg hat
                  rw [← Ny583.out] at ho
                  have n0_ := Aside0.mk (blk_grown (g := gb549) (o := .cells #[.string (⟨#[]⟩ : ByteArray), .slice none 0 0] 44 (0, 0)) (by (with_reducible repeat (first | refine blk_drewN ?_ _ | refine blk_drew ?_ | refine blk_alloc ?_ _ )); exact BK549.out) hg (Kd.R_ne HO_563001.out BK549.out (by decide)))
                  have n1_ := Aside0.mk (blk_grown (g := gb562) (o := .cells #[.string t556, .slice Ao94 x563001_1.length co94] 44 (0, 0)) (by (with_reducible repeat (first | refine blk_drewN ?_ _ | refine blk_drew ?_ | refine blk_alloc ?_ _ )); exact BK562.out) hg (Kd.R_ne HO_563001.out BK562.out (by decide)))
                  have n2_ := Aside0.mk (IsS106.grown (w0 := w0) (g := g) (f0 := s0_0) (f1 := t560) (f2 := t561) (by repeat ((with_reducible exact HI0.out))) hg (IsS106.own_ne HI0.out HO_563001.out (by decide)))
                  have n3_ := Aside0.mk (below_weaken (by repeat ((with_reducible exact HB.out))) HL.out hb)
                  have n4_ := Aside0.mk (KeepBut.trans (by repeat ((with_reducible exact HK.out))) (KeepBut.of_grown hg g) (Kd.R_base2 HO_563001.out))
                  have n5_ := Aside0.mk (ho)
                  clear BK549
                  clear BK562
                  clear HI0
                  clear HB
                  clear HK
                  clear HO_563001
                  have BK549 := n0_
                  have BK562 := n1_
                  have HI0 := n2_
                  have HB := n3_
                  have HK := n4_
                  have HO585 := n5_
                  clear n0_ n1_ n2_ n3_ n4_ n5_
                  clear ho hb hg hat
                  obtain ⟨Ao98, co98, eo98⟩ := Kd.R_slice HO585.out
                  (subst eo98)
                  refine hK.out _ _ ⟨(blk_cell BK562.out 0).trans rfl, (blk_cell BK562.out 1).trans rfl⟩ (fun hHeld => ?_)
                  clear hK K
                  refine norm_ (a' := ?_) ?_ ?_
                  rotate_left
                  · show Act.put _ (some 72) _ = _
                    simp only [Act.put, List.setIfInBounds_toArray, List.set_cons_zero, List.set_cons_succ, i64_w, i32_w]
                    rfl
                  refine pure_ (i := 8) (N := some 73) (v := ?_) (a' := ?_) #[true, true, true, true, true, true, true, true, true, false] rfl rfl (any_of HT_.out (by kernel_rfl)) (fun _ _ _ h => h) (Or.inl ⟨by rfl, ?_⟩) ?_ ?_
                  rotate_left
                  · intro w'
                    go_simp
                    with_reducible rfl
                  rotate_left
                  · simp only [Act.put, List.setIfInBounds_toArray, List.set_cons_zero, List.set_cons_succ, i64_w, i32_w]
                    rfl
                  refine last_ (i := 9) (N := none) #[true, true, true, true, true, true, true, true, true, true] rfl rfl (one_of HT_.out (by kernel_rfl)) (by decide) (fun K hK => ?_)
                  have hs99 : w97.cell? ⟨gb562, 1, none⟩ = some (.slice Ao94 x563001_1.length co94) := (blk_cell BK562.out 1).trans rfl
                  have hfs99 := blk_frozen BK562.out 1
                  have hns99_0 := NB549_562.out
                  have hms99_0 := NB562_549.out
                  refine skip_ (w1 := ?_) (by rfl) rfl ?_ ?_
                  rotate_left
                  · go_simp
                    rfl
                  refine hK.out _ _ ?_
                  clear hK K
                  refine done_ (done_of HT_.out (by kernel_rfl)) ?_
                  go_wp2
                  go_roundg k1
                  case measure => have := HK1.out; omega
                  case rel => exact ⟨(y583), (.slice Ao98 y583.length co98), H', ⟨by have := HK1.out; omega⟩, ⟨by (with_reducible repeat (first | apply Kd.R_alloc | apply Kd.R_drewN | apply Kd.R_drew )); exact Kd.R_mono (Kd.R_far (p := ⟨gb562, 1, none⟩) (Kd.R_types HO585.out BK562.out (by decide)) (fun _ hk => hk.2) (.slice Ao98 y583.length co98)) (fun _ hk => trivial)⟩, ⟨by (with_reducible repeat (first | refine blk_drewN ?_ _ | refine blk_drew ?_ | refine blk_alloc ?_ _ )); refine blk_far ?_ NB549_562.out _; (with_reducible repeat (first | refine blk_drewN ?_ _ | refine blk_drew ?_ | refine blk_alloc ?_ _ )); exact BK549.out⟩, ⟨by (with_reducible repeat (first | refine blk_drewN ?_ _ | refine blk_drew ?_ | refine blk_alloc ?_ _ )); refine blk_put (cs := #[.string t556, .slice Ao94 x563001_1.length co94]) ?_ 1 _ rfl; (with_reducible repeat (first | refine blk_drewN ?_ _ | refine blk_drew ?_ | refine blk_alloc ?_ _ )); exact BK562.out⟩, ⟨by repeat ((with_reducible first | exact HI0.out | refine IsS106.far ?_ NB0_562.out _))⟩, ⟨by repeat ((with_reducible first | exact HK.out | refine keep_far ?_ GW562.out _))⟩, ⟨by repeat ((with_reducible first | exact HB.out | refine below_set ?_ GE562.out))⟩⟩
                · rw [if_neg c90] at H
                  exact absurd H (by simp)
              · rw [if_neg c88] at H
                have c88b0 : decide ((x563001_1.length : Int) < (wrap64 (8 + (Int.tmod t553 2)))) = false := decide_eq_false c88
                clear c88
                simp only [Option.some.injEq, Prod.mk.injEq] at H
                obtain ⟨rfl, rfl, rfl, rfl⟩ := H
                have hnb100 := NB562_549.out
                have hnc100 := NB549_562.out
                have hnb101 := NB562_0.out
                have hnc101 := NB0_562.out
                have hcz102_0 : wr.cell? ⟨gb562, 0, none⟩ = some (.string t556) := (blk_cell BK562.out 0).trans rfl
                have hcz102_1 : wr.cell? ⟨gb562, 1, none⟩ = some (u563001) := (blk_cell BK562.out 1).trans rfl
                have hfz102_0 := blk_frozen BK562.out 0
                have hfz102_1 := blk_frozen BK562.out 1
                obtain ⟨Ao103, co103, eo103⟩ := Kd.R_slice HO_563001.out
                subst eo103
                have hnb104 := NB549_0.out
                have hnc104 := NB0_549.out
                have hcz105_0 : wr.cell? ⟨gb549, 0, none⟩ = some (.string (⟨#[]⟩ : ByteArray)) := (blk_cell BK549.out 0).trans rfl
                have hcz105_1 : wr.cell? ⟨gb549, 1, none⟩ = some (.slice none 0 0) := (blk_cell BK549.out 1).trans rfl
                have hfz105_0 := blk_frozen BK549.out 0
                have hfz105_1 := blk_frozen BK549.out 1
                go_wp2
                refine bodyPost_ret (results_cell_row rfl _ _ gb549 44 #[.string t556, .slice Ao103 x563001_1.length co103] (0, 0) _ rfl (by (with_reducible repeat (first | refine blk_drewN ?_ _ | refine blk_drew ?_ | refine blk_alloc ?_ _ )); refine blk_put (cs := #[.string t556, .slice none 0 0]) ?_ 1 _ rfl; (with_reducible repeat (first | refine blk_drewN ?_ _ | refine blk_drew ?_ | refine blk_alloc ?_ _ )); refine blk_put (cs := #[.string (⟨#[]⟩ : ByteArray), .slice none 0 0]) ?_ 0 _ rfl; (with_reducible repeat (first | refine blk_drewN ?_ _ | refine blk_drew ?_ | refine blk_alloc ?_ _ )); exact BK549.out) Tryd.underlying44 rfl (by kernel_rfl)) rfl ?_
                exact ⟨_, by rfl, by (with_reducible repeat (first | apply Kd.R_alloc | apply Kd.R_drewN | apply Kd.R_drew )); exact Kd.R_mono (Kd.R_far (p := ⟨gb549, 1, none⟩) (Kd.R_far (p := ⟨gb549, 0, none⟩) (Kd.R_types HO_563001.out BK549.out (by decide)) (fun _ hk => hk.2) (.string t556)) (fun _ hk => hk.2) (.slice Ao103 x563001_1.length co103)) (fun _ hk => trivial), by repeat ((with_reducible first | exact HI0.out | refine IsS106.far ?_ NB0_549.out _)), by repeat ((with_reducible first | exact HB.out | refine below_set ?_ GE549.out)), by repeat ((with_reducible first | exact HK.out | refine keep_far ?_ GW549.out _))⟩
        · rw [if_neg c87] at H
          have c87b0 : (t550 == 3) = false := beq_eq_false_iff_ne.mpr c87
          have c87b1 : (t550 != 3) = true := bne_iff_ne.mpr c87
          simp only [Option.some.injEq, Prod.mk.injEq] at H
          obtain ⟨rfl, rfl, rfl, rfl⟩ := H
          have hnb106 := NB562_549.out
          have hnc106 := NB549_562.out
          have hnb107 := NB562_0.out
          have hnc107 := NB0_562.out
          have hcz108_0 : w10.cell? ⟨gb562, 0, none⟩ = some (.string (⟨#[]⟩ : ByteArray)) := (blk_cell BK562.out 0).trans rfl
          have hcz108_1 : w10.cell? ⟨gb562, 1, none⟩ = some (.slice none 0 0) := (blk_cell BK562.out 1).trans rfl
          have hfz108_0 := blk_frozen BK562.out 0
          have hfz108_1 := blk_frozen BK562.out 1
          have hnb109 := NB549_0.out
          have hnc109 := NB0_549.out
          have hcz110_0 : w10.cell? ⟨gb549, 0, none⟩ = some (.string (⟨#[]⟩ : ByteArray)) := (blk_cell BK549.out 0).trans rfl
          have hcz110_1 : w10.cell? ⟨gb549, 1, none⟩ = some (.slice none 0 0) := (blk_cell BK549.out 1).trans rfl
          have hfz110_0 := blk_frozen BK549.out 0
          have hfz110_1 := blk_frozen BK549.out 1
          go_wp2
          refine bodyPost_ret (results_cell_row rfl _ _ gb549 44 #[.string t556, .slice Ao14 t557.length co14] (0, 0) _ rfl (by (with_reducible repeat (first | refine blk_drewN ?_ _ | refine blk_drew ?_ | refine blk_alloc ?_ _ )); refine blk_put (cs := #[.string t556, .slice none 0 0]) ?_ 1 _ rfl; (with_reducible repeat (first | refine blk_drewN ?_ _ | refine blk_drew ?_ | refine blk_alloc ?_ _ )); refine blk_put (cs := #[.string (⟨#[]⟩ : ByteArray), .slice none 0 0]) ?_ 0 _ rfl; (with_reducible repeat (first | refine blk_drewN ?_ _ | refine blk_drew ?_ | refine blk_alloc ?_ _ )); refine blk_far ?_ NB549_562.out _; (with_reducible repeat (first | refine blk_drewN ?_ _ | refine blk_drew ?_ | refine blk_alloc ?_ _ )); refine blk_far ?_ NB549_562.out _; (with_reducible repeat (first | refine blk_drewN ?_ _ | refine blk_drew ?_ | refine blk_alloc ?_ _ )); exact BK549.out) Tryd.underlying44 rfl (by kernel_rfl)) rfl ?_
          exact ⟨_, by rfl, by (with_reducible repeat (first | apply Kd.R_alloc | apply Kd.R_drewN | apply Kd.R_drew )); exact Kd.R_mono (Kd.R_far (p := ⟨gb549, 1, none⟩) (Kd.R_far (p := ⟨gb549, 0, none⟩) (Kd.R_far (p := ⟨gb562, 1, none⟩) (Kd.R_far (p := ⟨gb562, 0, none⟩) (Kd.R_types (Kd.R_types HO559.out BK562.out (by decide)) BK549.out (by decide)) (fun _ hk => hk.1.2) (.string t556)) (fun _ hk => hk.1.2) (.slice Ao14 t557.length co14)) (fun _ hk => hk.2) (.string t556)) (fun _ hk => hk.2) (.slice Ao14 t557.length co14)) (fun _ hk => trivial), by repeat ((with_reducible first | exact HI0.out | refine IsS106.far ?_ NB0_549.out _ | refine IsS106.far ?_ NB0_562.out _)), by repeat ((with_reducible first | exact HB.out | refine below_set ?_ GE549.out | refine below_set ?_ GE562.out)), by repeat ((with_reducible first | exact HK.out | refine keep_far ?_ GW549.out _ | refine keep_far ?_ GW562.out _))⟩
def spec_DrawAnswerText.f (k : Nat) (l0 : List Int) : Option (ByteArray × (List (S41)) × ByteArray) := (spec_l01New.f k l0).bind fun bt587 => ((spec_l01Below.f bt587.1 bt587.2.1 bt587.2.2 30).bind fun bt591 => ((spec_l01Once.f bt587.1 bt591.2.1 bt591.2.2 10).bind fun bt594 => (if bt594.1 = true then ((spec_l01Below.f bt587.1 bt594.2.1 bt594.2.2 2).bind fun bt597 => ((spec_l09Any.f k bt587.1 bt597.2.1 bt597.2.2).bind fun bt600 => ((spec_l01Long.f k (wrap64 (400 + bt597.1)) 98).bind fun t606 => (some (bt600.1, bt600.2.1, t606))))) else ((spec_l09Any.f k bt587.1 bt594.2.1 bt594.2.2).bind fun bt607 => ((spec_l01Long.f k bt591.1 98).bind fun t613 => (some (bt607.1, bt607.2.1, t613)))))))
set_option maxHeartbeats 8000000 in
set_option maxRecDepth 100000 in
theorem spec_DrawAnswerText.calls (k : Nat) (A0 : Option Addr) (c0 : Nat) (l0 : List Int) (r1 : ByteArray) (r2 : List (S41)) (r3 : ByteArray) (w : World) (hr0 : Kd.C (Kd.int .u8) w A0 l0.length l0) (hc0 : l0.length ≤ c0) (h : spec_DrawAnswerText.f k l0 = some (r1, r2, r3)) :
    Calls Tryd.prog 27 #[.slice A0 l0.length c0] w fun e w' => ∃ v1_ : Value, e = .returned (.tuple #[.agg #[.string r1, v1_], .string r3]) ∧ Kd.R k41 41 w' w.heap.size (fun _ => True) v1_ r2 ∧ Below w.heap.size w w' := by
  have hu44 := Tryd.underlying44
  have HR0 := Aside0.mk hr0
  have HC0 := Aside0.mk hc0
  clear hr0 hc0
  have HB := Aside0.mk (Below.refl w.heap.size w)
  have H : ((spec_l01New.f k l0).bind fun bt587 => ((spec_l01Below.f bt587.1 bt587.2.1 bt587.2.2 30).bind fun bt591 => ((spec_l01Once.f bt587.1 bt591.2.1 bt591.2.2 10).bind fun bt594 => (if bt594.1 = true then ((spec_l01Below.f bt587.1 bt594.2.1 bt594.2.2 2).bind fun bt597 => ((spec_l09Any.f k bt587.1 bt597.2.1 bt597.2.2).bind fun bt600 => ((spec_l01Long.f k (wrap64 (400 + bt597.1)) 98).bind fun t606 => (some (bt600.1, bt600.2.1, t606))))) else ((spec_l09Any.f k bt587.1 bt594.2.1 bt594.2.2).bind fun bt607 => ((spec_l01Long.f k bt591.1 98).bind fun t613 => (some (bt607.1, bt607.2.1, t613)))))))) = some (r1, r2, r3) := h
  clear h
  replace H := Option.bind_eq_some_iff.mp H
  obtain ⟨⟨t587, t588, t589⟩, A20, H⟩ := H
  replace H : ((spec_l01Below.f t587 t588 t589 30).bind fun bt591 => ((spec_l01Once.f t587 bt591.2.1 bt591.2.2 10).bind fun bt594 => (if bt594.1 = true then ((spec_l01Below.f t587 bt594.2.1 bt594.2.2 2).bind fun bt597 => ((spec_l09Any.f k t587 bt597.2.1 bt597.2.2).bind fun bt600 => ((spec_l01Long.f k (wrap64 (400 + bt597.1)) 98).bind fun t606 => (some (bt600.1, bt600.2.1, t606))))) else ((spec_l09Any.f k t587 bt594.2.1 bt594.2.2).bind fun bt607 => ((spec_l01Long.f k bt591.1 98).bind fun t613 => (some (bt607.1, bt607.2.1, t613))))))) = some (r1, r2, r3) := H
  have A2 := Aside0.mk A20
  clear A20
  replace H := Option.bind_eq_some_iff.mp H
  obtain ⟨⟨t591, t592, t593⟩, A30, H⟩ := H
  replace H : ((spec_l01Once.f t587 t592 t593 10).bind fun bt594 => (if bt594.1 = true then ((spec_l01Below.f t587 bt594.2.1 bt594.2.2 2).bind fun bt597 => ((spec_l09Any.f k t587 bt597.2.1 bt597.2.2).bind fun bt600 => ((spec_l01Long.f k (wrap64 (400 + bt597.1)) 98).bind fun t606 => (some (bt600.1, bt600.2.1, t606))))) else ((spec_l09Any.f k t587 bt594.2.1 bt594.2.2).bind fun bt607 => ((spec_l01Long.f k t591 98).bind fun t613 => (some (bt607.1, bt607.2.1, t613)))))) = some (r1, r2, r3) := H
  have A3 := Aside0.mk A30
  clear A30
  replace H := Option.bind_eq_some_iff.mp H
  obtain ⟨⟨t594, t595, t596⟩, A40, H⟩ := H
  replace H : (if t594 = true then ((spec_l01Below.f t587 t595 t596 2).bind fun bt597 => ((spec_l09Any.f k t587 bt597.2.1 bt597.2.2).bind fun bt600 => ((spec_l01Long.f k (wrap64 (400 + bt597.1)) 98).bind fun t606 => (some (bt600.1, bt600.2.1, t606))))) else ((spec_l09Any.f k t587 t595 t596).bind fun bt607 => ((spec_l01Long.f k t591 98).bind fun t613 => (some (bt607.1, bt607.2.1, t613))))) = some (r1, r2, r3) := H
  have A4 := Aside0.mk A40
  clear A40
  have HS5 := Aside0.mk H
  clear H
  go_enter Tryd.func27, Tryd.ntmps27
  go_upto_if 11 with (first | ((with_reducible refine gate_dst (N := 2) rfl ?_); refine box_event ?hg (N := 2) ?hd (cs := #[.string (⟨#[]⟩ : ByteArray), .slice none 0 0]) (t := 44) ?hr ?_; (case hd => rfl); (case hg => rfl); (case hr => (go_simp; done)); intro gb586 hg w6 hbox hb; have n0_ := Aside0.mk (below_step (by repeat ((with_reducible exact HB.out))) hb); have n1_ := Aside0.mk (hbox); have n2_ := Aside0.mk ((by rw [hg]; exact (below_size (by repeat ((with_reducible exact HB.out)))) : w.heap.size ≤ gb586)); have n3_ := Aside0.mk ((by rw [hg]; exact (below_size (by repeat ((with_reducible exact HB.out)))) : w.heap.size ≤ gb586)); clear HB; have HB := n0_; have BK586 := n1_; have GW586 := n2_; have GE586 := n3_; clear n0_ n1_ n2_ n3_; clear hb hbox hg) | ((with_reducible refine gate_callee (f := 40) rfl ?_); refine goesL_ (some 7) rfl rfl Tryd.func40 (by kernel_rfl) rfl #[.slice A0 l0.length c0] rfl (by (try simp only [List.map_toArray, List.map_cons, List.map_nil]); rfl) ?_; (with_reducible refine (spec_l01New.calls k _ _ l0 t587 t588 t589 w _ ?side1 ?side2 ?side3 A2.out).mono ?_); (case side1 => repeat ((with_reducible exact HB.out))); (case side2 => exact HR0.out); (case side3 => exact HC0.out); rintro e w7 ⟨g590, rfl, hi, hb, hb2⟩; refine ⟨_, rfl, ?_⟩; have n0_ := Aside0.mk (blk_below (g := gb586) (o := .cells #[.string (⟨#[]⟩ : ByteArray), .slice none 0 0] 44 (0, 0)) (by (with_reducible repeat (first | refine blk_drewN ?_ _ | refine blk_drew ?_ | refine blk_alloc ?_ _ )); exact BK586.out) hb2); have n1_ := Aside0.mk (hb); have n2_ := Aside0.mk (hi); have n3_ := Aside0.mk (IsS106.ne_blk hi (blk_below (g := gb586) (o := .cells #[.string (⟨#[]⟩ : ByteArray), .slice none 0 0] 44 (0, 0)) (by (with_reducible repeat (first | refine blk_drewN ?_ _ | refine blk_drew ?_ | refine blk_alloc ?_ _ )); exact BK586.out) hb2) (by decide)); have n4_ := Aside0.mk (Ne.symm (IsS106.ne_blk hi (blk_below (g := gb586) (o := .cells #[.string (⟨#[]⟩ : ByteArray), .slice none 0 0] 44 (0, 0)) (by (with_reducible repeat (first | refine blk_drewN ?_ _ | refine blk_drew ?_ | refine blk_alloc ?_ _ )); exact BK586.out) hb2) (by decide))); clear BK586; clear HB; have BK586 := n0_; have HB := n1_; have HI590 := n2_; have NB590_586 := n3_; have NB586_590 := n4_; clear n0_ n1_ n2_ n3_ n4_; (try clear hb); (try clear hb2); (try clear hk); (try clear hi)) | ((with_reducible refine gate_callee (f := 42) rfl ?_); refine goesL_ (some 9) rfl rfl Tryd.func42 (by kernel_rfl) rfl #[.pointer (some ⟨g590, 0, none⟩), .int .i64 30] rfl (by (try simp only [List.map_toArray, List.map_cons, List.map_nil]); rfl) ?_; (with_reducible refine (spec_l01Below.calls g590 t587 t588 t589 30 t591 t592 t593 w _ ?side1 ?side2 A3.out).mono ?_); (case side1 => repeat ((with_reducible exact HI590.out))); (case side2 => repeat ((with_reducible exact HB.out))); rintro e w8 ⟨rfl, hi, hb, hk⟩; refine ⟨_, rfl, ?_⟩; have n0_ := Aside0.mk (KeepBut.blk hk (g' := gb586) (o := .cells #[.string (⟨#[]⟩ : ByteArray), .slice none 0 0] 44 (0, 0)) (by (with_reducible repeat (first | refine blk_drewN ?_ _ | refine blk_drew ?_ | refine blk_alloc ?_ _ )); exact BK586.out) NB586_590.out (by simp)); have n1_ := Aside0.mk (hb); have n2_ := Aside0.mk (hi); clear BK586; clear HB; clear HI590; have BK586 := n0_; have HB := n1_; have HI590 := n2_; clear n0_ n1_ n2_; (try clear hb); (try clear hb2); (try clear hk); (try clear hi)) | ((with_reducible refine gate_callee (f := 45) rfl ?_); refine goesL_ (some 11) rfl rfl Tryd.func45 (by kernel_rfl) rfl #[.pointer (some ⟨g590, 0, none⟩), .int .i64 10] rfl (by (try simp only [List.map_toArray, List.map_cons, List.map_nil]); rfl) ?_; (with_reducible refine (spec_l01Once.calls g590 t587 t592 t593 10 t594 t595 t596 w _ ?side1 ?side2 A4.out).mono ?_); (case side1 => repeat ((with_reducible exact HI590.out))); (case side2 => repeat ((with_reducible exact HB.out))); rintro e w9 ⟨rfl, hi, hb, hk⟩; refine ⟨_, rfl, ?_⟩; have n0_ := Aside0.mk (KeepBut.blk hk (g' := gb586) (o := .cells #[.string (⟨#[]⟩ : ByteArray), .slice none 0 0] 44 (0, 0)) (by (with_reducible repeat (first | refine blk_drewN ?_ _ | refine blk_drew ?_ | refine blk_alloc ?_ _ )); exact BK586.out) NB586_590.out (by simp)); have n1_ := Aside0.mk (hb); have n2_ := Aside0.mk (hi); clear BK586; clear HB; clear HI590; have BK586 := n0_; have HB := n1_; have HI590 := n2_; clear n0_ n1_ n2_; (try clear hb); (try clear hb2); (try clear hk); (try clear hi)))
  (try simp only [Act.put, List.setIfInBounds_toArray, List.set_cons_zero, List.set_cons_succ])
  have H := HS5.out
  clear HS5
  by_cases c10 : t594 = true
  · subst c10
    have H1 : ((spec_l01Below.f t587 t595 t596 2).bind fun bt597 => ((spec_l09Any.f k t587 bt597.2.1 bt597.2.2).bind fun bt600 => ((spec_l01Long.f k (wrap64 (400 + bt597.1)) 98).bind fun t606 => (some (bt600.1, bt600.2.1, t606))))) = some (r1, r2, r3) := by rw [if_pos rfl] at H; exact H
    clear H
    have H := H1
    clear H1
    replace H := Option.bind_eq_some_iff.mp H
    obtain ⟨⟨t597, t598, t599⟩, A110, H⟩ := H
    replace H : ((spec_l09Any.f k t587 t598 t599).bind fun bt600 => ((spec_l01Long.f k (wrap64 (400 + t597)) 98).bind fun t606 => (some (bt600.1, bt600.2.1, t606)))) = some (r1, r2, r3) := H
    have A11 := Aside0.mk A110
    clear A110
    replace H := Option.bind_eq_some_iff.mp H
    obtain ⟨⟨t600, t601, t604, t605⟩, A120, H⟩ := H
    replace H : ((spec_l01Long.f k (wrap64 (400 + t597)) 98).bind fun t606 => (some (t600, t601, t606))) = some (r1, r2, r3) := H
    have A12 := Aside0.mk A120
    clear A120
    replace H := Option.bind_eq_some_iff.mp H
    obtain ⟨t606, A130, H⟩ := H
    replace H : (some (t600, t601, t606)) = some (r1, r2, r3) := H
    have A13 := Aside0.mk A130
    clear A130
    simp only [Option.some.injEq, Prod.mk.injEq] at H
    obtain ⟨rfl, rfl, rfl⟩ := H
    go_wp2_with (first | ((with_reducible refine gate_callee (f := 42) rfl ?_); refine goesL_ (some 13) rfl rfl Tryd.func42 (by kernel_rfl) rfl #[.pointer (some ⟨g590, 0, none⟩), .int .i64 2] rfl (by (try simp only [List.map_toArray, List.map_cons, List.map_nil]); rfl) ?_; (with_reducible refine (spec_l01Below.calls g590 t587 t595 t596 2 t597 t598 t599 w _ ?side1 ?side2 A11.out).mono ?_); (case side1 => repeat ((with_reducible exact HI590.out))); (case side2 => repeat ((with_reducible exact HB.out))); rintro e w14 ⟨rfl, hi, hb, hk⟩; refine ⟨_, rfl, ?_⟩; have n0_ := Aside0.mk (KeepBut.blk hk (g' := gb586) (o := .cells #[.string (⟨#[]⟩ : ByteArray), .slice none 0 0] 44 (0, 0)) (by (with_reducible repeat (first | refine blk_drewN ?_ _ | refine blk_drew ?_ | refine blk_alloc ?_ _ )); exact BK586.out) NB586_590.out (by simp)); have n1_ := Aside0.mk (hb); have n2_ := Aside0.mk (hi); clear BK586; clear HB; clear HI590; have BK586 := n0_; have HB := n1_; have HI590 := n2_; clear n0_ n1_ n2_; (try clear hb); (try clear hb2); (try clear hk); (try clear hi)) | ((with_reducible refine gate_callee (f := 55) rfl ?_); refine goesL_ (some 16) rfl rfl Tryd.func55 (by kernel_rfl) rfl #[.pointer (some ⟨g590, 0, none⟩)] rfl (by (try simp only [List.map_toArray, List.map_cons, List.map_nil]); rfl) ?_; (with_reducible refine (spec_l09Any.calls k g590 t587 t598 t599 t600 t601 t604 t605 w _ ?side1 ?side2 A12.out).mono ?_); (case side1 => repeat ((with_reducible exact HI590.out))); (case side2 => repeat ((with_reducible exact HB.out))); rintro e w15 ⟨v602, rfl, ho0, hi, hb, hk⟩; refine ⟨_, rfl, ?_⟩; have n0_ := Aside0.mk (KeepBut.blk hk (g' := gb586) (o := .cells #[.string (⟨#[]⟩ : ByteArray), .slice none 0 0] 44 (0, 0)) (by (with_reducible repeat (first | refine blk_drewN ?_ _ | refine blk_drew ?_ | refine blk_alloc ?_ _ )); exact BK586.out) NB586_590.out (by simp)); have n1_ := Aside0.mk (Kd.R_lower ho0 (below_size (by repeat ((with_reducible exact HB.out))))); have n2_ := Aside0.mk (hb); have n3_ := Aside0.mk (hi); clear BK586; clear HB; clear HI590; have BK586 := n0_; have HO603 := n1_; have HB := n2_; have HI590 := n3_; clear n0_ n1_ n2_ n3_; (try clear hb); (try clear hb2); (try clear hk); (try clear hi); (try clear ho0)) | ((with_reducible refine gate_callee (f := 56) rfl ?_); refine goesL_ (some 18) rfl rfl Tryd.func56 (by kernel_rfl) rfl #[.int .i64 (wrap64 (400 + t597)), .int .u8 98] rfl (by (try simp only [List.map_toArray, List.map_cons, List.map_nil]); rfl) ?_; (with_reducible refine (spec_l01Long.calls k (wrap64 (400 + t597)) 98 t606 _ A13.out).mono ?_); rintro e w16 ⟨rfl, hb⟩; refine ⟨_, rfl, ?_⟩; have n0_ := Aside0.mk (Kd.R_below (by (with_reducible repeat (first | apply Kd.R_alloc | apply Kd.R_drewN | apply Kd.R_drew )); exact HO603.out) hb); have n1_ := Aside0.mk (blk_below (g := gb586) (o := .cells #[.string (⟨#[]⟩ : ByteArray), .slice none 0 0] 44 (0, 0)) (by (with_reducible repeat (first | refine blk_drewN ?_ _ | refine blk_drew ?_ | refine blk_alloc ?_ _ )); exact BK586.out) hb); have n2_ := Aside0.mk (IsS106.below (by repeat ((with_reducible exact HI590.out))) hb); have n3_ := Aside0.mk (below_step (by repeat ((with_reducible exact HB.out))) hb); clear HO603; clear BK586; clear HI590; clear HB; have HO603 := n0_; have BK586 := n1_; have HI590 := n2_; have HB := n3_; clear n0_ n1_ n2_ n3_; (try clear hb); (try clear hb2); (try clear hk); (try clear hi); have hnb17 := NB586_590.out; have hnc17 := NB590_586.out; have hcz18_0 : w16.cell? ⟨gb586, 0, none⟩ = some (.string (⟨#[]⟩ : ByteArray)) := (blk_cell BK586.out 0).trans rfl; have hcz18_1 : w16.cell? ⟨gb586, 1, none⟩ = some (.slice none 0 0) := (blk_cell BK586.out 1).trans rfl; have hfz18_0 := blk_frozen BK586.out 0; have hfz18_1 := blk_frozen BK586.out 1; obtain ⟨Ao19, co19, eo19⟩ := Kd.R_slice HO603.out; subst eo19))
    refine bodyPost_ret (results_ct rfl _ _ gb586 44 #[.string t600, .slice Ao19 t601.length co19] (0, 0) _ rfl (by (with_reducible repeat (first | refine blk_drewN ?_ _ | refine blk_drew ?_ | refine blk_alloc ?_ _ )); refine blk_put (cs := #[.string t600, .slice none 0 0]) ?_ 1 _ rfl; (with_reducible repeat (first | refine blk_drewN ?_ _ | refine blk_drew ?_ | refine blk_alloc ?_ _ )); refine blk_put (cs := #[.string (⟨#[]⟩ : ByteArray), .slice none 0 0]) ?_ 0 _ rfl; (with_reducible repeat (first | refine blk_drewN ?_ _ | refine blk_drew ?_ | refine blk_alloc ?_ _ )); exact BK586.out) Tryd.underlying44 rfl (by kernel_rfl)) rfl ?_
    exact ⟨_, by rfl, by (with_reducible repeat (first | apply Kd.R_alloc | apply Kd.R_drewN | apply Kd.R_drew )); exact Kd.R_mono (Kd.R_far (p := ⟨gb586, 1, none⟩) (Kd.R_far (p := ⟨gb586, 0, none⟩) (Kd.R_types HO603.out BK586.out (by decide)) (fun _ hk => hk.2) (.string t600)) (fun _ hk => hk.2) (.slice Ao19 t601.length co19)) (fun _ hk => trivial), by repeat ((with_reducible first | exact HB.out | refine below_set ?_ GE586.out))⟩
  · replace c10 := Bool.eq_false_iff.mpr c10
    subst c10
    have H1 : ((spec_l09Any.f k t587 t595 t596).bind fun bt607 => ((spec_l01Long.f k t591 98).bind fun t613 => (some (bt607.1, bt607.2.1, t613)))) = some (r1, r2, r3) := by rw [if_neg (show ¬ (false = true) by decide)] at H; exact H
    clear H
    have H := H1
    clear H1
    replace H := Option.bind_eq_some_iff.mp H
    obtain ⟨⟨t607, t608, t611, t612⟩, A200, H⟩ := H
    replace H : ((spec_l01Long.f k t591 98).bind fun t613 => (some (t607, t608, t613))) = some (r1, r2, r3) := H
    have A20 := Aside0.mk A200
    clear A200
    replace H := Option.bind_eq_some_iff.mp H
    obtain ⟨t613, A210, H⟩ := H
    replace H : (some (t607, t608, t613)) = some (r1, r2, r3) := H
    have A21 := Aside0.mk A210
    clear A210
    simp only [Option.some.injEq, Prod.mk.injEq] at H
    obtain ⟨rfl, rfl, rfl⟩ := H
    go_wp2_with (first | ((with_reducible refine gate_callee (f := 55) rfl ?_); refine goesL_ (some 16) rfl rfl Tryd.func55 (by kernel_rfl) rfl #[.pointer (some ⟨g590, 0, none⟩)] rfl (by (try simp only [List.map_toArray, List.map_cons, List.map_nil]); rfl) ?_; (with_reducible refine (spec_l09Any.calls k g590 t587 t595 t596 t607 t608 t611 t612 w _ ?side1 ?side2 A20.out).mono ?_); (case side1 => repeat ((with_reducible exact HI590.out))); (case side2 => repeat ((with_reducible exact HB.out))); rintro e w22 ⟨v609, rfl, ho0, hi, hb, hk⟩; refine ⟨_, rfl, ?_⟩; have n0_ := Aside0.mk (KeepBut.blk hk (g' := gb586) (o := .cells #[.string (⟨#[]⟩ : ByteArray), .slice none 0 0] 44 (0, 0)) (by (with_reducible repeat (first | refine blk_drewN ?_ _ | refine blk_drew ?_ | refine blk_alloc ?_ _ )); exact BK586.out) NB586_590.out (by simp)); have n1_ := Aside0.mk (Kd.R_lower ho0 (below_size (by repeat ((with_reducible exact HB.out))))); have n2_ := Aside0.mk (hb); have n3_ := Aside0.mk (hi); clear BK586; clear HB; clear HI590; have BK586 := n0_; have HO610 := n1_; have HB := n2_; have HI590 := n3_; clear n0_ n1_ n2_ n3_; (try clear hb); (try clear hb2); (try clear hk); (try clear hi); (try clear ho0)) | ((with_reducible refine gate_callee (f := 56) rfl ?_); refine goesL_ (some 18) rfl rfl Tryd.func56 (by kernel_rfl) rfl #[.int .i64 t591, .int .u8 98] rfl (by (try simp only [List.map_toArray, List.map_cons, List.map_nil]); rfl) ?_; (with_reducible refine (spec_l01Long.calls k t591 98 t613 _ A21.out).mono ?_); rintro e w23 ⟨rfl, hb⟩; refine ⟨_, rfl, ?_⟩; have n0_ := Aside0.mk (Kd.R_below (by (with_reducible repeat (first | apply Kd.R_alloc | apply Kd.R_drewN | apply Kd.R_drew )); exact HO610.out) hb); have n1_ := Aside0.mk (blk_below (g := gb586) (o := .cells #[.string (⟨#[]⟩ : ByteArray), .slice none 0 0] 44 (0, 0)) (by (with_reducible repeat (first | refine blk_drewN ?_ _ | refine blk_drew ?_ | refine blk_alloc ?_ _ )); exact BK586.out) hb); have n2_ := Aside0.mk (IsS106.below (by repeat ((with_reducible exact HI590.out))) hb); have n3_ := Aside0.mk (below_step (by repeat ((with_reducible exact HB.out))) hb); clear HO610; clear BK586; clear HI590; clear HB; have HO610 := n0_; have BK586 := n1_; have HI590 := n2_; have HB := n3_; clear n0_ n1_ n2_ n3_; (try clear hb); (try clear hb2); (try clear hk); (try clear hi); have hnb24 := NB586_590.out; have hnc24 := NB590_586.out; have hcz25_0 : w23.cell? ⟨gb586, 0, none⟩ = some (.string (⟨#[]⟩ : ByteArray)) := (blk_cell BK586.out 0).trans rfl; have hcz25_1 : w23.cell? ⟨gb586, 1, none⟩ = some (.slice none 0 0) := (blk_cell BK586.out 1).trans rfl; have hfz25_0 := blk_frozen BK586.out 0; have hfz25_1 := blk_frozen BK586.out 1; obtain ⟨Ao26, co26, eo26⟩ := Kd.R_slice HO610.out; subst eo26))
    refine bodyPost_ret (results_ct rfl _ _ gb586 44 #[.string t607, .slice Ao26 t608.length co26] (0, 0) _ rfl (by (with_reducible repeat (first | refine blk_drewN ?_ _ | refine blk_drew ?_ | refine blk_alloc ?_ _ )); refine blk_put (cs := #[.string t607, .slice none 0 0]) ?_ 1 _ rfl; (with_reducible repeat (first | refine blk_drewN ?_ _ | refine blk_drew ?_ | refine blk_alloc ?_ _ )); refine blk_put (cs := #[.string (⟨#[]⟩ : ByteArray), .slice none 0 0]) ?_ 0 _ rfl; (with_reducible repeat (first | refine blk_drewN ?_ _ | refine blk_drew ?_ | refine blk_alloc ?_ _ )); exact BK586.out) Tryd.underlying44 rfl (by kernel_rfl)) rfl ?_
    exact ⟨_, by rfl, by (with_reducible repeat (first | apply Kd.R_alloc | apply Kd.R_drewN | apply Kd.R_drew )); exact Kd.R_mono (Kd.R_far (p := ⟨gb586, 1, none⟩) (Kd.R_far (p := ⟨gb586, 0, none⟩) (Kd.R_types HO610.out BK586.out (by decide)) (fun _ hk => hk.2) (.string t607)) (fun _ hk => hk.2) (.slice Ao26 t608.length co26)) (fun _ hk => trivial), by repeat ((with_reducible first | exact HB.out | refine below_set ?_ GE586.out))⟩
def spec_FieldOf.l0 : Nat → ByteArray → Int → ByteArray → List (S41) → Option (ByteArray × Bool)
  | 0, _, _, _, _ => none
  | k + 1, x1, x6, x615000, x615001 => if x6 < (x615001.length : Int) then (if 0 ≤ x6 then (if ((rd_T41 x615001 x6).f0).toList = x1.toList then (some ((rd_T41 x615001 x6).f1, true)) else (spec_FieldOf.l0 k x1 (wrap64 (x6 + 1)) x615000 x615001)) else (none)) else (some ((⟨#[]⟩ : ByteArray), false))
def spec_FieldOf.f (k : Nat) (a0_0 : ByteArray) (l0_1 : List (S41)) (a1 : ByteArray) : Option (ByteArray × Bool) := spec_FieldOf.l0 k a1 0 a0_0 l0_1
set_option maxHeartbeats 8000000 in
set_option maxRecDepth 100000 in
theorem spec_FieldOf.calls (k : Nat) (a0_0 : ByteArray) (A0_1 : Option Addr) (c0_1 : Nat) (l0_1 : List (S41)) (a1 : ByteArray) (r1 : ByteArray) (r2 : Bool) (w : World) (hr0_1 : Kd.C k41 w A0_1 l0_1.length l0_1) (hc0_1 : l0_1.length ≤ c0_1) (h : spec_FieldOf.f k a0_0 l0_1 a1 = some (r1, r2)) :
    Calls Tryd.prog 57 #[.agg #[.string a0_0, .slice A0_1 l0_1.length c0_1], .string a1] w fun e w' => e = .returned (.tuple #[.string r1, .bool r2]) ∧ Below w.heap.size w w' := by
  have hu44 := Tryd.underlying44
  have HR0_1 := Aside0.mk hr0_1
  have HC0_1 := Aside0.mk hc0_1
  clear hr0_1 hc0_1
  have HB := Aside0.mk (Below.refl w.heap.size w)
  have H : (spec_FieldOf.l0 k a1 0 a0_0 l0_1) = some (r1, r2) := h
  clear h
  have H' := Aside0.mk H
  clear H
  go_enter Tryd.func57, Tryd.ntmps57
  go_wp2_with (((with_reducible refine gate_dst (N := 2) rfl ?_); refine box_event ?hg (N := 2) ?hd (cs := #[.string a0_0, .slice A0_1 l0_1.length c0_1]) (t := 44) ?hr ?_; (case hd => rfl); (case hg => rfl); (case hr => (go_simp; done)); intro gb614 hg w3 hbox hb; have n0_ := Aside0.mk (below_step (by repeat ((with_reducible exact HB.out))) hb); have n1_ := Aside0.mk (hbox); have n2_ := Aside0.mk ((by rw [hg]; exact (below_size (by repeat ((with_reducible exact HB.out)))) : w.heap.size ≤ gb614)); have n3_ := Aside0.mk ((by rw [hg]; exact (below_size (by repeat ((with_reducible exact HB.out)))) : w.heap.size ≤ gb614)); clear HB; have HB := n0_; have BK614 := n1_; have GW614 := n2_; have GE614 := n3_; clear n0_ n1_ n2_ n3_; clear hb hbox hg))
  go_loopg [6] k (fun kq v6 w' => ∃ (x6_1 : Int), v6 = .int .i64 x6_1 ∧ Aside0 (spec_FieldOf.l0 kq a1 x6_1 a0_0 l0_1 = some (r1, r2)) ∧ Aside0 (kq ≤ k) ∧ Aside0 (w'.heap[gb614]? = some (.cells #[.string a0_0, (.slice A0_1 l0_1.length c0_1)] 44 (0, 0))) ∧ Aside0 (Below w.heap.size w w'))
  case atStart => exact ⟨(0), (by rfl), H', ⟨Nat.le_refl _⟩, ⟨by (with_reducible repeat (first | refine blk_drewN ?_ _ | refine blk_drew ?_ | refine blk_alloc ?_ _ )); exact BK614.out⟩, ⟨by repeat ((with_reducible exact HB.out))⟩⟩
  case round =>
    clear H'
    obtain ⟨x6_1, rfl, HA, HK1, BK614, HB⟩ := hrel
    cases gk with
    | zero => exact absurd HA.out (by simp [spec_FieldOf.l0])
    | succ k1 =>
      have H := HA.out
      clear HA
      simp only [spec_FieldOf.l0] at H
      by_cases c4 : x6_1 < (l0_1.length : Int)
      · rw [if_pos c4] at H
        have c4b0 : decide (x6_1 < (l0_1.length : Int)) = true := decide_eq_true c4
        clear c4
        by_cases c5 : 0 ≤ x6_1
        · rw [if_pos c5] at H
          have c5b0 : decide (0 ≤ x6_1) = true := decide_eq_true c5
          clear c5
          by_cases c6 : ((rd_T41 l0_1 x6_1).f0).toList = a1.toList
          · rw [if_pos c6] at H
            have c6b0 : (((rd_T41 l0_1 x6_1).f0).toList == a1.toList) = true := beq_iff_eq.mpr c6
            have c6b1 : (((rd_T41 l0_1 x6_1).f0).toList != a1.toList) = false := bne_eq_false_iff_eq.mpr c6
            clear c6
            simp only [Option.some.injEq, Prod.mk.injEq] at H
            obtain ⟨rfl, rfl⟩ := H
            have hcz7_0 : wr.cell? ⟨gb614, 0, none⟩ = some (.string a0_0) := (blk_cell BK614.out 0).trans rfl
            have hcz7_1 : wr.cell? ⟨gb614, 1, none⟩ = some (.slice A0_1 l0_1.length c0_1) := (blk_cell BK614.out 1).trans rfl
            have hfz7_0 := blk_frozen BK614.out 0
            have hfz7_1 := blk_frozen BK614.out 1
            have p615 : 0 ≤ (x6_1 : Int) := of_decide_eq_true (by (with_reducible assumption))
            have q615 : x6_1 < (l0_1.length : Int) := of_decide_eq_true (by (with_reducible assumption))
            obtain ⟨ad615, e615, hx615_0, hx615_1⟩ := at_T41 HR0_1.out x6_1 p615 q615
            cases e615
            replace hx615_0 := (HB.out.cell (World.block_lt_of_cell? w _ hx615_0)).trans hx615_0
            replace hx615_1 := (HB.out.cell (World.block_lt_of_cell? w _ hx615_1)).trans hx615_1
            replace p615 := eq_true p615
            replace q615 := eq_true q615
            have p616 : 0 ≤ (x6_1 : Int) := of_decide_eq_true (by (with_reducible assumption))
            have q616 : x6_1 < (l0_1.length : Int) := of_decide_eq_true (by (with_reducible assumption))
            obtain ⟨ad616, e616, hx616_0, hx616_1⟩ := at_T41 HR0_1.out x6_1 p616 q616
            obtain rfl : ad615 = ad616 := (by injection e616)
            replace hx616_0 := (HB.out.cell (World.block_lt_of_cell? w _ hx616_0)).trans hx616_0
            replace hx616_1 := (HB.out.cell (World.block_lt_of_cell? w _ hx616_1)).trans hx616_1
            replace p616 := eq_true p616
            replace q616 := eq_true q616
            go_wp2
            go_ret2
            exact ⟨by rfl, by repeat ((with_reducible exact HB.out))⟩
          · rw [if_neg c6] at H
            have c6b0 : (((rd_T41 l0_1 x6_1).f0).toList == a1.toList) = false := beq_eq_false_iff_ne.mpr c6
            have c6b1 : (((rd_T41 l0_1 x6_1).f0).toList != a1.toList) = true := bne_iff_ne.mpr c6
            have H' := Aside0.mk H
            clear H
            have hcz8_0 : wr.cell? ⟨gb614, 0, none⟩ = some (.string a0_0) := (blk_cell BK614.out 0).trans rfl
            have hcz8_1 : wr.cell? ⟨gb614, 1, none⟩ = some (.slice A0_1 l0_1.length c0_1) := (blk_cell BK614.out 1).trans rfl
            have hfz8_0 := blk_frozen BK614.out 0
            have hfz8_1 := blk_frozen BK614.out 1
            have p615 : 0 ≤ (x6_1 : Int) := of_decide_eq_true (by (with_reducible assumption))
            have q615 : x6_1 < (l0_1.length : Int) := of_decide_eq_true (by (with_reducible assumption))
            obtain ⟨ad615, e615, hx615_0, hx615_1⟩ := at_T41 HR0_1.out x6_1 p615 q615
            cases e615
            replace hx615_0 := (HB.out.cell (World.block_lt_of_cell? w _ hx615_0)).trans hx615_0
            replace hx615_1 := (HB.out.cell (World.block_lt_of_cell? w _ hx615_1)).trans hx615_1
            replace p615 := eq_true p615
            replace q615 := eq_true q615
            go_wp2
            go_roundg k1
            case measure => have := HK1.out; omega
            case rel => exact ⟨(wrap64 (x6_1 + 1)), (by rfl), H', ⟨by have := HK1.out; omega⟩, ⟨by (with_reducible repeat (first | refine blk_drewN ?_ _ | refine blk_drew ?_ | refine blk_alloc ?_ _ )); exact BK614.out⟩, ⟨by repeat ((with_reducible exact HB.out))⟩⟩
        · rw [if_neg c5] at H
          exact absurd H (by simp)
      · rw [if_neg c4] at H
        have c4b0 : decide (x6_1 < (l0_1.length : Int)) = false := decide_eq_false c4
        clear c4
        simp only [Option.some.injEq, Prod.mk.injEq] at H
        obtain ⟨rfl, rfl⟩ := H
        have hcz9_0 : wr.cell? ⟨gb614, 0, none⟩ = some (.string a0_0) := (blk_cell BK614.out 0).trans rfl
        have hcz9_1 : wr.cell? ⟨gb614, 1, none⟩ = some (.slice A0_1 l0_1.length c0_1) := (blk_cell BK614.out 1).trans rfl
        have hfz9_0 := blk_frozen BK614.out 0
        have hfz9_1 := blk_frozen BK614.out 1
        go_wp2
        go_ret2
        exact ⟨by rfl, by repeat ((with_reducible exact HB.out))⟩
def spec_l09Text.l0 : Nat → ByteArray → Int → ByteArray → List (S41) → Option (ByteArray)
  | 0, _, _, _, _ => none
  | k + 1, x3, x4, x618000, x618001 => if x4 < (x618001.length : Int) then (if 0 ≤ x4 then (if x3.size + ((rd_T41 x618001 x4).f0).size ≤ 9223372036854775807 then (if (x3 ++ ((rd_T41 x618001 x4).f0)).size + 2 ≤ 9223372036854775807 then (if ((x3 ++ ((rd_T41 x618001 x4).f0)) ++ (⟨#[58, 32]⟩ : ByteArray)).size + ((rd_T41 x618001 x4).f1).size ≤ 9223372036854775807 then (if (((x3 ++ ((rd_T41 x618001 x4).f0)) ++ (⟨#[58, 32]⟩ : ByteArray)) ++ ((rd_T41 x618001 x4).f1)).size + 2 ≤ 9223372036854775807 then (spec_l09Text.l0 k ((((x3 ++ ((rd_T41 x618001 x4).f0)) ++ (⟨#[58, 32]⟩ : ByteArray)) ++ ((rd_T41 x618001 x4).f1)) ++ (⟨#[13, 10]⟩ : ByteArray)) (wrap64 (x4 + 1)) x618000 x618001) else (none)) else (none)) else (none)) else (none)) else (none)) else (if x3.size + 2 ≤ 9223372036854775807 then (some (x3 ++ (⟨#[13, 10]⟩ : ByteArray))) else (none))
def spec_l09Text.f (k : Nat) (a0_0 : ByteArray) (l0_1 : List (S41)) : Option (ByteArray) := if a0_0.size + 2 ≤ 9223372036854775807 then (spec_l09Text.l0 k (a0_0 ++ (⟨#[13, 10]⟩ : ByteArray)) 0 a0_0 l0_1) else (none)
set_option maxHeartbeats 8000000 in
set_option maxRecDepth 100000 in
theorem spec_l09Text.calls (k : Nat) (a0_0 : ByteArray) (A0_1 : Option Addr) (c0_1 : Nat) (l0_1 : List (S41)) (r : ByteArray) (w : World) (hr0_1 : Kd.C k41 w A0_1 l0_1.length l0_1) (hc0_1 : l0_1.length ≤ c0_1) (h : spec_l09Text.f k a0_0 l0_1 = some r) :
    Calls Tryd.prog 59 #[.agg #[.string a0_0, .slice A0_1 l0_1.length c0_1]] w fun e w' => e = .returned (.string r) ∧ Below w.heap.size w w' := by
  have hu44 := Tryd.underlying44
  have HR0_1 := Aside0.mk hr0_1
  have HC0_1 := Aside0.mk hc0_1
  clear hr0_1 hc0_1
  have HB := Aside0.mk (Below.refl w.heap.size w)
  have H : (if a0_0.size + 2 ≤ 9223372036854775807 then (spec_l09Text.l0 k (a0_0 ++ (⟨#[13, 10]⟩ : ByteArray)) 0 a0_0 l0_1) else (none)) = some r := h
  clear h
  by_cases c2 : a0_0.size + 2 ≤ 9223372036854775807
  · rw [if_pos c2] at H
    have c2b0 := eq_true c2
    have c2b1 : decide (a0_0.size + 2 ≤ 9223372036854775807) = true := decide_eq_true c2
    have c2b2 : (9223372036854775807 < a0_0.size + 2) = False := eq_false (Nat.not_lt.2 c2)
    have H' := Aside0.mk H
    clear H
    go_enter Tryd.func59, Tryd.ntmps59
    go_wp2_with (((with_reducible refine gate_dst (N := 1) rfl ?_); refine box_event ?hg (N := 1) ?hd (cs := #[.string a0_0, .slice A0_1 l0_1.length c0_1]) (t := 44) ?hr ?_; (case hd => rfl); (case hg => rfl); (case hr => (go_simp; done)); intro gb617 hg w3 hbox hb; have n0_ := Aside0.mk (below_step (by repeat ((with_reducible exact HB.out))) hb); have n1_ := Aside0.mk (hbox); have n2_ := Aside0.mk ((by rw [hg]; exact (below_size (by repeat ((with_reducible exact HB.out)))) : w.heap.size ≤ gb617)); have n3_ := Aside0.mk ((by rw [hg]; exact (below_size (by repeat ((with_reducible exact HB.out)))) : w.heap.size ≤ gb617)); clear HB; have HB := n0_; have BK617 := n1_; have GW617 := n2_; have GE617 := n3_; clear n0_ n1_ n2_ n3_; clear hb hbox hg; have hcz4_0 : w3.cell? ⟨gb617, 0, none⟩ = some (.string a0_0) := (blk_cell BK617.out 0).trans rfl; have hcz4_1 : w3.cell? ⟨gb617, 1, none⟩ = some (.slice A0_1 l0_1.length c0_1) := (blk_cell BK617.out 1).trans rfl; have hfz4_0 := blk_frozen BK617.out 0; have hfz4_1 := blk_frozen BK617.out 1))
    go_loopg [3, 4] k (fun kq v3 v4 w' => ∃ (x3_1 : ByteArray) (x4_1 : Int), v3 = .string x3_1 ∧ v4 = .int .i64 x4_1 ∧ Aside0 (spec_l09Text.l0 kq x3_1 x4_1 a0_0 l0_1 = some r) ∧ Aside0 (kq ≤ k) ∧ Aside0 (w'.heap[gb617]? = some (.cells #[.string a0_0, (.slice A0_1 l0_1.length c0_1)] 44 (0, 0))) ∧ Aside0 (Below w.heap.size w w'))
    case atStart => exact ⟨(a0_0 ++ (⟨#[13, 10]⟩ : ByteArray)), (0), (by rfl), (by rfl), H', ⟨Nat.le_refl _⟩, ⟨by (with_reducible repeat (first | refine blk_drewN ?_ _ | refine blk_drew ?_ | refine blk_alloc ?_ _ )); exact BK617.out⟩, ⟨by repeat ((with_reducible exact HB.out))⟩⟩
    case round =>
      clear H'
      clear c2
      clear c2b0
      clear c2b1
      clear c2b2
      clear hcz4_0
      clear hcz4_1
      clear hfz4_0
      clear hfz4_1
      obtain ⟨x3_1, x4_1, rfl, rfl, HA, HK1, BK617, HB⟩ := hrel
      cases gk with
      | zero => exact absurd HA.out (by simp [spec_l09Text.l0])
      | succ k1 =>
        have H := HA.out
        clear HA
        simp only [spec_l09Text.l0] at H
        by_cases c5 : x4_1 < (l0_1.length : Int)
        · rw [if_pos c5] at H
          have c5b0 : decide (x4_1 < (l0_1.length : Int)) = true := decide_eq_true c5
          clear c5
          by_cases c6 : 0 ≤ x4_1
          · rw [if_pos c6] at H
            have c6b0 : decide (0 ≤ x4_1) = true := decide_eq_true c6
            clear c6
            by_cases c7 : x3_1.size + ((rd_T41 l0_1 x4_1).f0).size ≤ 9223372036854775807
            · rw [if_pos c7] at H
              have c7b0 := eq_true c7
              have c7b1 : decide (x3_1.size + ((rd_T41 l0_1 x4_1).f0).size ≤ 9223372036854775807) = true := decide_eq_true c7
              have c7b2 : (9223372036854775807 < x3_1.size + ((rd_T41 l0_1 x4_1).f0).size) = False := eq_false (Nat.not_lt.2 c7)
              by_cases c8 : (x3_1 ++ ((rd_T41 l0_1 x4_1).f0)).size + 2 ≤ 9223372036854775807
              · rw [if_pos c8] at H
                have c8b0 := eq_true c8
                have c8b1 : decide ((x3_1 ++ ((rd_T41 l0_1 x4_1).f0)).size + 2 ≤ 9223372036854775807) = true := decide_eq_true c8
                have c8x : x3_1.size + ((rd_T41 l0_1 x4_1).f0).size + 2 ≤ 9223372036854775807 := by have h_ := c8; (try simp only [ByteArray.size_append] at h_); exact h_
                have c8x0 := eq_true c8x
                have c8x2 : (9223372036854775807 < x3_1.size + ((rd_T41 l0_1 x4_1).f0).size + 2) = False := eq_false (Nat.not_lt.2 c8x)
                have c8b2 : (9223372036854775807 < (x3_1 ++ ((rd_T41 l0_1 x4_1).f0)).size + 2) = False := eq_false (Nat.not_lt.2 c8)
                by_cases c9 : ((x3_1 ++ ((rd_T41 l0_1 x4_1).f0)) ++ (⟨#[58, 32]⟩ : ByteArray)).size + ((rd_T41 l0_1 x4_1).f1).size ≤ 9223372036854775807
                · rw [if_pos c9] at H
                  have c9b0 := eq_true c9
                  have c9b1 : decide (((x3_1 ++ ((rd_T41 l0_1 x4_1).f0)) ++ (⟨#[58, 32]⟩ : ByteArray)).size + ((rd_T41 l0_1 x4_1).f1).size ≤ 9223372036854775807) = true := decide_eq_true c9
                  have c9x : x3_1.size + ((rd_T41 l0_1 x4_1).f0).size + 2 + ((rd_T41 l0_1 x4_1).f1).size ≤ 9223372036854775807 := by have h_ := c9; (try simp only [ByteArray.size_append] at h_); exact h_
                  have c9x0 := eq_true c9x
                  have c9x2 : (9223372036854775807 < x3_1.size + ((rd_T41 l0_1 x4_1).f0).size + 2 + ((rd_T41 l0_1 x4_1).f1).size) = False := eq_false (Nat.not_lt.2 c9x)
                  have c9b2 : (9223372036854775807 < ((x3_1 ++ ((rd_T41 l0_1 x4_1).f0)) ++ (⟨#[58, 32]⟩ : ByteArray)).size + ((rd_T41 l0_1 x4_1).f1).size) = False := eq_false (Nat.not_lt.2 c9)
                  by_cases c10 : (((x3_1 ++ ((rd_T41 l0_1 x4_1).f0)) ++ (⟨#[58, 32]⟩ : ByteArray)) ++ ((rd_T41 l0_1 x4_1).f1)).size + 2 ≤ 9223372036854775807
                  · rw [if_pos c10] at H
                    have c10b0 := eq_true c10
                    have c10b1 : decide ((((x3_1 ++ ((rd_T41 l0_1 x4_1).f0)) ++ (⟨#[58, 32]⟩ : ByteArray)) ++ ((rd_T41 l0_1 x4_1).f1)).size + 2 ≤ 9223372036854775807) = true := decide_eq_true c10
                    have c10x : x3_1.size + ((rd_T41 l0_1 x4_1).f0).size + 2 + ((rd_T41 l0_1 x4_1).f1).size + 2 ≤ 9223372036854775807 := by have h_ := c10; (try simp only [ByteArray.size_append] at h_); exact h_
                    have c10x0 := eq_true c10x
                    have c10x2 : (9223372036854775807 < x3_1.size + ((rd_T41 l0_1 x4_1).f0).size + 2 + ((rd_T41 l0_1 x4_1).f1).size + 2) = False := eq_false (Nat.not_lt.2 c10x)
                    have c10b2 : (9223372036854775807 < (((x3_1 ++ ((rd_T41 l0_1 x4_1).f0)) ++ (⟨#[58, 32]⟩ : ByteArray)) ++ ((rd_T41 l0_1 x4_1).f1)).size + 2) = False := eq_false (Nat.not_lt.2 c10)
                    have H' := Aside0.mk H
                    clear H
                    have hcz11_0 : wr.cell? ⟨gb617, 0, none⟩ = some (.string a0_0) := (blk_cell BK617.out 0).trans rfl
                    have hcz11_1 : wr.cell? ⟨gb617, 1, none⟩ = some (.slice A0_1 l0_1.length c0_1) := (blk_cell BK617.out 1).trans rfl
                    have hfz11_0 := blk_frozen BK617.out 0
                    have hfz11_1 := blk_frozen BK617.out 1
                    have p618 : 0 ≤ (x4_1 : Int) := of_decide_eq_true (by (with_reducible assumption))
                    have q618 : x4_1 < (l0_1.length : Int) := of_decide_eq_true (by (with_reducible assumption))
                    obtain ⟨ad618, e618, hx618_0, hx618_1⟩ := at_T41 HR0_1.out x4_1 p618 q618
                    cases e618
                    replace hx618_0 := (HB.out.cell (World.block_lt_of_cell? w _ hx618_0)).trans hx618_0
                    replace hx618_1 := (HB.out.cell (World.block_lt_of_cell? w _ hx618_1)).trans hx618_1
                    replace p618 := eq_true p618
                    replace q618 := eq_true q618
                    have p619 : 0 ≤ (x4_1 : Int) := of_decide_eq_true (by (with_reducible assumption))
                    have q619 : x4_1 < (l0_1.length : Int) := of_decide_eq_true (by (with_reducible assumption))
                    obtain ⟨ad619, e619, hx619_0, hx619_1⟩ := at_T41 HR0_1.out x4_1 p619 q619
                    obtain rfl : ad618 = ad619 := (by injection e619)
                    replace hx619_0 := (HB.out.cell (World.block_lt_of_cell? w _ hx619_0)).trans hx619_0
                    replace hx619_1 := (HB.out.cell (World.block_lt_of_cell? w _ hx619_1)).trans hx619_1
                    replace p619 := eq_true p619
                    replace q619 := eq_true q619
                    go_wp2
                    repeat (go_quiet (fail); try go_wp2)
                    go_roundg k1
                    case measure => have := HK1.out; omega
                    case rel => exact ⟨((((x3_1 ++ ((rd_T41 l0_1 x4_1).f0)) ++ (⟨#[58, 32]⟩ : ByteArray)) ++ ((rd_T41 l0_1 x4_1).f1)) ++ (⟨#[13, 10]⟩ : ByteArray)), (wrap64 (x4_1 + 1)), (by rfl), (by rfl), H', ⟨by have := HK1.out; omega⟩, ⟨by (with_reducible repeat (refine blk_drewN ?_ _)); exact BK617.out⟩, ⟨by repeat ((with_reducible first | exact HB.out | apply pw_below_drewN))⟩⟩
                  · rw [if_neg c10] at H
                    exact absurd H (by simp)
                · rw [if_neg c9] at H
                  exact absurd H (by simp)
              · rw [if_neg c8] at H
                exact absurd H (by simp)
            · rw [if_neg c7] at H
              exact absurd H (by simp)
          · rw [if_neg c6] at H
            exact absurd H (by simp)
        · rw [if_neg c5] at H
          have c5b0 : decide (x4_1 < (l0_1.length : Int)) = false := decide_eq_false c5
          clear c5
          by_cases c12 : x3_1.size + 2 ≤ 9223372036854775807
          · rw [if_pos c12] at H
            have c12b0 := eq_true c12
            have c12b1 : decide (x3_1.size + 2 ≤ 9223372036854775807) = true := decide_eq_true c12
            have c12b2 : (9223372036854775807 < x3_1.size + 2) = False := eq_false (Nat.not_lt.2 c12)
            obtain rfl := Option.some.inj H
            have hcz13_0 : wr.cell? ⟨gb617, 0, none⟩ = some (.string a0_0) := (blk_cell BK617.out 0).trans rfl
            have hcz13_1 : wr.cell? ⟨gb617, 1, none⟩ = some (.slice A0_1 l0_1.length c0_1) := (blk_cell BK617.out 1).trans rfl
            have hfz13_0 := blk_frozen BK617.out 0
            have hfz13_1 := blk_frozen BK617.out 1
            go_wp2
            go_ret
            exact ⟨by rfl, by repeat ((with_reducible exact HB.out))⟩
          · rw [if_neg c12] at H
            exact absurd H (by simp)
  · rw [if_neg c2] at H
    exact absurd H (by simp)
def spec_l09Plain.l0 : Nat → ByteArray → Int → Int → Option (Bool)
  | 0, _, _, _ => none
  | k + 1, x0, x1, x5 => if x5 < (x0.size : Int) then (if 0 ≤ x5 then (if (bt x0 x5) < 32 then (some false) else (if (bt x0 x5) > 126 then (some false) else (spec_l09Plain.l0 k x0 x1 (wrap64 (x5 + 1))))) else (none)) else (some (decide ((x0.size : Int) ≤ x1)))
def spec_l09Plain.f (k : Nat) (a0 : ByteArray) (a1 : Int) : Option (Bool) := spec_l09Plain.l0 k a0 a1 0
set_option maxHeartbeats 8000000 in
set_option maxRecDepth 100000 in
theorem spec_l09Plain.calls (k : Nat) (a0 : ByteArray) (a1 : Int) (r : Bool) (w : World) (h : spec_l09Plain.f k a0 a1 = some r) :
    Calls Tryd.prog 85 #[.string a0, .int .i64 a1] w fun e w' => e = .returned (.bool r) ∧ Drawn0 w w' := by
  have H : (spec_l09Plain.l0 k a0 a1 0) = some r := h
  clear h
  have H' := Aside0.mk H
  clear H
  go_enter Tryd.func85, Tryd.ntmps85
  go_wp2
  go_loopg [5] k (fun kq v5 w' => ∃ (x5_1 : Int), v5 = .int .i64 x5_1 ∧ Aside0 (spec_l09Plain.l0 kq a0 a1 x5_1 = some r) ∧ Aside0 (kq ≤ k) ∧ Drawn0 w w')
  case atStart => exact ⟨(0), (by rfl), H', ⟨Nat.le_refl _⟩, by repeat (exact Drawn0.refl _)⟩
  case round =>
    clear H'
    obtain ⟨x5_1, rfl, HA, HK1, ⟨m1, rfl⟩⟩ := hrel
    cases gk with
    | zero => exact absurd HA.out (by simp [spec_l09Plain.l0])
    | succ k1 =>
      have H := HA.out
      clear HA
      simp only [spec_l09Plain.l0] at H
      by_cases c3 : x5_1 < (a0.size : Int)
      · rw [if_pos c3] at H
        have c3b0 : decide (x5_1 < (a0.size : Int)) = true := decide_eq_true c3
        clear c3
        by_cases c4 : 0 ≤ x5_1
        · rw [if_pos c4] at H
          have c4b0 : decide (0 ≤ x5_1) = true := decide_eq_true c4
          clear c4
          by_cases c6 : (bt a0 x5_1) < 32
          · rw [if_pos c6] at H
            have c6b0 : decide ((bt a0 x5_1) < 32) = true := decide_eq_true c6
            clear c6
            obtain rfl := Option.some.inj H
            have p5 : 0 ≤ (x5_1 : Int) := of_decide_eq_true (by (with_reducible assumption))
            have q5 : x5_1 < (a0.size : Int) := of_decide_eq_true (by (with_reducible assumption))
            have hx5 := bt_at a0 x5_1
            replace p5 := eq_true p5
            replace q5 := eq_true q5
            go_wp2
            go_ret
            exact ⟨by rfl, by repeat (first | exact Drawn0.refl _ | apply Drawn0.step)⟩
          · rw [if_neg c6] at H
            have c6b0 : decide ((bt a0 x5_1) < 32) = false := decide_eq_false c6
            clear c6
            by_cases c8 : (bt a0 x5_1) > 126
            · rw [if_pos c8] at H
              have c8b0 : decide (126 < (bt a0 x5_1)) = true := decide_eq_true c8
              clear c8
              obtain rfl := Option.some.inj H
              have p5 : 0 ≤ (x5_1 : Int) := of_decide_eq_true (by (with_reducible assumption))
              have q5 : x5_1 < (a0.size : Int) := of_decide_eq_true (by (with_reducible assumption))
              have hx5 := bt_at a0 x5_1
              replace p5 := eq_true p5
              replace q5 := eq_true q5
              have p7 : 0 ≤ (x5_1 : Int) := of_decide_eq_true (by (with_reducible assumption))
              have q7 : x5_1 < (a0.size : Int) := of_decide_eq_true (by (with_reducible assumption))
              have hx7 := bt_at a0 x5_1
              replace p7 := eq_true p7
              replace q7 := eq_true q7
              go_wp2
              go_ret
              exact ⟨by rfl, by repeat (first | exact Drawn0.refl _ | apply Drawn0.step)⟩
            · rw [if_neg c8] at H
              have c8b0 : decide (126 < (bt a0 x5_1)) = false := decide_eq_false c8
              clear c8
              have H' := Aside0.mk H
              clear H
              have p5 : 0 ≤ (x5_1 : Int) := of_decide_eq_true (by (with_reducible assumption))
              have q5 : x5_1 < (a0.size : Int) := of_decide_eq_true (by (with_reducible assumption))
              have hx5 := bt_at a0 x5_1
              replace p5 := eq_true p5
              replace q5 := eq_true q5
              have p7 : 0 ≤ (x5_1 : Int) := of_decide_eq_true (by (with_reducible assumption))
              have q7 : x5_1 < (a0.size : Int) := of_decide_eq_true (by (with_reducible assumption))
              have hx7 := bt_at a0 x5_1
              replace p7 := eq_true p7
              replace q7 := eq_true q7
              go_wp2
              go_roundg k1
              case measure => have := HK1.out; omega
              case rel => exact ⟨(wrap64 (x5_1 + 1)), (by rfl), H', ⟨by have := HK1.out; omega⟩, by repeat (first | exact Drawn0.refl _ | apply Drawn0.step)⟩
        · rw [if_neg c4] at H
          exact absurd H (by simp)
      · rw [if_neg c3] at H
        have c3b0 : decide (x5_1 < (a0.size : Int)) = false := decide_eq_false c3
        clear c3
        obtain rfl := Option.some.inj H
        go_wp2
        go_ret
        exact ⟨by rfl, by repeat (first | exact Drawn0.refl _ | apply Drawn0.step)⟩
def spec_l09Name.l0 : Nat → ByteArray → Int → Option (Bool)
  | 0, _, _ => none
  | k + 1, x0, x3 => if x3 < (x0.size : Int) then (if 0 ≤ x3 then (if (bt x0 x3) < 97 then (if (bt x0 x3) = 45 then (spec_l09Name.l0 k x0 (wrap64 (x3 + 1))) else (some false)) else (if (bt x0 x3) > 122 then (if (bt x0 x3) = 45 then (spec_l09Name.l0 k x0 (wrap64 (x3 + 1))) else (some false)) else (spec_l09Name.l0 k x0 (wrap64 (x3 + 1))))) else (none)) else ((spec_l01In.f (x0.size : Int) 1 20).bind fun t620 => (some t620))
def spec_l09Name.f (k : Nat) (a0 : ByteArray) : Option (Bool) := spec_l09Name.l0 k a0 0
set_option maxHeartbeats 8000000 in
set_option maxRecDepth 100000 in
theorem spec_l09Name.calls (k : Nat) (a0 : ByteArray) (r : Bool) (w : World) (h : spec_l09Name.f k a0 = some r) :
    Calls Tryd.prog 104 #[.string a0] w fun e w' => e = .returned (.bool r) ∧ Drawn0 w w' := by
  have H : (spec_l09Name.l0 k a0 0) = some r := h
  clear h
  have H' := Aside0.mk H
  clear H
  go_enter Tryd.func104, Tryd.ntmps104
  go_wp2
  go_loopg [3] k (fun kq v3 w' => ∃ (x3_1 : Int), v3 = .int .i64 x3_1 ∧ Aside0 (spec_l09Name.l0 kq a0 x3_1 = some r) ∧ Aside0 (kq ≤ k) ∧ Drawn0 w w')
  case atStart => exact ⟨(0), (by rfl), H', ⟨Nat.le_refl _⟩, by repeat (exact Drawn0.refl _)⟩
  case round =>
    clear H'
    obtain ⟨x3_1, rfl, HA, HK1, ⟨m1, rfl⟩⟩ := hrel
    cases gk with
    | zero => exact absurd HA.out (by simp [spec_l09Name.l0])
    | succ k1 =>
      have H := HA.out
      clear HA
      simp only [spec_l09Name.l0] at H
      by_cases c2 : x3_1 < (a0.size : Int)
      · rw [if_pos c2] at H
        have c2b0 : decide (x3_1 < (a0.size : Int)) = true := decide_eq_true c2
        clear c2
        by_cases c3 : 0 ≤ x3_1
        · rw [if_pos c3] at H
          have c3b0 : decide (0 ≤ x3_1) = true := decide_eq_true c3
          clear c3
          by_cases c5 : (bt a0 x3_1) < 97
          · rw [if_pos c5] at H
            have c5b0 : decide ((bt a0 x3_1) < 97) = true := decide_eq_true c5
            clear c5
            by_cases c7 : (bt a0 x3_1) = 45
            · rw [if_pos c7] at H
              have c7b0 : ((bt a0 x3_1) == 45) = true := beq_iff_eq.mpr c7
              have c7b1 : ((bt a0 x3_1) != 45) = false := bne_eq_false_iff_eq.mpr c7
              clear c7
              have H' := Aside0.mk H
              clear H
              have p4 : 0 ≤ (x3_1 : Int) := of_decide_eq_true (by (with_reducible assumption))
              have q4 : x3_1 < (a0.size : Int) := of_decide_eq_true (by (with_reducible assumption))
              have hx4 := bt_at a0 x3_1
              replace p4 := eq_true p4
              replace q4 := eq_true q4
              have p6 : 0 ≤ (x3_1 : Int) := of_decide_eq_true (by (with_reducible assumption))
              have q6 : x3_1 < (a0.size : Int) := of_decide_eq_true (by (with_reducible assumption))
              have hx6 := bt_at a0 x3_1
              replace p6 := eq_true p6
              replace q6 := eq_true q6
              go_wp2
              go_roundg k1
              case measure => have := HK1.out; omega
              case rel => exact ⟨(wrap64 (x3_1 + 1)), (by rfl), H', ⟨by have := HK1.out; omega⟩, by repeat (first | exact Drawn0.refl _ | apply Drawn0.step)⟩
            · rw [if_neg c7] at H
              have c7b0 : ((bt a0 x3_1) == 45) = false := beq_eq_false_iff_ne.mpr c7
              have c7b1 : ((bt a0 x3_1) != 45) = true := bne_iff_ne.mpr c7
              obtain rfl := Option.some.inj H
              have p4 : 0 ≤ (x3_1 : Int) := of_decide_eq_true (by (with_reducible assumption))
              have q4 : x3_1 < (a0.size : Int) := of_decide_eq_true (by (with_reducible assumption))
              have hx4 := bt_at a0 x3_1
              replace p4 := eq_true p4
              replace q4 := eq_true q4
              have p6 : 0 ≤ (x3_1 : Int) := of_decide_eq_true (by (with_reducible assumption))
              have q6 : x3_1 < (a0.size : Int) := of_decide_eq_true (by (with_reducible assumption))
              have hx6 := bt_at a0 x3_1
              replace p6 := eq_true p6
              replace q6 := eq_true q6
              go_wp2
              go_ret
              exact ⟨by rfl, by repeat (first | exact Drawn0.refl _ | apply Drawn0.step)⟩
          · rw [if_neg c5] at H
            have c5b0 : decide ((bt a0 x3_1) < 97) = false := decide_eq_false c5
            clear c5
            by_cases c9 : (bt a0 x3_1) > 122
            · rw [if_pos c9] at H
              have c9b0 : decide (122 < (bt a0 x3_1)) = true := decide_eq_true c9
              clear c9
              by_cases c11 : (bt a0 x3_1) = 45
              · rw [if_pos c11] at H
                have c11b0 : ((bt a0 x3_1) == 45) = true := beq_iff_eq.mpr c11
                have c11b1 : ((bt a0 x3_1) != 45) = false := bne_eq_false_iff_eq.mpr c11
                clear c11
                have H' := Aside0.mk H
                clear H
                have p4 : 0 ≤ (x3_1 : Int) := of_decide_eq_true (by (with_reducible assumption))
                have q4 : x3_1 < (a0.size : Int) := of_decide_eq_true (by (with_reducible assumption))
                have hx4 := bt_at a0 x3_1
                replace p4 := eq_true p4
                replace q4 := eq_true q4
                have p8 : 0 ≤ (x3_1 : Int) := of_decide_eq_true (by (with_reducible assumption))
                have q8 : x3_1 < (a0.size : Int) := of_decide_eq_true (by (with_reducible assumption))
                have hx8 := bt_at a0 x3_1
                replace p8 := eq_true p8
                replace q8 := eq_true q8
                have p10 : 0 ≤ (x3_1 : Int) := of_decide_eq_true (by (with_reducible assumption))
                have q10 : x3_1 < (a0.size : Int) := of_decide_eq_true (by (with_reducible assumption))
                have hx10 := bt_at a0 x3_1
                replace p10 := eq_true p10
                replace q10 := eq_true q10
                go_wp2
                go_roundg k1
                case measure => have := HK1.out; omega
                case rel => exact ⟨(wrap64 (x3_1 + 1)), (by rfl), H', ⟨by have := HK1.out; omega⟩, by repeat (first | exact Drawn0.refl _ | apply Drawn0.step)⟩
              · rw [if_neg c11] at H
                have c11b0 : ((bt a0 x3_1) == 45) = false := beq_eq_false_iff_ne.mpr c11
                have c11b1 : ((bt a0 x3_1) != 45) = true := bne_iff_ne.mpr c11
                obtain rfl := Option.some.inj H
                have p4 : 0 ≤ (x3_1 : Int) := of_decide_eq_true (by (with_reducible assumption))
                have q4 : x3_1 < (a0.size : Int) := of_decide_eq_true (by (with_reducible assumption))
                have hx4 := bt_at a0 x3_1
                replace p4 := eq_true p4
                replace q4 := eq_true q4
                have p8 : 0 ≤ (x3_1 : Int) := of_decide_eq_true (by (with_reducible assumption))
                have q8 : x3_1 < (a0.size : Int) := of_decide_eq_true (by (with_reducible assumption))
                have hx8 := bt_at a0 x3_1
                replace p8 := eq_true p8
                replace q8 := eq_true q8
                have p10 : 0 ≤ (x3_1 : Int) := of_decide_eq_true (by (with_reducible assumption))
                have q10 : x3_1 < (a0.size : Int) := of_decide_eq_true (by (with_reducible assumption))
                have hx10 := bt_at a0 x3_1
                replace p10 := eq_true p10
                replace q10 := eq_true q10
                go_wp2
                go_ret
                exact ⟨by rfl, by repeat (first | exact Drawn0.refl _ | apply Drawn0.step)⟩
            · rw [if_neg c9] at H
              have c9b0 : decide (122 < (bt a0 x3_1)) = false := decide_eq_false c9
              clear c9
              have H' := Aside0.mk H
              clear H
              have p4 : 0 ≤ (x3_1 : Int) := of_decide_eq_true (by (with_reducible assumption))
              have q4 : x3_1 < (a0.size : Int) := of_decide_eq_true (by (with_reducible assumption))
              have hx4 := bt_at a0 x3_1
              replace p4 := eq_true p4
              replace q4 := eq_true q4
              have p8 : 0 ≤ (x3_1 : Int) := of_decide_eq_true (by (with_reducible assumption))
              have q8 : x3_1 < (a0.size : Int) := of_decide_eq_true (by (with_reducible assumption))
              have hx8 := bt_at a0 x3_1
              replace p8 := eq_true p8
              replace q8 := eq_true q8
              go_wp2
              go_roundg k1
              case measure => have := HK1.out; omega
              case rel => exact ⟨(wrap64 (x3_1 + 1)), (by rfl), H', ⟨by have := HK1.out; omega⟩, by repeat (first | exact Drawn0.refl _ | apply Drawn0.step)⟩
        · rw [if_neg c3] at H
          exact absurd H (by simp)
      · rw [if_neg c2] at H
        have c2b0 : decide (x3_1 < (a0.size : Int)) = false := decide_eq_false c2
        clear c2
        replace H := Option.bind_eq_some_iff.mp H
        obtain ⟨t620, A120, H⟩ := H
        replace H : (some t620) = some r := H
        have A12 := Aside0.mk A120
        clear A120
        obtain rfl := Option.some.inj H
        go_wp2_with (((with_reducible refine gate_callee (f := 29) rfl ?_); refine goesL_ (some 28) rfl rfl Tryd.func29 (by kernel_rfl) rfl #[.int .i64 (a0.size : Int), .int .i64 1, .int .i64 20] rfl (by (try simp only [List.map_toArray, List.map_cons, List.map_nil]); rfl) ?_; (with_reducible refine (spec_l01In.calls (a0.size : Int) 1 20 t620 _ A12.out).mono ?_); rintro e w' ⟨rfl, rfl⟩; refine ⟨_, rfl, ?_⟩))
        go_ret
        exact ⟨by rfl, by repeat (first | exact Drawn0.refl _ | apply Drawn0.step)⟩
def spec_FieldOk.f (k : Nat) (a0_0 : ByteArray) (a0_1 : ByteArray) : Option (Bool) := (spec_l09Name.f k a0_0).bind fun t622 => (if t622 = true then ((spec_l09Plain.f k a0_1 60).bind fun t623 => (if t623 = true then (if (a0_1.size : Int) = 0 then (some true) else (if 0 < (a0_1.size : Int) then (if (bt a0_1 0) = 32 then (some false) else (if 0 ≤ (wrap64 ((a0_1.size : Int) - 1)) then (if (wrap64 ((a0_1.size : Int) - 1)) < (a0_1.size : Int) then (some ((bt a0_1 (wrap64 ((a0_1.size : Int) - 1))) != 32)) else (none)) else (none))) else (none))) else (some false))) else (some false))
set_option maxHeartbeats 8000000 in
set_option maxRecDepth 100000 in
theorem spec_FieldOk.calls (k : Nat) (a0_0 : ByteArray) (a0_1 : ByteArray) (r : Bool) (w : World) (h : spec_FieldOk.f k a0_0 a0_1 = some r) :
    Calls Tryd.prog 86 #[.agg #[.string a0_0, .string a0_1]] w fun e w' => e = .returned (.bool r) ∧ Below w.heap.size w w' := by
  have hu41 := Tryd.underlying41
  have HB := Aside0.mk (Below.refl w.heap.size w)
  have H : ((spec_l09Name.f k a0_0).bind fun t622 => (if t622 = true then ((spec_l09Plain.f k a0_1 60).bind fun t623 => (if t623 = true then (if (a0_1.size : Int) = 0 then (some true) else (if 0 < (a0_1.size : Int) then (if (bt a0_1 0) = 32 then (some false) else (if 0 ≤ (wrap64 ((a0_1.size : Int) - 1)) then (if (wrap64 ((a0_1.size : Int) - 1)) < (a0_1.size : Int) then (some ((bt a0_1 (wrap64 ((a0_1.size : Int) - 1))) != 32)) else (none)) else (none))) else (none))) else (some false))) else (some false))) = some r := h
  clear h
  have HS2 := Aside0.mk H
  clear H
  go_enter Tryd.func86, Tryd.ntmps86
  go_upto_region 2 with (((with_reducible refine gate_dst (N := 1) rfl ?_); refine box_event ?hg (N := 1) ?hd (cs := #[.string a0_0, .string a0_1]) (t := 41) ?hr ?_; (case hd => rfl); (case hg => rfl); (case hr => (go_simp; done)); intro gb621 hg w3 hbox hb; have n0_ := Aside0.mk (below_step (by repeat ((with_reducible exact HB.out))) hb); have n1_ := Aside0.mk (hbox); have n2_ := Aside0.mk ((by rw [hg]; exact (below_size (by repeat ((with_reducible exact HB.out)))) : w.heap.size ≤ gb621)); have n3_ := Aside0.mk ((by rw [hg]; exact (below_size (by repeat ((with_reducible exact HB.out)))) : w.heap.size ≤ gb621)); clear HB; have HB := n0_; have BK621 := n1_; have GW621 := n2_; have GE621 := n3_; clear n0_ n1_ n2_ n3_; clear hb hbox hg; have hcz4_0 : w3.cell? ⟨gb621, 0, none⟩ = some (.string a0_0) := (blk_cell BK621.out 0).trans rfl; have hcz4_1 : w3.cell? ⟨gb621, 1, none⟩ = some (.string a0_1) := (blk_cell BK621.out 1).trans rfl; have hfz4_0 := blk_frozen BK621.out 0; have hfz4_1 := blk_frozen BK621.out 1))
  (try simp only [Act.put, List.setIfInBounds_toArray, List.set_cons_zero, List.set_cons_succ])
  have H := HS2.out
  clear HS2
  replace H := Option.bind_eq_some_iff.mp H
  obtain ⟨t622, A50, H⟩ := H
  replace H : (if t622 = true then ((spec_l09Plain.f k a0_1 60).bind fun t623 => (if t623 = true then (if (a0_1.size : Int) = 0 then (some true) else (if 0 < (a0_1.size : Int) then (if (bt a0_1 0) = 32 then (some false) else (if 0 ≤ (wrap64 ((a0_1.size : Int) - 1)) then (if (wrap64 ((a0_1.size : Int) - 1)) < (a0_1.size : Int) then (some ((bt a0_1 (wrap64 ((a0_1.size : Int) - 1))) != 32)) else (none)) else (none))) else (none))) else (some false))) else (some false)) = some r := H
  have A5 := Aside0.mk A50
  clear A50
  by_cases c6 : t622 = true
  · subst c6
    have H1 : ((spec_l09Plain.f k a0_1 60).bind fun t623 => (if t623 = true then (if (a0_1.size : Int) = 0 then (some true) else (if 0 < (a0_1.size : Int) then (if (bt a0_1 0) = 32 then (some false) else (if 0 ≤ (wrap64 ((a0_1.size : Int) - 1)) then (if (wrap64 ((a0_1.size : Int) - 1)) < (a0_1.size : Int) then (some ((bt a0_1 (wrap64 ((a0_1.size : Int) - 1))) != 32)) else (none)) else (none))) else (none))) else (some false))) = some r := by rw [if_pos rfl] at H; exact H
    clear H
    have H := H1
    clear H1
    replace H := Option.bind_eq_some_iff.mp H
    obtain ⟨t623, A70, H⟩ := H
    replace H : (if t623 = true then (if (a0_1.size : Int) = 0 then (some true) else (if 0 < (a0_1.size : Int) then (if (bt a0_1 0) = 32 then (some false) else (if 0 ≤ (wrap64 ((a0_1.size : Int) - 1)) then (if (wrap64 ((a0_1.size : Int) - 1)) < (a0_1.size : Int) then (some ((bt a0_1 (wrap64 ((a0_1.size : Int) - 1))) != 32)) else (none)) else (none))) else (none))) else (some false)) = some r := H
    have A7 := Aside0.mk A70
    clear A70
    by_cases c8 : t623 = true
    · subst c8
      have H1 : (if (a0_1.size : Int) = 0 then (some true) else (if 0 < (a0_1.size : Int) then (if (bt a0_1 0) = 32 then (some false) else (if 0 ≤ (wrap64 ((a0_1.size : Int) - 1)) then (if (wrap64 ((a0_1.size : Int) - 1)) < (a0_1.size : Int) then (some ((bt a0_1 (wrap64 ((a0_1.size : Int) - 1))) != 32)) else (none)) else (none))) else (none))) = some r := by rw [if_pos rfl] at H; exact H
      clear H
      have H := H1
      clear H1
      by_cases c9 : (a0_1.size : Int) = 0
      · rw [if_pos c9] at H
        have c9b0 : ((a0_1.size : Int) == 0) = true := beq_iff_eq.mpr c9
        have c9b1 : ((a0_1.size : Int) != 0) = false := bne_eq_false_iff_eq.mpr c9
        clear c9
        obtain rfl := Option.some.inj H
        have hcz10_0 : w3.cell? ⟨gb621, 0, none⟩ = some (.string a0_0) := (blk_cell BK621.out 0).trans rfl
        have hcz10_1 : w3.cell? ⟨gb621, 1, none⟩ = some (.string a0_1) := (blk_cell BK621.out 1).trans rfl
        have hfz10_0 := blk_frozen BK621.out 0
        have hfz10_1 := blk_frozen BK621.out 1
        go_wp2_with (first | ((with_reducible refine gate_callee (f := 104) rfl ?_); refine goesL_ (some 9) rfl rfl Tryd.func104 (by kernel_rfl) rfl #[.string a0_0] rfl (by (try simp only [List.map_toArray, List.map_cons, List.map_nil]); rfl) ?_; (with_reducible refine (spec_l09Name.calls k a0_0 true _ A5.out).mono ?_); rintro e w' ⟨rfl, ⟨nd, rfl⟩⟩; refine ⟨_, rfl, ?_⟩) | (go_at_call 85; (with_reducible refine (spec_l09Plain.calls k a0_1 60 true _ A7.out).mono ?_); rintro e w' ⟨rfl, ⟨nd, rfl⟩⟩))
        go_ret
        exact ⟨by rfl, by repeat ((with_reducible first | exact HB.out | apply pw_below_drewN))⟩
      · rw [if_neg c9] at H
        have c9b0 : ((a0_1.size : Int) == 0) = false := beq_eq_false_iff_ne.mpr c9
        have c9b1 : ((a0_1.size : Int) != 0) = true := bne_iff_ne.mpr c9
        by_cases c11 : 0 < (a0_1.size : Int)
        · rw [if_pos c11] at H
          have c11b0 : decide (0 < (a0_1.size : Int)) = true := decide_eq_true c11
          have c11b1 : decide (0 < a0_1.size) = true := decide_eq_true (by omega)
          clear c11
          by_cases c13 : (bt a0_1 0) = 32
          · rw [if_pos c13] at H
            have c13b0 : ((bt a0_1 0) == 32) = true := beq_iff_eq.mpr c13
            have c13b1 : ((bt a0_1 0) != 32) = false := bne_eq_false_iff_eq.mpr c13
            clear c13
            obtain rfl := Option.some.inj H
            have hcz14_0 : w3.cell? ⟨gb621, 0, none⟩ = some (.string a0_0) := (blk_cell BK621.out 0).trans rfl
            have hcz14_1 : w3.cell? ⟨gb621, 1, none⟩ = some (.string a0_1) := (blk_cell BK621.out 1).trans rfl
            have hfz14_0 := blk_frozen BK621.out 0
            have hfz14_1 := blk_frozen BK621.out 1
            go_wp2_with (first | ((with_reducible refine gate_callee (f := 104) rfl ?_); refine goesL_ (some 9) rfl rfl Tryd.func104 (by kernel_rfl) rfl #[.string a0_0] rfl (by (try simp only [List.map_toArray, List.map_cons, List.map_nil]); rfl) ?_; (with_reducible refine (spec_l09Name.calls k a0_0 true _ A5.out).mono ?_); rintro e w' ⟨rfl, ⟨nd, rfl⟩⟩; refine ⟨_, rfl, ?_⟩) | (go_at_call 85; (with_reducible refine (spec_l09Plain.calls k a0_1 60 true _ A7.out).mono ?_); rintro e w' ⟨rfl, ⟨nd, rfl⟩⟩; have p12 : 0 ≤ (0 : Int) := (by omega); have q12 : 0 < a0_1.size := (by have : (0 : Int) < (a0_1.size : Int) := of_decide_eq_true (by (with_reducible assumption)); omega); have hx12 : ∀ h : 0 < a0_1.size, ((a0_1[0]'h).toNat : Int) = bt a0_1 0 := bt_at a0_1 0; clear p12; have qi12 : (0 < (a0_1.size : Int)) = True := eq_true (of_decide_eq_true (by (with_reducible assumption))); replace q12 := eq_true q12))
            go_ret
            exact ⟨by rfl, by repeat ((with_reducible first | exact HB.out | apply pw_below_drewN))⟩
          · rw [if_neg c13] at H
            have c13b0 : ((bt a0_1 0) == 32) = false := beq_eq_false_iff_ne.mpr c13
            have c13b1 : ((bt a0_1 0) != 32) = true := bne_iff_ne.mpr c13
            obtain ⟨ji15, hji15⟩ : ∃ j_ : Int, (wrap64 ((a0_1.size : Int) - 1)) = j_ := ⟨_, rfl⟩
            replace H : (if 0 ≤ (ji15) then (if (ji15) < (a0_1.size : Int) then (some ((bt a0_1 (ji15)) != 32)) else (none)) else (none)) = some r := by (rw [hji15] at H; exact H)
            (try rw [hji15] at A5)
            (try rw [hji15] at A7)
            have hji15w : (IntKind.i64.wrap ((a0_1.size : Int) - 1)) = ji15 := (i64_w _).trans hji15
            by_cases c16 : 0 ≤ (ji15)
            · rw [if_pos c16] at H
              have c16b0 : decide (0 ≤ (ji15)) = true := decide_eq_true c16
              clear c16
              by_cases c17 : (ji15) < (a0_1.size : Int)
              · rw [if_pos c17] at H
                have c17b0 : decide ((ji15) < (a0_1.size : Int)) = true := decide_eq_true c17
                clear c17
                obtain rfl := Option.some.inj H
                have hcz19_0 : w3.cell? ⟨gb621, 0, none⟩ = some (.string a0_0) := (blk_cell BK621.out 0).trans rfl
                have hcz19_1 : w3.cell? ⟨gb621, 1, none⟩ = some (.string a0_1) := (blk_cell BK621.out 1).trans rfl
                have hfz19_0 := blk_frozen BK621.out 0
                have hfz19_1 := blk_frozen BK621.out 1
                go_wp2_with (first | ((with_reducible refine gate_callee (f := 104) rfl ?_); refine goesL_ (some 9) rfl rfl Tryd.func104 (by kernel_rfl) rfl #[.string a0_0] rfl (by (try simp only [List.map_toArray, List.map_cons, List.map_nil]); rfl) ?_; (with_reducible refine (spec_l09Name.calls k a0_0 true _ A5.out).mono ?_); rintro e w' ⟨rfl, ⟨nd, rfl⟩⟩; refine ⟨_, rfl, ?_⟩) | (go_at_call 85; (with_reducible refine (spec_l09Plain.calls k a0_1 60 true _ A7.out).mono ?_); rintro e w' ⟨rfl, ⟨nd, rfl⟩⟩; have p12 : 0 ≤ (0 : Int) := (by omega); have q12 : 0 < a0_1.size := (by have : (0 : Int) < (a0_1.size : Int) := of_decide_eq_true (by (with_reducible assumption)); omega); have hx12 : ∀ h : 0 < a0_1.size, ((a0_1[0]'h).toNat : Int) = bt a0_1 0 := bt_at a0_1 0; clear p12; have qi12 : (0 < (a0_1.size : Int)) = True := eq_true (of_decide_eq_true (by (with_reducible assumption))); replace q12 := eq_true q12; have p18 : 0 ≤ ((ji15) : Int) := of_decide_eq_true (by (with_reducible assumption)); have q18 : (ji15) < (a0_1.size : Int) := of_decide_eq_true (by (with_reducible assumption)); have hx18 := bt_at a0_1 (ji15); replace p18 := eq_true p18; replace q18 := eq_true q18))
                go_ret
                exact ⟨by rfl, by repeat ((with_reducible first | exact HB.out | apply pw_below_drewN))⟩
              · rw [if_neg c17] at H
                exact absurd H (by simp)
            · rw [if_neg c16] at H
              exact absurd H (by simp)
        · rw [if_neg c11] at H
          exact absurd H (by simp)
    · replace c8 := Bool.eq_false_iff.mpr c8
      subst c8
      have H1 : (some false) = some r := by rw [if_neg (show ¬ (false = true) by decide)] at H; exact H
      clear H
      have H := H1
      clear H1
      obtain rfl := Option.some.inj H
      have hcz20_0 : w3.cell? ⟨gb621, 0, none⟩ = some (.string a0_0) := (blk_cell BK621.out 0).trans rfl
      have hcz20_1 : w3.cell? ⟨gb621, 1, none⟩ = some (.string a0_1) := (blk_cell BK621.out 1).trans rfl
      have hfz20_0 := blk_frozen BK621.out 0
      have hfz20_1 := blk_frozen BK621.out 1
      go_wp2_with (first | ((with_reducible refine gate_callee (f := 104) rfl ?_); refine goesL_ (some 9) rfl rfl Tryd.func104 (by kernel_rfl) rfl #[.string a0_0] rfl (by (try simp only [List.map_toArray, List.map_cons, List.map_nil]); rfl) ?_; (with_reducible refine (spec_l09Name.calls k a0_0 true _ A5.out).mono ?_); rintro e w' ⟨rfl, ⟨nd, rfl⟩⟩; refine ⟨_, rfl, ?_⟩) | (go_at_call 85; (with_reducible refine (spec_l09Plain.calls k a0_1 60 false _ A7.out).mono ?_); rintro e w' ⟨rfl, ⟨nd, rfl⟩⟩))
      go_ret
      exact ⟨by rfl, by repeat ((with_reducible first | exact HB.out | apply pw_below_drewN))⟩
  · replace c6 := Bool.eq_false_iff.mpr c6
    subst c6
    have H1 : (some false) = some r := by rw [if_neg (show ¬ (false = true) by decide)] at H; exact H
    clear H
    have H := H1
    clear H1
    obtain rfl := Option.some.inj H
    have hcz21_0 : w3.cell? ⟨gb621, 0, none⟩ = some (.string a0_0) := (blk_cell BK621.out 0).trans rfl
    have hcz21_1 : w3.cell? ⟨gb621, 1, none⟩ = some (.string a0_1) := (blk_cell BK621.out 1).trans rfl
    have hfz21_0 := blk_frozen BK621.out 0
    have hfz21_1 := blk_frozen BK621.out 1
    go_wp2_with (((with_reducible refine gate_callee (f := 104) rfl ?_); refine goesL_ (some 9) rfl rfl Tryd.func104 (by kernel_rfl) rfl #[.string a0_0] rfl (by (try simp only [List.map_toArray, List.map_cons, List.map_nil]); rfl) ?_; (with_reducible refine (spec_l09Name.calls k a0_0 false _ A5.out).mono ?_); rintro e w' ⟨rfl, ⟨nd, rfl⟩⟩; refine ⟨_, rfl, ?_⟩))
    go_ret
    exact ⟨by rfl, by repeat ((with_reducible first | exact HB.out | apply pw_below_drewN))⟩
mutual
def spec_HeadOk.j0 : Nat → Bool → ByteArray → List (S41) → Option (Bool)
  | 0, _, _, _ => none
  | k + 1, x19, x625000, x625001 => if x19 = true then (some false) else (spec_HeadOk.l0 k 0 x625000 x625001)
def spec_HeadOk.l0 : Nat → Int → ByteArray → List (S41) → Option (Bool)
  | 0, _, _, _ => none
  | k + 1, x3, x625000, x625001 => if x3 < (x625001.length : Int) then (if 0 ≤ x3 then ((spec_FieldOk.f k ((rd_T41 x625001 x3).f0) ((rd_T41 x625001 x3).f1)).bind fun t627 => (if t627 = true then (spec_HeadOk.l0 k (wrap64 (x3 + 1)) x625000 x625001) else (some false))) else (none)) else ((spec_l09Text.f k x625000 x625001).bind fun t628 => (some (decide ((t628.size : Int) ≤ 300))))
end
def spec_HeadOk.f (k : Nat) (a0_0 : ByteArray) (l0_1 : List (S41)) : Option (Bool) := if (a0_0.size : Int) = 0 then (spec_HeadOk.j0 k true a0_0 l0_1) else ((spec_l09Plain.f k a0_0 80).bind fun t625 => (if t625 = true then (spec_HeadOk.j0 k (decide ((l0_1.length : Int) > 8)) a0_0 l0_1) else (spec_HeadOk.j0 k true a0_0 l0_1)))
set_option maxHeartbeats 8000000 in
set_option maxRecDepth 100000 in
theorem spec_HeadOk.calls (k : Nat) (a0_0 : ByteArray) (A0_1 : Option Addr) (c0_1 : Nat) (l0_1 : List (S41)) (r : Bool) (w : World) (hr0_1 : Kd.C k41 w A0_1 l0_1.length l0_1) (hc0_1 : l0_1.length ≤ c0_1) (h : spec_HeadOk.f k a0_0 l0_1 = some r) :
    Calls Tryd.prog 58 #[.agg #[.string a0_0, .slice A0_1 l0_1.length c0_1]] w fun e w' => e = .returned (.bool r) ∧ Below w.heap.size w w' := by
  have hu44 := Tryd.underlying44
  have hu41 := Tryd.underlying41
  have HR0_1 := Aside0.mk hr0_1
  have HC0_1 := Aside0.mk hc0_1
  clear hr0_1 hc0_1
  have HB := Aside0.mk (Below.refl w.heap.size w)
  have H : (if (a0_0.size : Int) = 0 then (spec_HeadOk.j0 k true a0_0 l0_1) else ((spec_l09Plain.f k a0_0 80).bind fun t625 => (if t625 = true then (spec_HeadOk.j0 k (decide ((l0_1.length : Int) > 8)) a0_0 l0_1) else (spec_HeadOk.j0 k true a0_0 l0_1)))) = some r := h
  clear h
  have HC2 := Aside0.mk H
  clear H
  go_enter Tryd.func58, Tryd.ntmps58
  go_upto_region 1 with (((with_reducible refine gate_dst (N := 1) rfl ?_); (try (refine gate_guard (by rfl) ?_; dsimp only)); refine box_event ?hg (N := 1) ?hd (cs := #[.string a0_0, .slice A0_1 l0_1.length c0_1]) (t := 44) ?hr ?_; (case hd => rfl); (case hg => rfl); (case hr => (go_simp; done)); intro gb624 hg w3 hbox hb; have n0_ := Aside0.mk (below_step (by repeat ((with_reducible exact HB.out))) hb); have n1_ := Aside0.mk (hbox); have n2_ := Aside0.mk ((by rw [hg]; exact (below_size (by repeat ((with_reducible exact HB.out)))) : w.heap.size ≤ gb624)); have n3_ := Aside0.mk ((by rw [hg]; exact (below_size (by repeat ((with_reducible exact HB.out)))) : w.heap.size ≤ gb624)); clear HB; have HB := n0_; have BK624 := n1_; have GW624 := n2_; have GE624 := n3_; clear n0_ n1_ n2_ n3_; clear hb hbox hg))
  (try simp only [Act.put, List.setIfInBounds_toArray, List.set_cons_zero, List.set_cons_succ])
  go_cut [19] (fun v19 wc => ∃ (kq : Nat) (x19_1 : Bool), v19 = .bool x19_1 ∧ Aside0 (spec_HeadOk.j0 kq x19_1 a0_0 l0_1 = some r) ∧ Aside0 (kq ≤ k) ∧ Aside0 (wc.heap[gb624]? = some (.cells #[.string a0_0, (.slice A0_1 l0_1.length c0_1)] 44 (0, 0))) ∧ Aside0 (Below w.heap.size w wc))
  case first =>
    have H := HC2.out
    clear HC2
    by_cases c4 : (a0_0.size : Int) = 0
    · rw [if_pos c4] at H
      have c4b0 : ((a0_0.size : Int) == 0) = true := beq_iff_eq.mpr c4
      have c4b1 : ((a0_0.size : Int) != 0) = false := bne_eq_false_iff_eq.mpr c4
      clear c4
      (skip)
      have H' := Aside0.mk H
      clear H
      have hcz5_0 : w3.cell? ⟨gb624, 0, none⟩ = some (.string a0_0) := (blk_cell BK624.out 0).trans rfl
      have hcz5_1 : w3.cell? ⟨gb624, 1, none⟩ = some (.slice A0_1 l0_1.length c0_1) := (blk_cell BK624.out 1).trans rfl
      have hfz5_0 := blk_frozen BK624.out 0
      have hfz5_1 := blk_frozen BK624.out 1
      go_wp2
      go_meet
      case rel => exact ⟨_, (true), (by rfl), H', ⟨by omega⟩, ⟨by (with_reducible repeat (first | refine blk_drewN ?_ _ | refine blk_drew ?_ | refine blk_alloc ?_ _ )); exact BK624.out⟩, ⟨by repeat ((with_reducible exact HB.out))⟩⟩
    · rw [if_neg c4] at H
      have c4b0 : ((a0_0.size : Int) == 0) = false := beq_eq_false_iff_ne.mpr c4
      have c4b1 : ((a0_0.size : Int) != 0) = true := bne_iff_ne.mpr c4
      (skip)
      replace H := Option.bind_eq_some_iff.mp H
      obtain ⟨t625, A60, H⟩ := H
      replace H : (if t625 = true then (spec_HeadOk.j0 k (decide ((l0_1.length : Int) > 8)) a0_0 l0_1) else (spec_HeadOk.j0 k true a0_0 l0_1)) = some r := H
      have A6 := Aside0.mk A60
      clear A60
      by_cases c7 : t625 = true
      · subst c7
        have H1 : (spec_HeadOk.j0 k (decide ((l0_1.length : Int) > 8)) a0_0 l0_1) = some r := by rw [if_pos rfl] at H; exact H
        clear H
        have H := H1
        clear H1
        have H' := Aside0.mk H
        clear H
        have hcz8_0 : w3.cell? ⟨gb624, 0, none⟩ = some (.string a0_0) := (blk_cell BK624.out 0).trans rfl
        have hcz8_1 : w3.cell? ⟨gb624, 1, none⟩ = some (.slice A0_1 l0_1.length c0_1) := (blk_cell BK624.out 1).trans rfl
        have hfz8_0 := blk_frozen BK624.out 0
        have hfz8_1 := blk_frozen BK624.out 1
        go_wp2_with ((go_at_call 85; (with_reducible refine (spec_l09Plain.calls k a0_0 80 true _ A6.out).mono ?_); rintro e w' ⟨rfl, ⟨nd, rfl⟩⟩))
        go_meet
        case rel => exact ⟨_, (decide ((l0_1.length : Int) > 8)), (by rfl), H', ⟨by omega⟩, ⟨by (with_reducible repeat (refine blk_drewN ?_ _)); exact BK624.out⟩, ⟨by repeat ((with_reducible first | exact HB.out | apply pw_below_drewN))⟩⟩
      · replace c7 := Bool.eq_false_iff.mpr c7
        subst c7
        have H1 : (spec_HeadOk.j0 k true a0_0 l0_1) = some r := by rw [if_neg (show ¬ (false = true) by decide)] at H; exact H
        clear H
        have H := H1
        clear H1
        have H' := Aside0.mk H
        clear H
        have hcz9_0 : w3.cell? ⟨gb624, 0, none⟩ = some (.string a0_0) := (blk_cell BK624.out 0).trans rfl
        have hcz9_1 : w3.cell? ⟨gb624, 1, none⟩ = some (.slice A0_1 l0_1.length c0_1) := (blk_cell BK624.out 1).trans rfl
        have hfz9_0 := blk_frozen BK624.out 0
        have hfz9_1 := blk_frozen BK624.out 1
        go_wp2_with ((go_at_call 85; (with_reducible refine (spec_l09Plain.calls k a0_0 80 false _ A6.out).mono ?_); rintro e w' ⟨rfl, ⟨nd, rfl⟩⟩))
        go_meet
        case rel => exact ⟨_, (true), (by rfl), H', ⟨by omega⟩, ⟨by (with_reducible repeat (refine blk_drewN ?_ _)); exact BK624.out⟩, ⟨by repeat ((with_reducible first | exact HB.out | apply pw_below_drewN))⟩⟩
  case rest =>
    clear HC2
    obtain ⟨kq, x19_1, rfl, HA, HJ1, BK624, HB⟩ := hcut
    cases kq with
    | zero => exact absurd HA.out (by simp [spec_HeadOk.j0])
    | succ kj1 =>
      have H := HA.out
      clear HA
      simp only [spec_HeadOk.j0] at H
      by_cases c10 : x19_1 = true
      · subst c10
        have H1 : (some false) = some r := by rw [if_pos rfl] at H; exact H
        clear H
        have H := H1
        clear H1
        obtain rfl := Option.some.inj H
        go_wp2
        go_ret
        exact ⟨by rfl, by repeat ((with_reducible exact HB.out))⟩
      · replace c10 := Bool.eq_false_iff.mpr c10
        subst c10
        have H1 : (spec_HeadOk.l0 kj1 0 a0_0 l0_1) = some r := by rw [if_neg (show ¬ (false = true) by decide)] at H; exact H
        clear H
        have H := H1
        clear H1
        have H' := Aside0.mk H
        clear H
        go_wp2
        go_loopg [3] kj1 (fun kq v3 w' => ∃ (x3_2 : Int), v3 = .int .i64 x3_2 ∧ Aside0 (spec_HeadOk.l0 kq x3_2 a0_0 l0_1 = some r) ∧ Aside0 (kq ≤ kj1) ∧ Aside0 (w'.heap[gb624]? = some (.cells #[.string a0_0, (.slice A0_1 l0_1.length c0_1)] 44 (0, 0))) ∧ Aside0 (Below w.heap.size w w'))
        case atStart => exact ⟨(0), (by rfl), H', ⟨Nat.le_refl _⟩, ⟨by (with_reducible repeat (first | refine blk_drewN ?_ _ | refine blk_drew ?_ | refine blk_alloc ?_ _ )); exact BK624.out⟩, ⟨by repeat ((with_reducible exact HB.out))⟩⟩
        case round =>
          clear H'
          obtain ⟨x3_2, rfl, HA, HK2, BK624, HB⟩ := hrel
          cases gk with
          | zero => exact absurd HA.out (by simp [spec_HeadOk.l0])
          | succ k2 =>
            have H := HA.out
            clear HA
            simp only [spec_HeadOk.l0] at H
            by_cases c11 : x3_2 < (l0_1.length : Int)
            · rw [if_pos c11] at H
              have c11b0 : decide (x3_2 < (l0_1.length : Int)) = true := decide_eq_true c11
              clear c11
              by_cases c12 : 0 ≤ x3_2
              · rw [if_pos c12] at H
                have c12b0 : decide (0 ≤ x3_2) = true := decide_eq_true c12
                clear c12
                replace H := Option.bind_eq_some_iff.mp H
                obtain ⟨t627, A130, H⟩ := H
                replace H : (if t627 = true then (spec_HeadOk.l0 k2 (wrap64 (x3_2 + 1)) a0_0 l0_1) else (some false)) = some r := H
                have A13 := Aside0.mk A130
                clear A130
                have HS14 := Aside0.mk H
                clear H
                have hcz15_0 : wr.cell? ⟨gb624, 0, none⟩ = some (.string a0_0) := (blk_cell BK624.out 0).trans rfl
                have hcz15_1 : wr.cell? ⟨gb624, 1, none⟩ = some (.slice A0_1 l0_1.length c0_1) := (blk_cell BK624.out 1).trans rfl
                have hfz15_0 := blk_frozen BK624.out 0
                have hfz15_1 := blk_frozen BK624.out 1
                have p626 : 0 ≤ (x3_2 : Int) := of_decide_eq_true (by (with_reducible assumption))
                have q626 : x3_2 < (l0_1.length : Int) := of_decide_eq_true (by (with_reducible assumption))
                obtain ⟨ad626, e626, hx626_0, hx626_1⟩ := at_T41 HR0_1.out x3_2 p626 q626
                cases e626
                replace hx626_0 := (HB.out.cell (World.block_lt_of_cell? w _ hx626_0)).trans hx626_0
                replace hx626_1 := (HB.out.cell (World.block_lt_of_cell? w _ hx626_1)).trans hx626_1
                replace p626 := eq_true p626
                replace q626 := eq_true q626
                go_upto_if 33 with (((with_reducible refine gate_callee (f := 86) rfl ?_); refine goesL_ (some 32) rfl rfl Tryd.func86 (by kernel_rfl) rfl #[.agg #[.string ((rd_T41 l0_1 x3_2).f0), .string ((rd_T41 l0_1 x3_2).f1)]] rfl (by (try simp only [List.map_toArray, List.map_cons, List.map_nil]); rfl) ?_; (with_reducible refine (spec_FieldOk.calls k2 ((rd_T41 l0_1 x3_2).f0) ((rd_T41 l0_1 x3_2).f1) t627 _ A13.out).mono ?_); rintro e w16 ⟨rfl, hb⟩; refine ⟨_, rfl, ?_⟩; have n0_ := Aside0.mk (blk_below (g := gb624) (o := .cells #[.string a0_0, .slice (some ad626) l0_1.length c0_1] 44 (0, 0)) (by (with_reducible repeat (first | refine blk_drewN ?_ _ | refine blk_drew ?_ | refine blk_alloc ?_ _ )); exact BK624.out) hb); have n1_ := Aside0.mk (below_step (by repeat ((with_reducible exact HB.out))) hb); clear BK624; clear HB; have BK624 := n0_; have HB := n1_; clear n0_ n1_; (try clear hb); (try clear hb2); (try clear hk); (try clear hi)))
                (try simp only [Act.put, List.setIfInBounds_toArray, List.set_cons_zero, List.set_cons_succ])
                have H := HS14.out
                clear HS14
                by_cases c17 : t627 = true
                · subst c17
                  have H1 : (spec_HeadOk.l0 k2 (wrap64 (x3_2 + 1)) a0_0 l0_1) = some r := by rw [if_pos rfl] at H; exact H
                  clear H
                  have H := H1
                  clear H1
                  have H' := Aside0.mk H
                  clear H
                  go_wp2
                  go_roundg k2
                  case measure => have := HJ1.out; have := HK2.out; omega
                  case rel => exact ⟨(wrap64 (x3_2 + 1)), (by rfl), H', ⟨by have := HJ1.out; have := HK2.out; omega⟩, ⟨by (with_reducible repeat (first | refine blk_drewN ?_ _ | refine blk_drew ?_ | refine blk_alloc ?_ _ )); exact BK624.out⟩, ⟨by repeat ((with_reducible exact HB.out))⟩⟩
                · replace c17 := Bool.eq_false_iff.mpr c17
                  subst c17
                  have H1 : (some false) = some r := by rw [if_neg (show ¬ (false = true) by decide)] at H; exact H
                  clear H
                  have H := H1
                  clear H1
                  obtain rfl := Option.some.inj H
                  go_wp2
                  go_ret
                  exact ⟨by rfl, by repeat ((with_reducible exact HB.out))⟩
              · rw [if_neg c12] at H
                exact absurd H (by simp)
            · rw [if_neg c11] at H
              have c11b0 : decide (x3_2 < (l0_1.length : Int)) = false := decide_eq_false c11
              clear c11
              replace H := Option.bind_eq_some_iff.mp H
              obtain ⟨t628, A180, H⟩ := H
              replace H : (some (decide ((t628.size : Int) ≤ 300))) = some r := H
              have A18 := Aside0.mk A180
              clear A180
              obtain rfl := Option.some.inj H
              have hcz19_0 : wr.cell? ⟨gb624, 0, none⟩ = some (.string a0_0) := (blk_cell BK624.out 0).trans rfl
              have hcz19_1 : wr.cell? ⟨gb624, 1, none⟩ = some (.slice A0_1 l0_1.length c0_1) := (blk_cell BK624.out 1).trans rfl
              have hfz19_0 := blk_frozen BK624.out 0
              have hfz19_1 := blk_frozen BK624.out 1
              go_wp2_with (((with_reducible refine gate_callee (f := 59) rfl ?_); refine goesL_ (some 35) rfl rfl Tryd.func59 (by kernel_rfl) rfl #[.agg #[.string a0_0, .slice A0_1 l0_1.length c0_1]] rfl (by (try simp only [List.map_toArray, List.map_cons, List.map_nil]); rfl) ?_; (with_reducible refine (spec_l09Text.calls k2 a0_0 _ _ l0_1 t628 _ ?side1 ?side2 A18.out).mono ?_); (case side1 => repeat (exact (Kd.C_below HR0_1.out HB.out))); (case side2 => exact HC0_1.out); rintro e w20 ⟨rfl, hb⟩; refine ⟨_, rfl, ?_⟩; have n0_ := Aside0.mk (blk_below (g := gb624) (o := .cells #[.string a0_0, .slice A0_1 l0_1.length c0_1] 44 (0, 0)) (by (with_reducible repeat (first | refine blk_drewN ?_ _ | refine blk_drew ?_ | refine blk_alloc ?_ _ )); exact BK624.out) hb); have n1_ := Aside0.mk (below_step (by repeat ((with_reducible exact HB.out))) hb); clear BK624; clear HB; have BK624 := n0_; have HB := n1_; clear n0_ n1_; (try clear hb); (try clear hb2); (try clear hk); (try clear hi)))
              go_ret
              exact ⟨by rfl, by repeat ((with_reducible exact HB.out))⟩
end Go.Proofs.YthjigecaojaalaaDoor.Q
