import Derived.Test.YthjigecaojaalaaB0
import Derived.Test.YthjigecaojaalaaG20
import Derived.Test.YthjigecaojaalaaG22
import Derived.Test.YthjigecaojaalaaG45
import Derived.Test.YthjigecaojaalaaG46
import Derived.Test.YthjigecaojaalaaWApart
import Derived.Test.YthjigecaojaalaaWFoot
import Derived.Test.YthjigecaojaalaaWKept
import Derived.Test.YthjigecaojaalaaWLast
import Derived.Test.YthjigecaojaalaaWMore
import Derived.Test.YthjigecaojaalaaWN
import Derived.Test.YthjigecaojaalaaWRepsOne
import Derived.Test.YthjigecaojaalaaWShare
import Derived.Test.YthjigecaojaalaaWTab
import Derived.Test.YthjigecaojaalaaWWords
namespace Go.Proofs.Ythjigecaojaalaa.Q
open Go.RowKit Go.Proofs.YthjigecaojaalaaW.PrintWords Go.Proofs.YthjigecaojaalaaW.PrintLast Go.Proofs.YthjigecaojaalaaW.PrintMore
attribute [local go_sem] max2_int min2_int max_two min_two max_three min_three max_four min_four   -- for this text's walks alone
set_option linter.unusedVariables false
set_option linter.unusedSimpArgs false

/-! ### laws_row: function 25 -/
def laws_row.l0 : Nat → Int → ByteArray → ByteArray → Int → Option (ByteArray)
  | 0, _, _, _, _ => none
  | k + 1, x0, x1, x5, x6 => if x6 < x0 then (if x5.size + x1.size ≤ 9223372036854775807 then (laws_row.l0 k x0 x1 (x5 ++ x1) (wrap64 (x6 + 1))) else (none)) else (some x5)
def laws_row.f (k : Nat) (a0 : Int) (a1 : ByteArray) : Option (ByteArray) := laws_row.l0 k a0 a1 (⟨#[]⟩ : ByteArray) 0
theorem laws_row.mono_l : ∀ k, (∀ y0 y1 y2 y3, LeO (laws_row.l0 k y0 y1 y2 y3) (laws_row.l0 (k + 1) y0 y1 y2 y3))
  | 0 => fun _ _ _ _ r h => by simp [laws_row.l0] at h
  | k + 1 => by
    have ih0 := laws_row.mono_l k
    · intro y0 y1 y2 y3
      unfold laws_row.l0
      repeat' first | (with_reducible exact ih0 _ _ _ _) | (with_reducible exact LeO.refl _) | (with_reducible refine LeO.ite ?_ ?_)
theorem laws_row.mono : ∀ a0 a1 k, LeO (laws_row.f k a0 a1) (laws_row.f (k + 1) a0 a1) := by
  intro a0 a1 k
  have ih0 := laws_row.mono_l k
  unfold laws_row.f
  repeat' (with_reducible exact ih0 _ _ _ _)
set_option maxHeartbeats 8000000 in
set_option maxRecDepth 100000 in
theorem laws_row.calls (k : Nat) (a0 : Int) (a1 : ByteArray) (r : ByteArray) (w : World) (h : laws_row.f k a0 a1 = some r) :
    Calls Try.prog 25 #[.int .i64 a0, .string a1] w fun e w' => e = .returned (.string r) ∧ Drawn0 w w' := by
  have H : (laws_row.l0 k a0 a1 (⟨#[]⟩ : ByteArray) 0) = some r := h
  clear h
  have H' := Aside0.mk H
  clear H
  go_enter Try.func25, Try.ntmps25
  go_wp2
  go_loopg [5, 6] k (fun kq v5 v6 w' => ∃ (x5_1 : ByteArray) (x6_1 : Int), v5 = .string x5_1 ∧ v6 = .int .i64 x6_1 ∧ Aside0 (laws_row.l0 kq a0 a1 x5_1 x6_1 = some r) ∧ Aside0 (kq ≤ k) ∧ Drawn0 w w')
  case atStart => exact ⟨((⟨#[]⟩ : ByteArray)), (0), (by rfl), (by rfl), H', ⟨Nat.le_refl _⟩, by repeat (exact Drawn0.refl _)⟩
  case round =>
    clear H'
    obtain ⟨x5_1, x6_1, rfl, rfl, HA, HK1, ⟨m1, rfl⟩⟩ := hrel
    cases gk with
    | zero => exact absurd HA.out (by simp [laws_row.l0])
    | succ k1 =>
      have H := HA.out
      clear HA
      simp only [laws_row.l0] at H
      by_cases c3 : x6_1 < a0
      · rw [if_pos c3] at H
        have c3b0 : decide (x6_1 < a0) = true := decide_eq_true c3
        clear c3
        by_cases c4 : x5_1.size + a1.size ≤ 9223372036854775807
        · rw [if_pos c4] at H
          have c4b0 := eq_true c4
          have c4b1 : decide (x5_1.size + a1.size ≤ 9223372036854775807) = true := decide_eq_true c4
          have c4b2 : (9223372036854775807 < x5_1.size + a1.size) = False := eq_false (Nat.not_lt.2 c4)
          have H' := Aside0.mk H
          clear H
          go_wp2
          go_roundg k1
          case measure => have := HK1.out; omega
          case rel => exact ⟨(x5_1 ++ a1), (wrap64 (x6_1 + 1)), (by rfl), (by rfl), H', ⟨by have := HK1.out; omega⟩, by repeat (first | exact Drawn0.refl _ | apply Drawn0.step)⟩
        · rw [if_neg c4] at H
          exact absurd H (by simp)
      · rw [if_neg c3] at H
        have c3b0 : decide (x6_1 < a0) = false := decide_eq_false c3
        clear c3
        obtain rfl := Option.some.inj H
        go_wp2
        go_ret
        exact ⟨by rfl, by repeat (first | exact Drawn0.refl _ | apply Drawn0.step)⟩

/-! ### laws_FnSmuggled: function 7 -/
def laws_FnSmuggled.f (k : Nat) (l0 : List Int) : Option (Bool) := (laws_big.f l0).bind fun t296 => (if t296 = true then (some true) else ((spec_DrawPlaces.f k l0).bind fun t297 => (if 0 < (t297.length : Int) then (if 1 < (t297.length : Int) then ((spec_Decimal.f k (Int.tmod (rd t297 0) 90)).bind fun t302 => ((spec_Decimal.f k (Int.tmod (rd t297 1) 90)).bind fun t303 => ((laws_row.f k 99 (⟨#[122]⟩ : ByteArray)).bind fun t308 => ((impl_BodyOf.f k (⟨#[120]⟩ : ByteArray) (([(⟨(⟨#[99, 111, 110, 116, 101, 110, 116, 45, 108, 101, 110, 103, 116, 104]⟩ : ByteArray), t302⟩ : S45), (⟨(⟨#[99, 111, 110, 116, 101, 110, 116, 45, 108, 101, 110, 103, 116, 104]⟩ : ByteArray), t303⟩ : S45)] : List (S45))) t308).bind fun bt309 => ((spec_Decimal.f k (Int.tmod (rd t297 0) 90)).bind fun t312 => ((impl_BodyOf.f k (⟨#[120]⟩ : ByteArray) (([(⟨(⟨#[99, 111, 110, 116, 101, 110, 116, 45, 108, 101, 110, 103, 116, 104]⟩ : ByteArray), t312⟩ : S45), (⟨(⟨#[116, 114, 97, 110, 115, 102, 101, 114, 45, 101, 110, 99, 111, 100, 105, 110, 103]⟩ : ByteArray), (⟨#[99, 104, 117, 110, 107, 101, 100]⟩ : ByteArray)⟩ : S45)] : List (S45))) (⟨#[48, 13, 10, 13, 10]⟩ : ByteArray)).bind fun bt317 => ((impl_BodyOf.f k (⟨#[120]⟩ : ByteArray) ([] : List (S45)) (⟨#[97, 98, 99]⟩ : ByteArray)).bind fun bt320 => (if ((bt309.2.2 == 2) == ((Int.tmod (rd t297 0) 90) != (Int.tmod (rd t297 1) 90))) = true then (if bt317.2.2 = 2 then (if bt320.2.1 = 0 then (some (bt320.2.2 == 0)) else (none)) else (none)) else (none))))))))) else (none)) else (none))))
theorem laws_FnSmuggled.mono : ∀ a0 k, LeO (laws_FnSmuggled.f k a0) (laws_FnSmuggled.f (k + 1) a0) := by
  intro a0 k
  unfold laws_FnSmuggled.f
  repeat' first | (with_reducible exact impl_BodyOf.mono _ _ _ _) | (with_reducible exact laws_row.mono _ _ _) | (with_reducible exact spec_Decimal.mono _ _) | (with_reducible exact spec_DrawPlaces.mono _ _) | (with_reducible exact LeO.refl _) | (with_reducible refine LeO.ite ?_ ?_) | (with_reducible refine LeO.bind ?_ (fun _ => ?_))
def laws_FnSmuggled.T7 : Bool × List (List Nat × List Nat) := (true, [([], []), ([], []), ([0, 1, 1], [0, 1]), ([2], [2]), ([3], [3]), ([3], [3]), ([3], [3]), ([4, 2, 0, 1, 2, 3, 4], [4]), ([5, 7, 0, 1, 2, 3, 4, 5, 7], [5]), ([6, 8, 0, 1, 2, 3, 4, 5, 6, 7, 8], [6])])
def laws_FnSmuggled.B7 : List Nat := [0, 0, 3, 7, 15, 15, 15, 31, 191, 511]
theorem laws_FnSmuggled.tab7 : rtab .any (opsOf Try.f7 7) = laws_FnSmuggled.T7 := by kernel_rfl
theorem laws_FnSmuggled.bits7 : waitsOk laws_FnSmuggled.T7.2 laws_FnSmuggled.B7 = true := by kernel_rfl
set_option maxHeartbeats 8000000 in
set_option maxRecDepth 100000 in
theorem laws_FnSmuggled.calls (k : Nat) (A0 : Option Addr) (c0 : Nat) (l0 : List Int) (r : Bool) (w : World) (hr0 : Kd.C (Kd.int .u8) w A0 l0.length l0) (hc0 : l0.length ≤ c0) (h : laws_FnSmuggled.f k l0 = some r) :
    Calls Try.prog 7 #[.slice A0 l0.length c0] w fun e w' => e = .returned (.bool r) ∧ Below w.heap.size w w' := by
  have hu45 := Try.underlying45
  have hu48 := Try.underlying48
  have HR0 := Aside0.mk hr0
  have HC0 := Aside0.mk hc0
  clear hr0 hc0
  have HB := Aside0.mk (Below.refl w.heap.size w)
  have H : ((laws_big.f l0).bind fun t296 => (if t296 = true then (some true) else ((spec_DrawPlaces.f k l0).bind fun t297 => (if 0 < (t297.length : Int) then (if 1 < (t297.length : Int) then ((spec_Decimal.f k (Int.tmod (rd t297 0) 90)).bind fun t302 => ((spec_Decimal.f k (Int.tmod (rd t297 1) 90)).bind fun t303 => ((laws_row.f k 99 (⟨#[122]⟩ : ByteArray)).bind fun t308 => ((impl_BodyOf.f k (⟨#[120]⟩ : ByteArray) (([(⟨(⟨#[99, 111, 110, 116, 101, 110, 116, 45, 108, 101, 110, 103, 116, 104]⟩ : ByteArray), t302⟩ : S45), (⟨(⟨#[99, 111, 110, 116, 101, 110, 116, 45, 108, 101, 110, 103, 116, 104]⟩ : ByteArray), t303⟩ : S45)] : List (S45))) t308).bind fun bt309 => ((spec_Decimal.f k (Int.tmod (rd t297 0) 90)).bind fun t312 => ((impl_BodyOf.f k (⟨#[120]⟩ : ByteArray) (([(⟨(⟨#[99, 111, 110, 116, 101, 110, 116, 45, 108, 101, 110, 103, 116, 104]⟩ : ByteArray), t312⟩ : S45), (⟨(⟨#[116, 114, 97, 110, 115, 102, 101, 114, 45, 101, 110, 99, 111, 100, 105, 110, 103]⟩ : ByteArray), (⟨#[99, 104, 117, 110, 107, 101, 100]⟩ : ByteArray)⟩ : S45)] : List (S45))) (⟨#[48, 13, 10, 13, 10]⟩ : ByteArray)).bind fun bt317 => ((impl_BodyOf.f k (⟨#[120]⟩ : ByteArray) ([] : List (S45)) (⟨#[97, 98, 99]⟩ : ByteArray)).bind fun bt320 => (if ((bt309.2.2 == 2) == ((Int.tmod (rd t297 0) 90) != (Int.tmod (rd t297 1) 90))) = true then (if bt317.2.2 = 2 then (if bt320.2.1 = 0 then (some (bt320.2.2 == 0)) else (none)) else (none)) else (none))))))))) else (none)) else (none))))) = some r := h
  clear h
  replace H := Option.bind_eq_some_iff.mp H
  obtain ⟨t296, A20, H⟩ := H
  replace H : (if t296 = true then (some true) else ((spec_DrawPlaces.f k l0).bind fun t297 => (if 0 < (t297.length : Int) then (if 1 < (t297.length : Int) then ((spec_Decimal.f k (Int.tmod (rd t297 0) 90)).bind fun t302 => ((spec_Decimal.f k (Int.tmod (rd t297 1) 90)).bind fun t303 => ((laws_row.f k 99 (⟨#[122]⟩ : ByteArray)).bind fun t308 => ((impl_BodyOf.f k (⟨#[120]⟩ : ByteArray) (([(⟨(⟨#[99, 111, 110, 116, 101, 110, 116, 45, 108, 101, 110, 103, 116, 104]⟩ : ByteArray), t302⟩ : S45), (⟨(⟨#[99, 111, 110, 116, 101, 110, 116, 45, 108, 101, 110, 103, 116, 104]⟩ : ByteArray), t303⟩ : S45)] : List (S45))) t308).bind fun bt309 => ((spec_Decimal.f k (Int.tmod (rd t297 0) 90)).bind fun t312 => ((impl_BodyOf.f k (⟨#[120]⟩ : ByteArray) (([(⟨(⟨#[99, 111, 110, 116, 101, 110, 116, 45, 108, 101, 110, 103, 116, 104]⟩ : ByteArray), t312⟩ : S45), (⟨(⟨#[116, 114, 97, 110, 115, 102, 101, 114, 45, 101, 110, 99, 111, 100, 105, 110, 103]⟩ : ByteArray), (⟨#[99, 104, 117, 110, 107, 101, 100]⟩ : ByteArray)⟩ : S45)] : List (S45))) (⟨#[48, 13, 10, 13, 10]⟩ : ByteArray)).bind fun bt317 => ((impl_BodyOf.f k (⟨#[120]⟩ : ByteArray) ([] : List (S45)) (⟨#[97, 98, 99]⟩ : ByteArray)).bind fun bt320 => (if ((bt309.2.2 == 2) == ((Int.tmod (rd t297 0) 90) != (Int.tmod (rd t297 1) 90))) = true then (if bt317.2.2 = 2 then (if bt320.2.1 = 0 then (some (bt320.2.2 == 0)) else (none)) else (none)) else (none))))))))) else (none)) else (none)))) = some r := H
  have A2 := Aside0.mk A20
  clear A20
  have HS3 := Aside0.mk H
  clear H
  go_enter Try.func7, Try.ntmps7
  go_upto_if 18 with (((with_reducible refine gate_callee (f := 20) rfl ?_); refine goesL_ (some 18) rfl rfl Try.func20 (by kernel_rfl) rfl #[.slice A0 l0.length c0] rfl (by (try simp only [List.map_toArray, List.map_cons, List.map_nil]); rfl) ?_; (with_reducible refine (laws_big.calls _ _ l0 t296 _ ?side1 ?side2 A2.out).mono ?_); (case side1 => repeat (exact HR0.out)); (case side2 => exact HC0.out); rintro e w' ⟨rfl, rfl⟩; refine ⟨_, rfl, ?_⟩))
  (try simp only [Act.put, List.setIfInBounds_toArray, List.set_cons_zero, List.set_cons_succ])
  have H := HS3.out
  clear HS3
  by_cases c4 : t296 = true
  · subst c4
    have H1 : (some true) = some r := by rw [if_pos rfl] at H; exact H
    clear H
    have H := H1
    clear H1
    obtain rfl := Option.some.inj H
    go_wp2
    go_ret
    exact ⟨by rfl, by repeat ((with_reducible exact HB.out))⟩
  · replace c4 := Bool.eq_false_iff.mpr c4
    subst c4
    have H1 : ((spec_DrawPlaces.f k l0).bind fun t297 => (if 0 < (t297.length : Int) then (if 1 < (t297.length : Int) then ((spec_Decimal.f k (Int.tmod (rd t297 0) 90)).bind fun t302 => ((spec_Decimal.f k (Int.tmod (rd t297 1) 90)).bind fun t303 => ((laws_row.f k 99 (⟨#[122]⟩ : ByteArray)).bind fun t308 => ((impl_BodyOf.f k (⟨#[120]⟩ : ByteArray) (([(⟨(⟨#[99, 111, 110, 116, 101, 110, 116, 45, 108, 101, 110, 103, 116, 104]⟩ : ByteArray), t302⟩ : S45), (⟨(⟨#[99, 111, 110, 116, 101, 110, 116, 45, 108, 101, 110, 103, 116, 104]⟩ : ByteArray), t303⟩ : S45)] : List (S45))) t308).bind fun bt309 => ((spec_Decimal.f k (Int.tmod (rd t297 0) 90)).bind fun t312 => ((impl_BodyOf.f k (⟨#[120]⟩ : ByteArray) (([(⟨(⟨#[99, 111, 110, 116, 101, 110, 116, 45, 108, 101, 110, 103, 116, 104]⟩ : ByteArray), t312⟩ : S45), (⟨(⟨#[116, 114, 97, 110, 115, 102, 101, 114, 45, 101, 110, 99, 111, 100, 105, 110, 103]⟩ : ByteArray), (⟨#[99, 104, 117, 110, 107, 101, 100]⟩ : ByteArray)⟩ : S45)] : List (S45))) (⟨#[48, 13, 10, 13, 10]⟩ : ByteArray)).bind fun bt317 => ((impl_BodyOf.f k (⟨#[120]⟩ : ByteArray) ([] : List (S45)) (⟨#[97, 98, 99]⟩ : ByteArray)).bind fun bt320 => (if ((bt309.2.2 == 2) == ((Int.tmod (rd t297 0) 90) != (Int.tmod (rd t297 1) 90))) = true then (if bt317.2.2 = 2 then (if bt320.2.1 = 0 then (some (bt320.2.2 == 0)) else (none)) else (none)) else (none))))))))) else (none)) else (none))) = some r := by rw [if_neg (show ¬ (false = true) by decide)] at H; exact H
    clear H
    have H := H1
    clear H1
    replace H := Option.bind_eq_some_iff.mp H
    obtain ⟨t297, A50, H⟩ := H
    replace H : (if 0 < (t297.length : Int) then (if 1 < (t297.length : Int) then ((spec_Decimal.f k (Int.tmod (rd t297 0) 90)).bind fun t302 => ((spec_Decimal.f k (Int.tmod (rd t297 1) 90)).bind fun t303 => ((laws_row.f k 99 (⟨#[122]⟩ : ByteArray)).bind fun t308 => ((impl_BodyOf.f k (⟨#[120]⟩ : ByteArray) (([(⟨(⟨#[99, 111, 110, 116, 101, 110, 116, 45, 108, 101, 110, 103, 116, 104]⟩ : ByteArray), t302⟩ : S45), (⟨(⟨#[99, 111, 110, 116, 101, 110, 116, 45, 108, 101, 110, 103, 116, 104]⟩ : ByteArray), t303⟩ : S45)] : List (S45))) t308).bind fun bt309 => ((spec_Decimal.f k (Int.tmod (rd t297 0) 90)).bind fun t312 => ((impl_BodyOf.f k (⟨#[120]⟩ : ByteArray) (([(⟨(⟨#[99, 111, 110, 116, 101, 110, 116, 45, 108, 101, 110, 103, 116, 104]⟩ : ByteArray), t312⟩ : S45), (⟨(⟨#[116, 114, 97, 110, 115, 102, 101, 114, 45, 101, 110, 99, 111, 100, 105, 110, 103]⟩ : ByteArray), (⟨#[99, 104, 117, 110, 107, 101, 100]⟩ : ByteArray)⟩ : S45)] : List (S45))) (⟨#[48, 13, 10, 13, 10]⟩ : ByteArray)).bind fun bt317 => ((impl_BodyOf.f k (⟨#[120]⟩ : ByteArray) ([] : List (S45)) (⟨#[97, 98, 99]⟩ : ByteArray)).bind fun bt320 => (if ((bt309.2.2 == 2) == ((Int.tmod (rd t297 0) 90) != (Int.tmod (rd t297 1) 90))) = true then (if bt317.2.2 = 2 then (if bt320.2.1 = 0 then (some (bt320.2.2 == 0)) else (none)) else (none)) else (none))))))))) else (none)) else (none)) = some r := H
    have A5 := Aside0.mk A50
    clear A50
    by_cases c6 : 0 < (t297.length : Int)
    · rw [if_pos c6] at H
      have c6b0 : decide (0 < (t297.length : Int)) = true := decide_eq_true c6
      have c6b1 : decide (0 < t297.length) = true := decide_eq_true (by omega)
      clear c6
      (skip)
      by_cases c7 : 1 < (t297.length : Int)
      · rw [if_pos c7] at H
        have c7b0 : decide (1 < (t297.length : Int)) = true := decide_eq_true c7
        have c7b1 : decide (1 < t297.length) = true := decide_eq_true (by omega)
        clear c7
        replace H := Option.bind_eq_some_iff.mp H
        obtain ⟨t302, A80, H⟩ := H
        replace H : ((spec_Decimal.f k (Int.tmod (rd t297 1) 90)).bind fun t303 => ((laws_row.f k 99 (⟨#[122]⟩ : ByteArray)).bind fun t308 => ((impl_BodyOf.f k (⟨#[120]⟩ : ByteArray) (([(⟨(⟨#[99, 111, 110, 116, 101, 110, 116, 45, 108, 101, 110, 103, 116, 104]⟩ : ByteArray), t302⟩ : S45), (⟨(⟨#[99, 111, 110, 116, 101, 110, 116, 45, 108, 101, 110, 103, 116, 104]⟩ : ByteArray), t303⟩ : S45)] : List (S45))) t308).bind fun bt309 => ((spec_Decimal.f k (Int.tmod (rd t297 0) 90)).bind fun t312 => ((impl_BodyOf.f k (⟨#[120]⟩ : ByteArray) (([(⟨(⟨#[99, 111, 110, 116, 101, 110, 116, 45, 108, 101, 110, 103, 116, 104]⟩ : ByteArray), t312⟩ : S45), (⟨(⟨#[116, 114, 97, 110, 115, 102, 101, 114, 45, 101, 110, 99, 111, 100, 105, 110, 103]⟩ : ByteArray), (⟨#[99, 104, 117, 110, 107, 101, 100]⟩ : ByteArray)⟩ : S45)] : List (S45))) (⟨#[48, 13, 10, 13, 10]⟩ : ByteArray)).bind fun bt317 => ((impl_BodyOf.f k (⟨#[120]⟩ : ByteArray) ([] : List (S45)) (⟨#[97, 98, 99]⟩ : ByteArray)).bind fun bt320 => (if ((bt309.2.2 == 2) == ((Int.tmod (rd t297 0) 90) != (Int.tmod (rd t297 1) 90))) = true then (if bt317.2.2 = 2 then (if bt320.2.1 = 0 then (some (bt320.2.2 == 0)) else (none)) else (none)) else (none)))))))) = some r := H
        have A8 := Aside0.mk A80
        clear A80
        replace H := Option.bind_eq_some_iff.mp H
        obtain ⟨t303, A90, H⟩ := H
        replace H : ((laws_row.f k 99 (⟨#[122]⟩ : ByteArray)).bind fun t308 => ((impl_BodyOf.f k (⟨#[120]⟩ : ByteArray) (([(⟨(⟨#[99, 111, 110, 116, 101, 110, 116, 45, 108, 101, 110, 103, 116, 104]⟩ : ByteArray), t302⟩ : S45), (⟨(⟨#[99, 111, 110, 116, 101, 110, 116, 45, 108, 101, 110, 103, 116, 104]⟩ : ByteArray), t303⟩ : S45)] : List (S45))) t308).bind fun bt309 => ((spec_Decimal.f k (Int.tmod (rd t297 0) 90)).bind fun t312 => ((impl_BodyOf.f k (⟨#[120]⟩ : ByteArray) (([(⟨(⟨#[99, 111, 110, 116, 101, 110, 116, 45, 108, 101, 110, 103, 116, 104]⟩ : ByteArray), t312⟩ : S45), (⟨(⟨#[116, 114, 97, 110, 115, 102, 101, 114, 45, 101, 110, 99, 111, 100, 105, 110, 103]⟩ : ByteArray), (⟨#[99, 104, 117, 110, 107, 101, 100]⟩ : ByteArray)⟩ : S45)] : List (S45))) (⟨#[48, 13, 10, 13, 10]⟩ : ByteArray)).bind fun bt317 => ((impl_BodyOf.f k (⟨#[120]⟩ : ByteArray) ([] : List (S45)) (⟨#[97, 98, 99]⟩ : ByteArray)).bind fun bt320 => (if ((bt309.2.2 == 2) == ((Int.tmod (rd t297 0) 90) != (Int.tmod (rd t297 1) 90))) = true then (if bt317.2.2 = 2 then (if bt320.2.1 = 0 then (some (bt320.2.2 == 0)) else (none)) else (none)) else (none))))))) = some r := H
        have A9 := Aside0.mk A90
        clear A90
        obtain ⟨y304, hy304⟩ : ∃ y_ : List (S45), y_ = (([(⟨(⟨#[99, 111, 110, 116, 101, 110, 116, 45, 108, 101, 110, 103, 116, 104]⟩ : ByteArray), t302⟩ : S45), (⟨(⟨#[99, 111, 110, 116, 101, 110, 116, 45, 108, 101, 110, 103, 116, 104]⟩ : ByteArray), t303⟩ : S45)] : List (S45))) := ⟨_, rfl⟩
        replace H : ((laws_row.f k 99 (⟨#[122]⟩ : ByteArray)).bind fun t308 => ((impl_BodyOf.f k (⟨#[120]⟩ : ByteArray) y304 t308).bind fun bt309 => ((spec_Decimal.f k (Int.tmod (rd t297 0) 90)).bind fun t312 => ((impl_BodyOf.f k (⟨#[120]⟩ : ByteArray) (([(⟨(⟨#[99, 111, 110, 116, 101, 110, 116, 45, 108, 101, 110, 103, 116, 104]⟩ : ByteArray), t312⟩ : S45), (⟨(⟨#[116, 114, 97, 110, 115, 102, 101, 114, 45, 101, 110, 99, 111, 100, 105, 110, 103]⟩ : ByteArray), (⟨#[99, 104, 117, 110, 107, 101, 100]⟩ : ByteArray)⟩ : S45)] : List (S45))) (⟨#[48, 13, 10, 13, 10]⟩ : ByteArray)).bind fun bt317 => ((impl_BodyOf.f k (⟨#[120]⟩ : ByteArray) ([] : List (S45)) (⟨#[97, 98, 99]⟩ : ByteArray)).bind fun bt320 => (if ((bt309.2.2 == 2) == ((Int.tmod (rd t297 0) 90) != (Int.tmod (rd t297 1) 90))) = true then (if bt317.2.2 = 2 then (if bt320.2.1 = 0 then (some (bt320.2.2 == 0)) else (none)) else (none)) else (none))))))) = some r := by (rw [hy304]; with_reducible exact H)
        have Ny304 := Aside0.mk hy304
        clear hy304
        replace H := Option.bind_eq_some_iff.mp H
        obtain ⟨t308, A100, H⟩ := H
        replace H : ((impl_BodyOf.f k (⟨#[120]⟩ : ByteArray) y304 t308).bind fun bt309 => ((spec_Decimal.f k (Int.tmod (rd t297 0) 90)).bind fun t312 => ((impl_BodyOf.f k (⟨#[120]⟩ : ByteArray) (([(⟨(⟨#[99, 111, 110, 116, 101, 110, 116, 45, 108, 101, 110, 103, 116, 104]⟩ : ByteArray), t312⟩ : S45), (⟨(⟨#[116, 114, 97, 110, 115, 102, 101, 114, 45, 101, 110, 99, 111, 100, 105, 110, 103]⟩ : ByteArray), (⟨#[99, 104, 117, 110, 107, 101, 100]⟩ : ByteArray)⟩ : S45)] : List (S45))) (⟨#[48, 13, 10, 13, 10]⟩ : ByteArray)).bind fun bt317 => ((impl_BodyOf.f k (⟨#[120]⟩ : ByteArray) ([] : List (S45)) (⟨#[97, 98, 99]⟩ : ByteArray)).bind fun bt320 => (if ((bt309.2.2 == 2) == ((Int.tmod (rd t297 0) 90) != (Int.tmod (rd t297 1) 90))) = true then (if bt317.2.2 = 2 then (if bt320.2.1 = 0 then (some (bt320.2.2 == 0)) else (none)) else (none)) else (none)))))) = some r := H
        have A10 := Aside0.mk A100
        clear A100
        replace H := Option.bind_eq_some_iff.mp H
        obtain ⟨⟨t309, t310, t311⟩, A110, H⟩ := H
        replace H : ((spec_Decimal.f k (Int.tmod (rd t297 0) 90)).bind fun t312 => ((impl_BodyOf.f k (⟨#[120]⟩ : ByteArray) (([(⟨(⟨#[99, 111, 110, 116, 101, 110, 116, 45, 108, 101, 110, 103, 116, 104]⟩ : ByteArray), t312⟩ : S45), (⟨(⟨#[116, 114, 97, 110, 115, 102, 101, 114, 45, 101, 110, 99, 111, 100, 105, 110, 103]⟩ : ByteArray), (⟨#[99, 104, 117, 110, 107, 101, 100]⟩ : ByteArray)⟩ : S45)] : List (S45))) (⟨#[48, 13, 10, 13, 10]⟩ : ByteArray)).bind fun bt317 => ((impl_BodyOf.f k (⟨#[120]⟩ : ByteArray) ([] : List (S45)) (⟨#[97, 98, 99]⟩ : ByteArray)).bind fun bt320 => (if ((t311 == 2) == ((Int.tmod (rd t297 0) 90) != (Int.tmod (rd t297 1) 90))) = true then (if bt317.2.2 = 2 then (if bt320.2.1 = 0 then (some (bt320.2.2 == 0)) else (none)) else (none)) else (none))))) = some r := H
        have A11 := Aside0.mk A110
        clear A110
        replace H := Option.bind_eq_some_iff.mp H
        obtain ⟨t312, A120, H⟩ := H
        replace H : ((impl_BodyOf.f k (⟨#[120]⟩ : ByteArray) (([(⟨(⟨#[99, 111, 110, 116, 101, 110, 116, 45, 108, 101, 110, 103, 116, 104]⟩ : ByteArray), t312⟩ : S45), (⟨(⟨#[116, 114, 97, 110, 115, 102, 101, 114, 45, 101, 110, 99, 111, 100, 105, 110, 103]⟩ : ByteArray), (⟨#[99, 104, 117, 110, 107, 101, 100]⟩ : ByteArray)⟩ : S45)] : List (S45))) (⟨#[48, 13, 10, 13, 10]⟩ : ByteArray)).bind fun bt317 => ((impl_BodyOf.f k (⟨#[120]⟩ : ByteArray) ([] : List (S45)) (⟨#[97, 98, 99]⟩ : ByteArray)).bind fun bt320 => (if ((t311 == 2) == ((Int.tmod (rd t297 0) 90) != (Int.tmod (rd t297 1) 90))) = true then (if bt317.2.2 = 2 then (if bt320.2.1 = 0 then (some (bt320.2.2 == 0)) else (none)) else (none)) else (none)))) = some r := H
        have A12 := Aside0.mk A120
        clear A120
        obtain ⟨y313, hy313⟩ : ∃ y_ : List (S45), y_ = (([(⟨(⟨#[99, 111, 110, 116, 101, 110, 116, 45, 108, 101, 110, 103, 116, 104]⟩ : ByteArray), t312⟩ : S45), (⟨(⟨#[116, 114, 97, 110, 115, 102, 101, 114, 45, 101, 110, 99, 111, 100, 105, 110, 103]⟩ : ByteArray), (⟨#[99, 104, 117, 110, 107, 101, 100]⟩ : ByteArray)⟩ : S45)] : List (S45))) := ⟨_, rfl⟩
        replace H : ((impl_BodyOf.f k (⟨#[120]⟩ : ByteArray) y313 (⟨#[48, 13, 10, 13, 10]⟩ : ByteArray)).bind fun bt317 => ((impl_BodyOf.f k (⟨#[120]⟩ : ByteArray) ([] : List (S45)) (⟨#[97, 98, 99]⟩ : ByteArray)).bind fun bt320 => (if ((t311 == 2) == ((Int.tmod (rd t297 0) 90) != (Int.tmod (rd t297 1) 90))) = true then (if bt317.2.2 = 2 then (if bt320.2.1 = 0 then (some (bt320.2.2 == 0)) else (none)) else (none)) else (none)))) = some r := by (rw [hy313]; with_reducible exact H)
        have Ny313 := Aside0.mk hy313
        clear hy313
        replace H := Option.bind_eq_some_iff.mp H
        obtain ⟨⟨t317, t318, t319⟩, A130, H⟩ := H
        replace H : ((impl_BodyOf.f k (⟨#[120]⟩ : ByteArray) ([] : List (S45)) (⟨#[97, 98, 99]⟩ : ByteArray)).bind fun bt320 => (if ((t311 == 2) == ((Int.tmod (rd t297 0) 90) != (Int.tmod (rd t297 1) 90))) = true then (if t319 = 2 then (if bt320.2.1 = 0 then (some (bt320.2.2 == 0)) else (none)) else (none)) else (none))) = some r := H
        have A13 := Aside0.mk A130
        clear A130
        replace H := Option.bind_eq_some_iff.mp H
        obtain ⟨⟨t320, t321, t322⟩, A140, H⟩ := H
        replace H : (if ((t311 == 2) == ((Int.tmod (rd t297 0) 90) != (Int.tmod (rd t297 1) 90))) = true then (if t319 = 2 then (if t321 = 0 then (some (t322 == 0)) else (none)) else (none)) else (none)) = some r := H
        have A14 := Aside0.mk A140
        clear A140
        by_cases c15 : ((t311 == 2) == ((Int.tmod (rd t297 0) 90) != (Int.tmod (rd t297 1) 90))) = true
        · rw [if_pos c15] at H
          have c15b0 : ((t311 == 2) == ((Int.tmod (rd t297 0) 90) != (Int.tmod (rd t297 1) 90))) = true := c15
          (try (have c15b1 : decide ((t311 == 2) = ((Int.tmod (rd t297 0) 90) != (Int.tmod (rd t297 1) 90))) = true := by simpa using c15))
          (try (have c15b2 : ((t311 == 2) == ((Int.tmod (rd t297 0) 90) != (Int.tmod (rd t297 1) 90))) = true := by simpa using c15))
          clear c15
          by_cases c16 : t319 = 2
          · rw [if_pos c16] at H
            have c16b0 : (t319 == 2) = true := beq_iff_eq.mpr c16
            have c16b1 : (t319 != 2) = false := bne_eq_false_iff_eq.mpr c16
            clear c16
            by_cases c17 : t321 = 0
            · rw [if_pos c17] at H
              have c17b0 : (t321 == 0) = true := beq_iff_eq.mpr c17
              have c17b1 : (t321 != 0) = false := bne_eq_false_iff_eq.mpr c17
              clear c17
              obtain rfl := Option.some.inj H
              go_wp2_with (first | ((with_reducible refine gate_callee (f := 22) rfl ?_); refine goesL_ (some 20) rfl rfl Try.func22 (by kernel_rfl) rfl #[.slice A0 l0.length c0] rfl (by (try simp only [List.map_toArray, List.map_cons, List.map_nil]); rfl) ?_; (with_reducible refine (spec_DrawPlaces.calls k _ _ l0 t297 _ ?side1 ?side2 A5.out).mono ?_); (case side1 => repeat (exact (Kd.C_below HR0.out HB.out))); (case side2 => exact HC0.out); rintro e w18 ⟨v298, rfl, ho0, hb⟩; refine ⟨_, rfl, ?_⟩; have n0_ := Aside0.mk (Kd.R_lower ho0 (below_size (by repeat ((with_reducible exact HB.out))))); have n1_ := Aside0.mk (below_step (by repeat ((with_reducible exact HB.out))) hb); clear HB; have HO299 := n0_; have HB := n1_; clear n0_ n1_; (try clear hb); (try clear hb2); (try clear hk); (try clear hi); (try clear ho0); obtain ⟨Ao19, co19, eo19⟩ := Kd.R_slice HO299.out; subst eo19; have p300 : 0 ≤ (0 : Int) := (by omega); have q300 : 0 < (t297.length : Int) := of_decide_eq_true (by (with_reducible assumption)); obtain ⟨ad300, e300, hx300_0⟩ := Kd.at_int (Kd.R_reads' HO299.out).2.2 0 p300 q300; cases e300; have qi300 : (0 < t297.length) = True := eq_true (by omega); (try rw [show ((0 : Int)).toNat = 0 from rfl] at hx300_0); (try rw [Addr.add_zero'] at hx300_0); replace p300 := eq_true p300; replace q300 := eq_true q300; have p301 : 0 ≤ (1 : Int) := (by omega); have q301 : 1 < (t297.length : Int) := of_decide_eq_true (by (with_reducible assumption)); obtain ⟨ad301, e301, hx301_0⟩ := Kd.at_int (Kd.R_reads' HO299.out).2.2 1 p301 q301; obtain rfl : ad300 = ad301 := (by injection e301); (try simp only [show (1 : Int).toNat = 1 from rfl, Nat.reduceMul, Nat.reduceEqDiff, Go.Addr.add, ↓reduceIte] at hx301_0); have qi301 : (1 < t297.length) = True := eq_true (by omega); (try rw [show ((1 : Int)).toNat = 1 from rfl] at hx301_0); replace p301 := eq_true p301; replace q301 := eq_true q301) | ((with_reducible refine gate_callee (f := 23) rfl ?_); refine goesL_ (some 30) rfl rfl Try.func23 (by kernel_rfl) rfl #[.int .i64 (Int.tmod (rd t297 0) 90)] rfl (by (try simp only [List.map_toArray, List.map_cons, List.map_nil]); rfl) ?_; (with_reducible refine (spec_Decimal.calls k (Int.tmod (rd t297 0) 90) t302 _ A8.out).mono ?_); rintro e w20 ⟨rfl, hb⟩; refine ⟨_, rfl, ?_⟩; have n0_ := Aside0.mk (Kd.R_below (by (with_reducible repeat (first | apply Kd.R_alloc | apply Kd.R_drewN | apply Kd.R_drew )); exact HO299.out) hb); have n1_ := Aside0.mk (below_step (by repeat ((with_reducible exact HB.out))) hb); clear HO299; clear HB; have HO299 := n0_; have HB := n1_; clear n0_ n1_; (try clear hb); (try clear hb2); (try clear hk); (try clear hi)) | ((with_reducible refine gate_callee (f := 23) rfl ?_); refine goesL_ (some 33) rfl rfl Try.func23 (by kernel_rfl) rfl #[.int .i64 (Int.tmod (rd t297 1) 90)] rfl (by (try simp only [List.map_toArray, List.map_cons, List.map_nil]); rfl) ?_; (with_reducible refine (spec_Decimal.calls k (Int.tmod (rd t297 1) 90) t303 _ A9.out).mono ?_); rintro e w21 ⟨rfl, hb⟩; refine ⟨_, rfl, ?_⟩; have n0_ := Aside0.mk (Kd.R_below (by (with_reducible repeat (first | apply Kd.R_alloc | apply Kd.R_drewN | apply Kd.R_drew )); exact HO299.out) hb); have n1_ := Aside0.mk (below_step (by repeat ((with_reducible exact HB.out))) hb); clear HO299; clear HB; have HO299 := n0_; have HB := n1_; clear n0_ n1_; (try clear hb); (try clear hb2); (try clear hk); (try clear hi)) | ((with_reducible refine gate_dst (N := 35) rfl ?_); refine Kd.R_lit k45 _ 45 ?hg (N := 35) ?hd (xs := ([(⟨(⟨#[99, 111, 110, 116, 101, 110, 116, 45, 108, 101, 110, 103, 116, 104]⟩ : ByteArray), t302⟩ : S45), (⟨(⟨#[99, 111, 110, 116, 101, 110, 116, 45, 108, 101, 110, 103, 116, 104]⟩ : ByteArray), t303⟩ : S45)] : List (S45))) (inner := [.string (⟨#[99, 111, 110, 116, 101, 110, 116, 45, 108, 101, 110, 103, 116, 104]⟩ : ByteArray), .string t302, .string (⟨#[99, 111, 110, 116, 101, 110, 116, 45, 108, 101, 110, 103, 116, 104]⟩ : ByteArray), .string t303]) (ok := fun _ => True) (okp := fun _ => True) ?hr ?hp (fun _ hk => hk) trivial (Below.refl _ _) (Nat.le_refl _) (by simp) ?_; (case hd => rfl); (case hg => rfl); (case hr => (go_simp; done)); (case hp => exact (Reps.c2 (show Kd.M k45 _ _ _ (⟨(⟨#[99, 111, 110, 116, 101, 110, 116, 45, 108, 101, 110, 103, 116, 104]⟩ : ByteArray), t302⟩ : S45) [.string (⟨#[99, 111, 110, 116, 101, 110, 116, 45, 108, 101, 110, 103, 116, 104]⟩ : ByteArray), .string t302] from (k45_mkM _ _ _ (⟨(⟨#[99, 111, 110, 116, 101, 110, 116, 45, 108, 101, 110, 103, 116, 104]⟩ : ByteArray), t302⟩ : S45) )) (Reps.c2 (show Kd.M k45 _ _ _ (⟨(⟨#[99, 111, 110, 116, 101, 110, 116, 45, 108, 101, 110, 103, 116, 104]⟩ : ByteArray), t303⟩ : S45) [.string (⟨#[99, 111, 110, 116, 101, 110, 116, 45, 108, 101, 110, 103, 116, 104]⟩ : ByteArray), .string t303] from (k45_mkM _ _ _ (⟨(⟨#[99, 111, 110, 116, 101, 110, 116, 45, 108, 101, 110, 103, 116, 104]⟩ : ByteArray), t303⟩ : S45) )) (Reps.none _ _)))); intro v305 w22 ho23 hb hg_ hnew_; clear hg_ hnew_; (rw [← Ny304.out] at ho23); have n0_ := Aside0.mk (Kd.R_below (by (with_reducible repeat (first | apply Kd.R_alloc | apply Kd.R_drewN | apply Kd.R_drew )); exact HO299.out) hb); have n1_ := Aside0.mk (Kd.R_lower ho23 (below_size (by repeat ((with_reducible exact HB.out))))); have n2_ := Aside0.mk (below_step (by repeat ((with_reducible exact HB.out))) hb); clear HO299; clear HB; have HO299 := n0_; have HO306 := n1_; have HB := n2_; clear n0_ n1_ n2_; clear hb ho23; obtain ⟨Ao24, co24, eo24⟩ := Kd.R_slice HO306.out; subst eo24) | ((with_reducible refine gate_dst (N := 6) rfl ?_); refine box_event ?hg (N := 6) ?hd (cs := #[.string (⟨#[]⟩ : ByteArray), .slice none 0 0]) (t := 48) ?hr ?_; (case hd => rfl); (case hg => rfl); (case hr => (go_simp; done)); intro gb307 hg w25 hbox hb; have n0_ := Aside0.mk (Kd.R_below (by (with_reducible repeat (first | apply Kd.R_alloc | apply Kd.R_drewN | apply Kd.R_drew )); exact HO299.out) hb); have n1_ := Aside0.mk (Kd.R_below (by (with_reducible repeat (first | apply Kd.R_alloc | apply Kd.R_drewN | apply Kd.R_drew )); exact HO306.out) hb); have n2_ := Aside0.mk (below_step (by repeat ((with_reducible exact HB.out))) hb); have n3_ := Aside0.mk (hbox); have n4_ := Aside0.mk ((by rw [hg]; exact (below_size (by repeat ((with_reducible exact HB.out)))) : w.heap.size ≤ gb307)); have n5_ := Aside0.mk ((by rw [hg]; exact (below_size (by repeat ((with_reducible exact HB.out)))) : w.heap.size ≤ gb307)); clear HO299; clear HO306; clear HB; have HO299 := n0_; have HO306 := n1_; have HB := n2_; have BK307 := n3_; have GW307 := n4_; have GE307 := n5_; clear n0_ n1_ n2_ n3_ n4_ n5_; clear hb hbox hg; have hcz26_0 : w25.cell? ⟨gb307, 0, none⟩ = some (.string (⟨#[]⟩ : ByteArray)) := (blk_cell BK307.out 0).trans rfl; have hcz26_1 : w25.cell? ⟨gb307, 1, none⟩ = some (.slice none 0 0) := (blk_cell BK307.out 1).trans rfl; have hfz26_0 := blk_frozen BK307.out 0; have hfz26_1 := blk_frozen BK307.out 1))
              have n0_ : Aside0 (Kd.R (Kd.int .i64) 3 ((w25.setCell ⟨gb307, 0, none⟩ (.string (⟨#[120]⟩ : ByteArray))).setCell ⟨gb307, 1, none⟩ (.slice Ao24 y304.length co24)) w.heap.size (fun _ => True) (.slice (some ad300) t297.length co19) t297) := ⟨by (with_reducible repeat (first | apply Kd.R_alloc | apply Kd.R_drewN | apply Kd.R_drew )); exact Kd.R_mono (Kd.R_far (p := ⟨gb307, 1, none⟩) (Kd.R_far (p := ⟨gb307, 0, none⟩) (Kd.R_types HO299.out BK307.out (by decide)) (fun _ hk => hk.2) (.string (⟨#[120]⟩ : ByteArray))) (fun _ hk => hk.2) (.slice Ao24 y304.length co24)) (fun _ hk => trivial)⟩
              have n1_ : Aside0 (Kd.R k45 45 ((w25.setCell ⟨gb307, 0, none⟩ (.string (⟨#[120]⟩ : ByteArray))).setCell ⟨gb307, 1, none⟩ (.slice Ao24 y304.length co24)) w.heap.size (fun _ => True) (.slice Ao24 y304.length co24) y304) := ⟨by (with_reducible repeat (first | apply Kd.R_alloc | apply Kd.R_drewN | apply Kd.R_drew )); exact Kd.R_mono (Kd.R_far (p := ⟨gb307, 1, none⟩) (Kd.R_far (p := ⟨gb307, 0, none⟩) (Kd.R_types HO306.out BK307.out (by decide)) (fun _ hk => hk.2) (.string (⟨#[120]⟩ : ByteArray))) (fun _ hk => hk.2) (.slice Ao24 y304.length co24)) (fun _ hk => trivial)⟩
              have n2_ : Aside0 (((w25.setCell ⟨gb307, 0, none⟩ (.string (⟨#[120]⟩ : ByteArray))).setCell ⟨gb307, 1, none⟩ (.slice Ao24 y304.length co24)).heap[gb307]? = some (.cells #[.string (⟨#[120]⟩ : ByteArray), .slice Ao24 y304.length co24] 48 (0, 0))) := ⟨by (with_reducible repeat (first | refine blk_drewN ?_ _ | refine blk_drew ?_ | refine blk_alloc ?_ _ )); refine blk_put (cs := #[.string (⟨#[120]⟩ : ByteArray), .slice none 0 0]) ?_ 1 _ rfl; (with_reducible repeat (first | refine blk_drewN ?_ _ | refine blk_drew ?_ | refine blk_alloc ?_ _ )); refine blk_put (cs := #[.string (⟨#[]⟩ : ByteArray), .slice none 0 0]) ?_ 0 _ rfl; (with_reducible repeat (first | refine blk_drewN ?_ _ | refine blk_drew ?_ | refine blk_alloc ?_ _ )); exact BK307.out⟩
              have n3_ : Aside0 (Below w.heap.size w ((w25.setCell ⟨gb307, 0, none⟩ (.string (⟨#[120]⟩ : ByteArray))).setCell ⟨gb307, 1, none⟩ (.slice Ao24 y304.length co24))) := ⟨by repeat ((with_reducible first | exact HB.out | refine below_set ?_ GE307.out))⟩
              (try clear HO299)
              (try clear HO306)
              (try clear BK307)
              (try clear HB)
              generalize ((w25.setCell ⟨gb307, 0, none⟩ (.string (⟨#[120]⟩ : ByteArray))).setCell ⟨gb307, 1, none⟩ (.slice Ao24 y304.length co24)) = w27 at n0_ n1_ n2_ n3_ ⊢
              have HO299 := n0_
              have HO306 := n1_
              have BK307 := n2_
              have HB := n3_
              clear n0_ n1_ n2_ n3_
              have n0_ := Aside0.mk (Kd.R_drew HO299.out)
              have n1_ := Aside0.mk (Kd.R_drew HO306.out)
              have n2_ := Aside0.mk (blk_drew BK307.out)
              have n3_ := Aside0.mk (below_drew1 HB.out)
              clear HO299
              clear HO306
              clear BK307
              clear HB
              have HO299 := n0_
              have HO306 := n1_
              have BK307 := n2_
              have HB := n3_
              clear n0_ n1_ n2_ n3_
              refine start_ (n := 10) (S := fun w' => w'.cell? ⟨gb307, 0, none⟩ = some (.string (⟨#[120]⟩ : ByteArray)) ∧ w'.cell? ⟨gb307, 1, none⟩ = some (.slice Ao24 y304.length co24)) (ds := []) #[false, false, false, false, false, false, false, false, false, false] (by kernel_rfl) rfl rfl ⟨(blk_cell BK307.out 0).trans rfl, (blk_cell BK307.out 1).trans rfl⟩ (fun hHeld => ?_); refine with_tabW laws_FnSmuggled.tab7 laws_FnSmuggled.bits7 (fun HT_ HW_ => ?_)
              generalize w27.drew = w28 at HO299 HO306 BK307 HB hHeld ⊢
              refine take_ (i := 0) (N := some 38) (v := ?_) (a' := ?_) #[true, false, false, false, false, false, false, false, false, false] rfl rfl (take_ofW HT_.out HW_.out (by kernel_rfl)) (fun _ _ _ h => h) (Or.inl ⟨by rfl, ?_⟩) hHeld ?_ ?_
              rotate_left
              · rintro w' ⟨s0, s1⟩
                go_simp
                with_reducible rfl
              rotate_left
              · simp only [Act.put, List.setIfInBounds_toArray, List.set_cons_zero, List.set_cons_succ, i64_w, i32_w]
                rfl
              refine one_ (i := 1) (N := some 39) #[true, true, false, false, false, false, false, false, false, false] rfl rfl (one_of HT_.out (by kernel_rfl)) (by decide) (fun K hK => ?_)
              refine goes_ Try.func25 (by kernel_rfl) rfl #[.int .i64 99, .string (⟨#[122]⟩ : ByteArray)] (by rfl) rfl rfl (by (try simp only [List.map_toArray, List.map_cons, List.map_nil]); rfl) ?_
              with_reducible refine (laws_row.calls k 99 (⟨#[122]⟩ : ByteArray) t308 _ A10.out).mono ?_
              rintro e w' ⟨rfl, ⟨nd, rfl⟩⟩
              refine ⟨_, rfl, ?_⟩
              refine hK.out _ _ ⟨(blk_cell BK307.out 0).trans rfl, (blk_cell BK307.out 1).trans rfl⟩ (fun hHeld => ?_)
              clear hK K
              refine norm_ (a' := ?_) ?_ ?_
              rotate_left
              · show Act.put _ (some 39) _ = _
                simp only [Act.put, List.setIfInBounds_toArray, List.set_cons_zero, List.set_cons_succ, i64_w, i32_w]
                rfl
              refine one_ (i := 2) (N := some 40) #[true, true, true, false, false, false, false, false, false, false] rfl rfl (one_of HT_.out (by kernel_rfl)) (by decide) (fun K hK => ?_)
              refine goes_ Try.func24 (by kernel_rfl) rfl #[.agg #[.string (⟨#[120]⟩ : ByteArray), .slice Ao24 y304.length co24], .string t308] (by rfl) rfl rfl (by (try simp only [List.map_toArray, List.map_cons, List.map_nil]); rfl) ?_
              with_reducible refine (impl_BodyOf.calls k (⟨#[120]⟩ : ByteArray) _ _ y304 t308 t309 t310 t311 _ ?side1 ?side2 A11.out).mono ?_
              (case side1 => repeat (exact (Kd.R_reads' HO306.out).2.2))
              (case side2 => exact (Kd.R_reads' HO306.out).2.1)
              rintro e w29 ⟨rfl, hb⟩
              refine ⟨_, rfl, ?_⟩
              have n0_ := Aside0.mk (Kd.R_below (by (with_reducible repeat (apply Kd.R_drewN)); exact HO299.out) hb)
              have n1_ := Aside0.mk (Kd.R_below (by (with_reducible repeat (apply Kd.R_drewN)); exact HO306.out) hb)
              have n2_ := Aside0.mk (blk_below (g := gb307) (o := .cells #[.string (⟨#[120]⟩ : ByteArray), .slice Ao24 y304.length co24] 48 (0, 0)) (by (with_reducible repeat (refine blk_drewN ?_ _)); exact BK307.out) hb)
              have n3_ := Aside0.mk (below_step (by repeat ((with_reducible first | exact HB.out | apply pw_below_drewN))) hb)
              clear HO299
              clear HO306
              clear BK307
              clear HB
              have HO299 := n0_
              have HO306 := n1_
              have BK307 := n2_
              have HB := n3_
              clear n0_ n1_ n2_ n3_
              (try clear hb)
              (try clear hb2)
              (try clear hk)
              (try clear hi)
              refine hK.out _ _ ⟨(blk_cell BK307.out 0).trans rfl, (blk_cell BK307.out 1).trans rfl⟩ (fun hHeld => ?_)
              clear hK K
              refine norm_ (a' := ?_) ?_ ?_
              rotate_left
              · show Act.put _ (some 40) _ = _
                simp only [Act.put, List.setIfInBounds_toArray, List.set_cons_zero, List.set_cons_succ, i64_w, i32_w]
                rfl
              refine pure_ (i := 3) (N := some 37) (v := ?_) (a' := ?_) #[true, true, true, true, false, false, false, false, false, false] rfl rfl (any_of HT_.out (by kernel_rfl)) (fun _ _ _ h => h) (Or.inl ⟨by rfl, ?_⟩) ?_ ?_
              rotate_left
              · intro w'
                go_simp
                with_reducible rfl
              rotate_left
              · simp only [Act.put, List.setIfInBounds_toArray, List.set_cons_zero, List.set_cons_succ, i64_w, i32_w]
                rfl
              refine pure_ (i := 4) (N := some 41) (v := ?_) (a' := ?_) #[true, true, true, true, true, false, false, false, false, false] rfl rfl (any_of HT_.out (by kernel_rfl)) (fun _ _ _ h => h) (Or.inl ⟨by rfl, ?_⟩) ?_ ?_
              rotate_left
              · intro w'
                go_simp
                with_reducible rfl
              rotate_left
              · simp only [Act.put, List.setIfInBounds_toArray, List.set_cons_zero, List.set_cons_succ, i64_w, i32_w]
                rfl
              refine pure_ (i := 5) (N := some 42) (v := ?_) (a' := ?_) #[true, true, true, true, true, true, false, false, false, false] rfl rfl (any_of HT_.out (by kernel_rfl)) (fun _ _ _ h => h) (Or.inl ⟨by rfl, ?_⟩) ?_ ?_
              rotate_left
              · intro w'
                go_simp
                with_reducible rfl
              rotate_left
              · simp only [Act.put, List.setIfInBounds_toArray, List.set_cons_zero, List.set_cons_succ, i64_w, i32_w]
                rfl
              refine pure_ (i := 6) (N := some 43) (v := ?_) (a' := ?_) #[true, true, true, true, true, true, true, false, false, false] rfl rfl (any_of HT_.out (by kernel_rfl)) (fun _ _ _ h => h) (Or.inl ⟨by rfl, ?_⟩) ?_ ?_
              rotate_left
              · intro w'
                go_simp
                with_reducible rfl
              rotate_left
              · simp only [Act.put, List.setIfInBounds_toArray, List.set_cons_zero, List.set_cons_succ, i64_w, i32_w]
                rfl
              refine pure_ (i := 7) (N := some 7) (v := ?_) (a' := ?_) #[true, true, true, true, true, true, true, true, false, false] rfl rfl (any_of HT_.out (by kernel_rfl)) (fun _ _ _ h => h) (Or.inl ⟨by rfl, ?_⟩) ?_ ?_
              rotate_left
              · intro w'
                go_simp
                with_reducible rfl
              rotate_left
              · simp only [Act.put, List.setIfInBounds_toArray, List.set_cons_zero, List.set_cons_succ, i64_w, i32_w]
                rfl
              refine pure_ (i := 8) (N := some 8) (v := ?_) (a' := ?_) #[true, true, true, true, true, true, true, true, true, false] rfl rfl (any_of HT_.out (by kernel_rfl)) (fun _ _ _ h => h) (Or.inl ⟨by rfl, ?_⟩) ?_ ?_
              rotate_left
              · intro w'
                go_simp
                with_reducible rfl
              rotate_left
              · simp only [Act.put, List.setIfInBounds_toArray, List.set_cons_zero, List.set_cons_succ, i64_w, i32_w]
                rfl
              refine pure_ (i := 9) (N := some 9) (v := ?_) (a' := ?_) #[true, true, true, true, true, true, true, true, true, true] rfl rfl (any_of HT_.out (by kernel_rfl)) (fun _ _ _ h => h) (Or.inl ⟨by rfl, ?_⟩) ?_ ?_
              rotate_left
              · intro w'
                go_simp
                with_reducible rfl
              rotate_left
              · simp only [Act.put, List.setIfInBounds_toArray, List.set_cons_zero, List.set_cons_succ, i64_w, i32_w]
                rfl
              refine done_ (done_of HT_.out (by kernel_rfl)) ?_
              go_wp2_with (first | ((with_reducible refine gate_callee (f := 23) rfl ?_); refine goesL_ (some 45) rfl rfl Try.func23 (by kernel_rfl) rfl #[.int .i64 (Int.tmod (rd t297 0) 90)] rfl (by (try simp only [List.map_toArray, List.map_cons, List.map_nil]); rfl) ?_; (with_reducible refine (spec_Decimal.calls k (Int.tmod (rd t297 0) 90) t312 _ A12.out).mono ?_); rintro e w30 ⟨rfl, hb⟩; refine ⟨_, rfl, ?_⟩; have n0_ := Aside0.mk (Kd.R_below (by (with_reducible repeat (first | apply Kd.R_alloc | apply Kd.R_drewN | apply Kd.R_drew )); exact HO299.out) hb); have n1_ := Aside0.mk (Kd.R_below (by (with_reducible repeat (first | apply Kd.R_alloc | apply Kd.R_drewN | apply Kd.R_drew )); exact HO306.out) hb); have n2_ := Aside0.mk (blk_below (g := gb307) (o := .cells #[.string (⟨#[120]⟩ : ByteArray), .slice Ao24 y304.length co24] 48 (0, 0)) (by (with_reducible repeat (first | refine blk_drewN ?_ _ | refine blk_drew ?_ | refine blk_alloc ?_ _ )); exact BK307.out) hb); have n3_ := Aside0.mk (below_step (by repeat ((with_reducible exact HB.out))) hb); clear HO299; clear HO306; clear BK307; clear HB; have HO299 := n0_; have HO306 := n1_; have BK307 := n2_; have HB := n3_; clear n0_ n1_ n2_ n3_; (try clear hb); (try clear hb2); (try clear hk); (try clear hi)) | ((with_reducible refine gate_dst (N := 48) rfl ?_); refine Kd.R_lit k45 _ 45 ?hg (N := 48) ?hd (xs := ([(⟨(⟨#[99, 111, 110, 116, 101, 110, 116, 45, 108, 101, 110, 103, 116, 104]⟩ : ByteArray), t312⟩ : S45), (⟨(⟨#[116, 114, 97, 110, 115, 102, 101, 114, 45, 101, 110, 99, 111, 100, 105, 110, 103]⟩ : ByteArray), (⟨#[99, 104, 117, 110, 107, 101, 100]⟩ : ByteArray)⟩ : S45)] : List (S45))) (inner := [.string (⟨#[99, 111, 110, 116, 101, 110, 116, 45, 108, 101, 110, 103, 116, 104]⟩ : ByteArray), .string t312, .string (⟨#[116, 114, 97, 110, 115, 102, 101, 114, 45, 101, 110, 99, 111, 100, 105, 110, 103]⟩ : ByteArray), .string (⟨#[99, 104, 117, 110, 107, 101, 100]⟩ : ByteArray)]) (ok := fun _ => True) (okp := fun _ => True) ?hr ?hp (fun _ hk => hk) trivial (Below.refl _ _) (Nat.le_refl _) (by simp) ?_; (case hd => rfl); (case hg => rfl); (case hr => (go_simp; done)); (case hp => exact (Reps.c2 (show Kd.M k45 _ _ _ (⟨(⟨#[99, 111, 110, 116, 101, 110, 116, 45, 108, 101, 110, 103, 116, 104]⟩ : ByteArray), t312⟩ : S45) [.string (⟨#[99, 111, 110, 116, 101, 110, 116, 45, 108, 101, 110, 103, 116, 104]⟩ : ByteArray), .string t312] from (k45_mkM _ _ _ (⟨(⟨#[99, 111, 110, 116, 101, 110, 116, 45, 108, 101, 110, 103, 116, 104]⟩ : ByteArray), t312⟩ : S45) )) (Reps.c2 (show Kd.M k45 _ _ _ (⟨(⟨#[116, 114, 97, 110, 115, 102, 101, 114, 45, 101, 110, 99, 111, 100, 105, 110, 103]⟩ : ByteArray), (⟨#[99, 104, 117, 110, 107, 101, 100]⟩ : ByteArray)⟩ : S45) [.string (⟨#[116, 114, 97, 110, 115, 102, 101, 114, 45, 101, 110, 99, 111, 100, 105, 110, 103]⟩ : ByteArray), .string (⟨#[99, 104, 117, 110, 107, 101, 100]⟩ : ByteArray)] from (k45_mkM _ _ _ (⟨(⟨#[116, 114, 97, 110, 115, 102, 101, 114, 45, 101, 110, 99, 111, 100, 105, 110, 103]⟩ : ByteArray), (⟨#[99, 104, 117, 110, 107, 101, 100]⟩ : ByteArray)⟩ : S45) )) (Reps.none _ _)))); intro v314 w31 ho32 hb hg_ hnew_; clear hg_ hnew_; (rw [← Ny313.out] at ho32); have n0_ := Aside0.mk (Kd.R_below (by (with_reducible repeat (first | apply Kd.R_alloc | apply Kd.R_drewN | apply Kd.R_drew )); exact HO299.out) hb); have n1_ := Aside0.mk (Kd.R_elder' (by (with_reducible repeat (first | apply Kd.R_alloc | apply Kd.R_drewN | apply Kd.R_drew )); exact HO306.out) (Kd.R_base ho32) hb); have n2_ := Aside0.mk (Kd.R_lower (Kd.R_new' ho32 (Kd.R_lt (by (with_reducible repeat (first | apply Kd.R_alloc | apply Kd.R_drewN | apply Kd.R_drew )); exact HO306.out))) (below_size (by repeat ((with_reducible exact HB.out))))); have n3_ := Aside0.mk (blk_below (g := gb307) (o := .cells #[.string (⟨#[120]⟩ : ByteArray), .slice Ao24 y304.length co24] 48 (0, 0)) (by (with_reducible repeat (first | refine blk_drewN ?_ _ | refine blk_drew ?_ | refine blk_alloc ?_ _ )); exact BK307.out) hb); have n4_ := Aside0.mk (below_step (by repeat ((with_reducible exact HB.out))) hb); clear HO299; clear HO306; clear BK307; clear HB; have HO299 := n0_; have HO306 := n1_; have HO315 := n2_; have BK307 := n3_; have HB := n4_; clear n0_ n1_ n2_ n3_ n4_; clear hb ho32; obtain ⟨Ao33, co33, eo33⟩ := Kd.R_slice HO315.out; subst eo33) | ((with_reducible refine gate_dst (N := 10) rfl ?_); refine box_event ?hg (N := 10) ?hd (cs := #[.string (⟨#[]⟩ : ByteArray), .slice none 0 0]) (t := 48) ?hr ?_; (case hd => rfl); (case hg => rfl); (case hr => (go_simp; done)); intro gb316 hg w34 hbox hb; have n0_ := Aside0.mk (Kd.R_below (by (with_reducible repeat (first | apply Kd.R_alloc | apply Kd.R_drewN | apply Kd.R_drew )); exact HO299.out) hb); have n1_ := Aside0.mk (Kd.R_below (by (with_reducible repeat (first | apply Kd.R_alloc | apply Kd.R_drewN | apply Kd.R_drew )); exact HO306.out) hb); have n2_ := Aside0.mk (Kd.R_below (by (with_reducible repeat (first | apply Kd.R_alloc | apply Kd.R_drewN | apply Kd.R_drew )); exact HO315.out) hb); have n3_ := Aside0.mk (blk_below (g := gb307) (o := .cells #[.string (⟨#[120]⟩ : ByteArray), .slice Ao24 y304.length co24] 48 (0, 0)) (by (with_reducible repeat (first | refine blk_drewN ?_ _ | refine blk_drew ?_ | refine blk_alloc ?_ _ )); exact BK307.out) hb); have n4_ := Aside0.mk (below_step (by repeat ((with_reducible exact HB.out))) hb); have n5_ := Aside0.mk (hbox); have n6_ := Aside0.mk ((by rw [hg]; exact (below_size (by repeat ((with_reducible exact HB.out)))) : w.heap.size ≤ gb316)); have n7_ := Aside0.mk ((by rw [hg]; exact (below_size (by repeat ((with_reducible exact HB.out)))) : w.heap.size ≤ gb316)); have n8_ := Aside0.mk ((by rw [hg]; exact Nat.ne_of_lt (blk_lt (g := gb307) (o := .cells #[.string (⟨#[120]⟩ : ByteArray), .slice Ao24 y304.length co24] 48 (0, 0)) (by (with_reducible repeat (first | refine blk_drewN ?_ _ | refine blk_drew ?_ | refine blk_alloc ?_ _ )); exact BK307.out)) : gb307 ≠ gb316)); have n9_ := Aside0.mk ((by rw [hg]; exact Nat.ne_of_gt (blk_lt (g := gb307) (o := .cells #[.string (⟨#[120]⟩ : ByteArray), .slice Ao24 y304.length co24] 48 (0, 0)) (by (with_reducible repeat (first | refine blk_drewN ?_ _ | refine blk_drew ?_ | refine blk_alloc ?_ _ )); exact BK307.out)) : gb316 ≠ gb307)); clear HO299; clear HO306; clear HO315; clear BK307; clear HB; have HO299 := n0_; have HO306 := n1_; have HO315 := n2_; have BK307 := n3_; have HB := n4_; have BK316 := n5_; have GW316 := n6_; have GE316 := n7_; have NB307_316 := n8_; have NB316_307 := n9_; clear n0_ n1_ n2_ n3_ n4_ n5_ n6_ n7_ n8_ n9_; clear hb hbox hg; have hnb35 := NB316_307.out; have hnc35 := NB307_316.out; have hcz36_0 : w34.cell? ⟨gb316, 0, none⟩ = some (.string (⟨#[]⟩ : ByteArray)) := (blk_cell BK316.out 0).trans rfl; have hcz36_1 : w34.cell? ⟨gb316, 1, none⟩ = some (.slice none 0 0) := (blk_cell BK316.out 1).trans rfl; have hfz36_0 := blk_frozen BK316.out 0; have hfz36_1 := blk_frozen BK316.out 1) | ((with_reducible refine gate_callee (f := 24) rfl ?_); refine goesL_ (some 52) rfl rfl Try.func24 (by kernel_rfl) rfl #[.agg #[.string (⟨#[120]⟩ : ByteArray), .slice Ao33 y313.length co33], .string (⟨#[48, 13, 10, 13, 10]⟩ : ByteArray)] rfl (by (try simp only [List.map_toArray, List.map_cons, List.map_nil]); rfl) ?_; (with_reducible refine (impl_BodyOf.calls k (⟨#[120]⟩ : ByteArray) _ _ y313 (⟨#[48, 13, 10, 13, 10]⟩ : ByteArray) t317 t318 t319 _ ?side1 ?side2 A13.out).mono ?_); (case side1 => refine (Kd.R_reads' (e := 45) (base := w.heap.size) (ok := fun k_ => (True ∧ some k_ ≠ (.slice Ao24 y304.length co24 : Value).ownBlock)) (n := y313.length) (c := co33) ?_).2.2; exact (by (with_reducible repeat (first | apply Kd.R_alloc | apply Kd.R_drewN | apply Kd.R_drew )); exact (Kd.R_mono (Kd.R_far (p := ⟨gb316, 1, none⟩) (Kd.R_far (p := ⟨gb316, 0, none⟩) (Kd.R_types HO315.out BK316.out (by decide)) (fun _ hk => hk.2) (.string (⟨#[120]⟩ : ByteArray))) (fun _ hk => hk.2) (.slice Ao33 y313.length co33)) (fun _ h_ => by exact h_.1)))); (case side2 => exact (Kd.R_reads' HO315.out).2.1); rintro e w37 ⟨rfl, hb⟩; refine ⟨_, rfl, ?_⟩; have n0_ := Aside0.mk (Kd.R_below (by (with_reducible repeat (first | apply Kd.R_alloc | apply Kd.R_drewN | apply Kd.R_drew )); exact (Kd.R_mono (Kd.R_far (p := ⟨gb316, 1, none⟩) (Kd.R_far (p := ⟨gb316, 0, none⟩) (Kd.R_types HO299.out BK316.out (by decide)) (fun _ hk => hk.2) (.string (⟨#[120]⟩ : ByteArray))) (fun _ hk => hk.2) (.slice Ao33 y313.length co33)) (fun _ h_ => by exact h_.1))) hb); have n1_ := Aside0.mk (Kd.R_below (by (with_reducible repeat (first | apply Kd.R_alloc | apply Kd.R_drewN | apply Kd.R_drew )); exact (Kd.R_mono (Kd.R_far (p := ⟨gb316, 1, none⟩) (Kd.R_far (p := ⟨gb316, 0, none⟩) (Kd.R_types HO306.out BK316.out (by decide)) (fun _ hk => hk.2) (.string (⟨#[120]⟩ : ByteArray))) (fun _ hk => hk.2) (.slice Ao33 y313.length co33)) (fun _ h_ => by exact h_.1))) hb); have n2_ := Aside0.mk (Kd.R_below (by (with_reducible repeat (first | apply Kd.R_alloc | apply Kd.R_drewN | apply Kd.R_drew )); exact (Kd.R_mono (Kd.R_far (p := ⟨gb316, 1, none⟩) (Kd.R_far (p := ⟨gb316, 0, none⟩) (Kd.R_types HO315.out BK316.out (by decide)) (fun _ hk => hk.2) (.string (⟨#[120]⟩ : ByteArray))) (fun _ hk => hk.2) (.slice Ao33 y313.length co33)) (fun _ h_ => by exact h_.1))) hb); have n3_ := Aside0.mk (blk_below (g := gb307) (o := .cells #[.string (⟨#[120]⟩ : ByteArray), .slice Ao24 y304.length co24] 48 (0, 0)) (by (with_reducible repeat (first | refine blk_drewN ?_ _ | refine blk_drew ?_ | refine blk_alloc ?_ _ )); refine blk_far ?_ NB307_316.out _; (with_reducible repeat (first | refine blk_drewN ?_ _ | refine blk_drew ?_ | refine blk_alloc ?_ _ )); refine blk_far ?_ NB307_316.out _; (with_reducible repeat (first | refine blk_drewN ?_ _ | refine blk_drew ?_ | refine blk_alloc ?_ _ )); exact BK307.out) hb); have n4_ := Aside0.mk (blk_below (g := gb316) (o := .cells #[.string (⟨#[120]⟩ : ByteArray), .slice Ao33 y313.length co33] 48 (0, 0)) (by (with_reducible repeat (first | refine blk_drewN ?_ _ | refine blk_drew ?_ | refine blk_alloc ?_ _ )); refine blk_put (cs := #[.string (⟨#[120]⟩ : ByteArray), .slice none 0 0]) ?_ 1 _ rfl; (with_reducible repeat (first | refine blk_drewN ?_ _ | refine blk_drew ?_ | refine blk_alloc ?_ _ )); refine blk_put (cs := #[.string (⟨#[]⟩ : ByteArray), .slice none 0 0]) ?_ 0 _ rfl; (with_reducible repeat (first | refine blk_drewN ?_ _ | refine blk_drew ?_ | refine blk_alloc ?_ _ )); exact BK316.out) hb); have n5_ := Aside0.mk (below_step (by repeat ((with_reducible first | exact HB.out | refine below_set ?_ GE316.out))) hb); clear HO299; clear HO306; clear HO315; clear BK307; clear BK316; clear HB; have HO299 := n0_; have HO306 := n1_; have HO315 := n2_; have BK307 := n3_; have BK316 := n4_; have HB := n5_; clear n0_ n1_ n2_ n3_ n4_ n5_; (try clear hb); (try clear hb2); (try clear hk); (try clear hi)) | ((with_reducible refine gate_callee (f := 24) rfl ?_); refine goesL_ (some 58) rfl rfl Try.func24 (by kernel_rfl) rfl #[.agg #[.string (⟨#[120]⟩ : ByteArray), .slice none 0 0], .string (⟨#[97, 98, 99]⟩ : ByteArray)] rfl (by (try simp only [List.map_toArray, List.map_cons, List.map_nil]); rfl) ?_; (refine (impl_BodyOf.calls k (⟨#[120]⟩ : ByteArray) _ _ ([] : List (S45)) (⟨#[97, 98, 99]⟩ : ByteArray) t320 t321 t322 _ ?side1 ?side2 A14.out).mono ?_); (case side1 => exact Kd.C_nil _ _); (case side2 => exact Nat.le_refl _); rintro e w38 ⟨rfl, hb⟩; refine ⟨_, rfl, ?_⟩; have n0_ := Aside0.mk (Kd.R_below (by (with_reducible repeat (first | apply Kd.R_alloc | apply Kd.R_drewN | apply Kd.R_drew )); exact HO299.out) hb); have n1_ := Aside0.mk (Kd.R_below (by (with_reducible repeat (first | apply Kd.R_alloc | apply Kd.R_drewN | apply Kd.R_drew )); exact HO306.out) hb); have n2_ := Aside0.mk (Kd.R_below (by (with_reducible repeat (first | apply Kd.R_alloc | apply Kd.R_drewN | apply Kd.R_drew )); exact HO315.out) hb); have n3_ := Aside0.mk (blk_below (g := gb307) (o := .cells #[.string (⟨#[120]⟩ : ByteArray), .slice Ao24 y304.length co24] 48 (0, 0)) (by (with_reducible repeat (first | refine blk_drewN ?_ _ | refine blk_drew ?_ | refine blk_alloc ?_ _ )); exact BK307.out) hb); have n4_ := Aside0.mk (blk_below (g := gb316) (o := .cells #[.string (⟨#[120]⟩ : ByteArray), .slice Ao33 y313.length co33] 48 (0, 0)) (by (with_reducible repeat (first | refine blk_drewN ?_ _ | refine blk_drew ?_ | refine blk_alloc ?_ _ )); exact BK316.out) hb); have n5_ := Aside0.mk (below_step (by repeat ((with_reducible exact HB.out))) hb); clear HO299; clear HO306; clear HO315; clear BK307; clear BK316; clear HB; have HO299 := n0_; have HO306 := n1_; have HO315 := n2_; have BK307 := n3_; have BK316 := n4_; have HB := n5_; clear n0_ n1_ n2_ n3_ n4_ n5_; (try clear hb); (try clear hb2); (try clear hk); (try clear hi)))
              go_ret
              exact ⟨by rfl, by repeat ((with_reducible exact HB.out))⟩
            · rw [if_neg c17] at H
              exact absurd H (by simp)
          · rw [if_neg c16] at H
            exact absurd H (by simp)
        · rw [if_neg c15] at H
          exact absurd H (by simp)
      · rw [if_neg c7] at H
        exact absurd H (by simp)
    · rw [if_neg c6] at H
      exact absurd H (by simp)

/-- THE ONE PURE STATEMENT of laws_FnSmuggled: yours. -/
def laws_FnSmuggled.Pure : Prop := ∀ (l0 : List Int), l0.length ≤ maxLen → l0.length * 1 ≤ 140737488351232 → (∀ x ∈ l0, (Lit.int .u8 x).wf = true) → ∃ k, laws_FnSmuggled.f k l0 = some true
theorem laws_FnSmuggled.walk (P : laws_FnSmuggled.Pure) (a0 : Option Addr) (len0 cap0 : Nat) (z0 : List Int) (w : World) (w0 : (a0 = none ∧ len0 = 0 ∧ cap0 = 0 ∧ z0 = []) ∨ ∃ x, a0 = some x ∧ len0 ≤ cap0 ∧ cap0 ≤ maxLen ∧ z0.length = cap0 ∧ (∀ i, i < z0.length → w.cell? (x.add i) = some (.int .u8 (z0.getD i 0))) ∧ ∀ n ∈ z0, (Lit.int .u8 n).wf = true) (y0 : len0 * 1 ≤ 140737488351232) :
    Calls Try.prog 7 #[.slice a0 len0 cap0] w fun e w' => e = .returned (.bool true) ∧ Below w.heap.size w w' := by
  obtain ⟨l0, rfl, hr0, hm0, hw0, hc0⟩ := ReadsInt.ofRowC w0
  obtain ⟨k, h⟩ := P l0 hm0 y0 hw0
  refine (laws_FnSmuggled.calls k _ _ l0 true w (Kd.C_of_reads (d := (0 : Int)) (h1 := fun _ => rfl) hr0) hc0 h).mono ?_
  rintro e w' ⟨rfl, hd⟩
  exact ⟨rfl, hd⟩

end Go.Proofs.Ythjigecaojaalaa.Q
