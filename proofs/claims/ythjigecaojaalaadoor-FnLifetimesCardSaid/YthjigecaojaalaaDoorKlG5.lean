import Derived.Test.YthjigecaojaalaaDoorKlB0
import Derived.Test.YthjigecaojaalaaDoorKlG14
import Derived.Test.YthjigecaojaalaaDoorKlG16
import Derived.Test.YthjigecaojaalaaDoorKlG17
import Derived.Test.YthjigecaojaalaaDoorKlG34
import Derived.Test.YthjigecaojaalaaDoorKlG43
import Derived.Test.YthjigecaojaalaaDoorKlG46
import Derived.Test.YthjigecaojaalaaDoorKlWords
namespace Go.Proofs.YthjigecaojaalaaDoor.Q
open Go.RowKit Go.Proofs.YthjigecaojaalaaDoorW.PrintWords Go.Proofs.YthjigecaojaalaaDoorW.PrintLast Go.Proofs.YthjigecaojaalaaDoorW.PrintMore
attribute [local go_sem] max2_int min2_int max_two min_two max_three min_three max_four min_four   -- for this text's walks alone
set_option linter.unusedVariables false
set_option linter.unusedSimpArgs false
def laws_FnLifetimes.f (k : Nat) (l0 : List Int) : Option (Bool) := (laws_big.f l0).bind fun t280 => (if t280 = true then (some true) else ((spec_DrawControl.f k l0).bind fun bt281 => ((impl_Lifetime.f k bt281.1 bt281.2.1 bt281.2.2.1 bt281.2.2.2).bind fun t286 => ((spec_DrawPlaces.f k l0).bind fun t287 => (if 0 < (t287.length : Int) then ((spec_Decimal.f k (rd t287 0)).bind fun t291 => (if 8 + t291.size ≤ 9223372036854775807 then ((impl_ControlOf.f k ((⟨#[109, 97, 120, 45, 97, 103, 101, 61]⟩ : ByteArray) ++ t291)).bind fun bt292 => ((spec_Decimal.f k (rd t287 0)).bind fun t298 => (if 8 + t298.size ≤ 9223372036854775807 then (if ((⟨#[109, 97, 120, 45, 97, 103, 101, 61]⟩ : ByteArray) ++ t298).size + 11 ≤ 9223372036854775807 then (if 1 < (t287.length : Int) then ((spec_Decimal.f k (rd t287 1)).bind fun t300 => (if (((⟨#[109, 97, 120, 45, 97, 103, 101, 61]⟩ : ByteArray) ++ t298) ++ (⟨#[44, 32, 115, 45, 109, 97, 120, 97, 103, 101, 61]⟩ : ByteArray)).size + t300.size ≤ 9223372036854775807 then ((impl_ControlOf.f k ((((⟨#[109, 97, 120, 45, 97, 103, 101, 61]⟩ : ByteArray) ++ t298) ++ (⟨#[44, 32, 115, 45, 109, 97, 120, 97, 103, 101, 61]⟩ : ByteArray)) ++ t300)).bind fun bt301 => ((spec_Decimal.f k (rd t287 0)).bind fun t307 => (if 18 + t307.size ≤ 9223372036854775807 then ((impl_ControlOf.f k ((⟨#[110, 111, 45, 99, 97, 99, 104, 101, 44, 32, 109, 97, 120, 45, 97, 103, 101, 61]⟩ : ByteArray) ++ t307)).bind fun bt308 => ((spec_Lifetime.f k bt281.1 bt281.2.1 bt281.2.2.1 bt281.2.2.2).bind fun t313 => (if t286 = t313 then (if t286 ≥ 0 then (if bt281.1 = true then (if t286 = 0 then ((impl_Lifetime.f k bt292.1 bt292.2.1 bt292.2.2.1 bt292.2.2.2).bind fun t314 => (if t314 = (rd t287 0) then ((impl_Lifetime.f k bt301.1 bt301.2.1 bt301.2.2.1 bt301.2.2.2).bind fun t316 => (if t316 = (rd t287 1) then ((impl_Lifetime.f k bt308.1 bt308.2.1 bt308.2.2.1 bt308.2.2.2).bind fun t318 => (some (t318 == 0))) else (none))) else (none))) else (none)) else (if bt281.2.1 = true then (if t286 = 0 then ((impl_Lifetime.f k bt292.1 bt292.2.1 bt292.2.2.1 bt292.2.2.2).bind fun t319 => (if t319 = (rd t287 0) then ((impl_Lifetime.f k bt301.1 bt301.2.1 bt301.2.2.1 bt301.2.2.2).bind fun t321 => (if t321 = (rd t287 1) then ((impl_Lifetime.f k bt308.1 bt308.2.1 bt308.2.2.1 bt308.2.2.2).bind fun t323 => (some (t323 == 0))) else (none))) else (none))) else (none)) else ((impl_Lifetime.f k bt292.1 bt292.2.1 bt292.2.2.1 bt292.2.2.2).bind fun t324 => (if t324 = (rd t287 0) then ((impl_Lifetime.f k bt301.1 bt301.2.1 bt301.2.2.1 bt301.2.2.2).bind fun t326 => (if t326 = (rd t287 1) then ((impl_Lifetime.f k bt308.1 bt308.2.1 bt308.2.2.1 bt308.2.2.2).bind fun t328 => (some (t328 == 0))) else (none))) else (none))))) else (none)) else (none)))) else (none)))) else (none))) else (none)) else (none)) else (none)))) else (none))) else (none))))))
def laws_FnLifetimes.T7 : Bool × List (List Nat × List Nat) := (true, [([], []), ([0], [0]), ([1], [1]), ([2], [2]), ([3], [3]), ([4], [4]), ([], []), ([6], [6]), ([7], [7]), ([8, 3], [8]), ([5, 9], [5, 9]), ([10, 9], [10]), ([], []), ([12, 11, 11, 0, 1, 2, 3, 4, 5, 6, 7, 8, 9, 10, 11, 12], [11, 12])])
def laws_FnLifetimes.B7 : List Nat := [0, 1, 3, 7, 15, 31, 0, 64, 192, 463, 1023, 2047, 0, 8191]
theorem laws_FnLifetimes.tab7 : rtab .any (opsOf Tryd.f5 7) = laws_FnLifetimes.T7 := by kernel_rfl
theorem laws_FnLifetimes.bits7 : waitsOk laws_FnLifetimes.T7.2 laws_FnLifetimes.B7 = true := by kernel_rfl
def laws_FnLifetimes.T9 : Bool × List (List Nat × List Nat) := (true, [([], []), ([], []), ([1], [1]), ([0, 2], [0, 2]), ([3, 2], [3]), ([4], [4]), ([5, 4], [4, 5]), ([4, 6], [4, 6]), ([7, 4], [7]), ([8], [8]), ([9, 8], [8, 9]), ([10, 8], [8, 10]), ([11, 8, 8], [8, 11]), ([12], [12]), ([13, 12], [12, 13]), ([14, 12], [12, 14]), ([12, 15, 8], [8, 12, 15]), ([16, 12, 8], [8, 16]), ([17], [17]), ([18, 17], [17, 18]), ([17, 19, 8], [8, 17, 19]), ([8, 20], [8, 20]), ([21, 17], [21]), ([22], [22]), ([23, 22, 22], [22, 23]), ([22], [22]), ([25, 22], [22, 25]), ([26, 22], [22, 26]), ([24, 27, 22], [22, 24, 27]), ([22, 28], [22, 28]), ([29, 24], [29]), ([30], [30]), ([31, 30, 30], [30, 31]), ([30], [30]), ([33, 30], [30, 33]), ([34, 30], [30, 34]), ([32, 35, 30], [30, 32, 35]), ([30, 36], [30, 36]), ([37, 32], [37]), ([38], [38]), ([39, 38, 38], [38, 39]), ([40, 38], [38, 40]), ([38, 41], [38, 41]), ([42, 40, 0, 1, 2, 3, 4, 5, 6, 7, 8, 9, 10, 11, 12, 13, 14, 15, 16, 17, 18, 19, 20, 21, 22, 23, 24, 25, 26, 27, 28, 29, 30, 31, 32, 33, 34, 35, 36, 37, 38, 39, 40, 41, 42], [42])])
def laws_FnLifetimes.B9 : List Nat := [0, 0, 2, 7, 15, 31, 63, 127, 255, 511, 1023, 2047, 4095, 8191, 16383, 32767, 65535, 131071, 262143, 524287, 1048575, 2097151, 4194303, 8388607, 16777215, 8388607, 41943039, 109051903, 268435455, 536870911, 1073741823, 2147483647, 4294967295, 2147483647, 10737418239, 27917287423, 68719476735, 137438953471, 274877906943, 549755813887, 1099511627775, 2199023255551, 4398046511103, 8796093022207]
theorem laws_FnLifetimes.tab9 : rtab .any (opsOf Tryd.f5 9) = laws_FnLifetimes.T9 := by kernel_rfl
theorem laws_FnLifetimes.bits9 : waitsOk laws_FnLifetimes.T9.2 laws_FnLifetimes.B9 = true := by kernel_rfl
set_option maxHeartbeats 8000000 in
set_option maxRecDepth 100000 in
theorem laws_FnLifetimes.calls (k : Nat) (A0 : Option Addr) (c0 : Nat) (l0 : List Int) (r : Bool) (w : World) (hr0 : Kd.C (Kd.int .u8) w A0 l0.length l0) (hc0 : l0.length ≤ c0) (hsh : Shp w) (h : laws_FnLifetimes.f k l0 = some r) :
    Calls Tryd.prog 5 #[.slice A0 l0.length c0] w fun e w' => e = .returned (.bool r) ∧ Below w.heap.size w w' := by
  have hu25 := Tryd.underlying25
  have HSH := Aside0.mk hsh
  clear hsh
  have HR0 := Aside0.mk hr0
  have HC0 := Aside0.mk hc0
  clear hr0 hc0
  have HB := Aside0.mk (Below.refl w.heap.size w)
  have H : ((laws_big.f l0).bind fun t280 => (if t280 = true then (some true) else ((spec_DrawControl.f k l0).bind fun bt281 => ((impl_Lifetime.f k bt281.1 bt281.2.1 bt281.2.2.1 bt281.2.2.2).bind fun t286 => ((spec_DrawPlaces.f k l0).bind fun t287 => (if 0 < (t287.length : Int) then ((spec_Decimal.f k (rd t287 0)).bind fun t291 => (if 8 + t291.size ≤ 9223372036854775807 then ((impl_ControlOf.f k ((⟨#[109, 97, 120, 45, 97, 103, 101, 61]⟩ : ByteArray) ++ t291)).bind fun bt292 => ((spec_Decimal.f k (rd t287 0)).bind fun t298 => (if 8 + t298.size ≤ 9223372036854775807 then (if ((⟨#[109, 97, 120, 45, 97, 103, 101, 61]⟩ : ByteArray) ++ t298).size + 11 ≤ 9223372036854775807 then (if 1 < (t287.length : Int) then ((spec_Decimal.f k (rd t287 1)).bind fun t300 => (if (((⟨#[109, 97, 120, 45, 97, 103, 101, 61]⟩ : ByteArray) ++ t298) ++ (⟨#[44, 32, 115, 45, 109, 97, 120, 97, 103, 101, 61]⟩ : ByteArray)).size + t300.size ≤ 9223372036854775807 then ((impl_ControlOf.f k ((((⟨#[109, 97, 120, 45, 97, 103, 101, 61]⟩ : ByteArray) ++ t298) ++ (⟨#[44, 32, 115, 45, 109, 97, 120, 97, 103, 101, 61]⟩ : ByteArray)) ++ t300)).bind fun bt301 => ((spec_Decimal.f k (rd t287 0)).bind fun t307 => (if 18 + t307.size ≤ 9223372036854775807 then ((impl_ControlOf.f k ((⟨#[110, 111, 45, 99, 97, 99, 104, 101, 44, 32, 109, 97, 120, 45, 97, 103, 101, 61]⟩ : ByteArray) ++ t307)).bind fun bt308 => ((spec_Lifetime.f k bt281.1 bt281.2.1 bt281.2.2.1 bt281.2.2.2).bind fun t313 => (if t286 = t313 then (if t286 ≥ 0 then (if bt281.1 = true then (if t286 = 0 then ((impl_Lifetime.f k bt292.1 bt292.2.1 bt292.2.2.1 bt292.2.2.2).bind fun t314 => (if t314 = (rd t287 0) then ((impl_Lifetime.f k bt301.1 bt301.2.1 bt301.2.2.1 bt301.2.2.2).bind fun t316 => (if t316 = (rd t287 1) then ((impl_Lifetime.f k bt308.1 bt308.2.1 bt308.2.2.1 bt308.2.2.2).bind fun t318 => (some (t318 == 0))) else (none))) else (none))) else (none)) else (if bt281.2.1 = true then (if t286 = 0 then ((impl_Lifetime.f k bt292.1 bt292.2.1 bt292.2.2.1 bt292.2.2.2).bind fun t319 => (if t319 = (rd t287 0) then ((impl_Lifetime.f k bt301.1 bt301.2.1 bt301.2.2.1 bt301.2.2.2).bind fun t321 => (if t321 = (rd t287 1) then ((impl_Lifetime.f k bt308.1 bt308.2.1 bt308.2.2.1 bt308.2.2.2).bind fun t323 => (some (t323 == 0))) else (none))) else (none))) else (none)) else ((impl_Lifetime.f k bt292.1 bt292.2.1 bt292.2.2.1 bt292.2.2.2).bind fun t324 => (if t324 = (rd t287 0) then ((impl_Lifetime.f k bt301.1 bt301.2.1 bt301.2.2.1 bt301.2.2.2).bind fun t326 => (if t326 = (rd t287 1) then ((impl_Lifetime.f k bt308.1 bt308.2.1 bt308.2.2.1 bt308.2.2.2).bind fun t328 => (some (t328 == 0))) else (none))) else (none))))) else (none)) else (none)))) else (none)))) else (none))) else (none)) else (none)) else (none)))) else (none))) else (none))))))) = some r := h
  clear h
  replace H := Option.bind_eq_some_iff.mp H
  obtain ⟨t280, A20, H⟩ := H
  replace H : (if t280 = true then (some true) else ((spec_DrawControl.f k l0).bind fun bt281 => ((impl_Lifetime.f k bt281.1 bt281.2.1 bt281.2.2.1 bt281.2.2.2).bind fun t286 => ((spec_DrawPlaces.f k l0).bind fun t287 => (if 0 < (t287.length : Int) then ((spec_Decimal.f k (rd t287 0)).bind fun t291 => (if 8 + t291.size ≤ 9223372036854775807 then ((impl_ControlOf.f k ((⟨#[109, 97, 120, 45, 97, 103, 101, 61]⟩ : ByteArray) ++ t291)).bind fun bt292 => ((spec_Decimal.f k (rd t287 0)).bind fun t298 => (if 8 + t298.size ≤ 9223372036854775807 then (if ((⟨#[109, 97, 120, 45, 97, 103, 101, 61]⟩ : ByteArray) ++ t298).size + 11 ≤ 9223372036854775807 then (if 1 < (t287.length : Int) then ((spec_Decimal.f k (rd t287 1)).bind fun t300 => (if (((⟨#[109, 97, 120, 45, 97, 103, 101, 61]⟩ : ByteArray) ++ t298) ++ (⟨#[44, 32, 115, 45, 109, 97, 120, 97, 103, 101, 61]⟩ : ByteArray)).size + t300.size ≤ 9223372036854775807 then ((impl_ControlOf.f k ((((⟨#[109, 97, 120, 45, 97, 103, 101, 61]⟩ : ByteArray) ++ t298) ++ (⟨#[44, 32, 115, 45, 109, 97, 120, 97, 103, 101, 61]⟩ : ByteArray)) ++ t300)).bind fun bt301 => ((spec_Decimal.f k (rd t287 0)).bind fun t307 => (if 18 + t307.size ≤ 9223372036854775807 then ((impl_ControlOf.f k ((⟨#[110, 111, 45, 99, 97, 99, 104, 101, 44, 32, 109, 97, 120, 45, 97, 103, 101, 61]⟩ : ByteArray) ++ t307)).bind fun bt308 => ((spec_Lifetime.f k bt281.1 bt281.2.1 bt281.2.2.1 bt281.2.2.2).bind fun t313 => (if t286 = t313 then (if t286 ≥ 0 then (if bt281.1 = true then (if t286 = 0 then ((impl_Lifetime.f k bt292.1 bt292.2.1 bt292.2.2.1 bt292.2.2.2).bind fun t314 => (if t314 = (rd t287 0) then ((impl_Lifetime.f k bt301.1 bt301.2.1 bt301.2.2.1 bt301.2.2.2).bind fun t316 => (if t316 = (rd t287 1) then ((impl_Lifetime.f k bt308.1 bt308.2.1 bt308.2.2.1 bt308.2.2.2).bind fun t318 => (some (t318 == 0))) else (none))) else (none))) else (none)) else (if bt281.2.1 = true then (if t286 = 0 then ((impl_Lifetime.f k bt292.1 bt292.2.1 bt292.2.2.1 bt292.2.2.2).bind fun t319 => (if t319 = (rd t287 0) then ((impl_Lifetime.f k bt301.1 bt301.2.1 bt301.2.2.1 bt301.2.2.2).bind fun t321 => (if t321 = (rd t287 1) then ((impl_Lifetime.f k bt308.1 bt308.2.1 bt308.2.2.1 bt308.2.2.2).bind fun t323 => (some (t323 == 0))) else (none))) else (none))) else (none)) else ((impl_Lifetime.f k bt292.1 bt292.2.1 bt292.2.2.1 bt292.2.2.2).bind fun t324 => (if t324 = (rd t287 0) then ((impl_Lifetime.f k bt301.1 bt301.2.1 bt301.2.2.1 bt301.2.2.2).bind fun t326 => (if t326 = (rd t287 1) then ((impl_Lifetime.f k bt308.1 bt308.2.1 bt308.2.2.1 bt308.2.2.2).bind fun t328 => (some (t328 == 0))) else (none))) else (none))))) else (none)) else (none)))) else (none)))) else (none))) else (none)) else (none)) else (none)))) else (none))) else (none)))))) = some r := H
  have A2 := Aside0.mk A20
  clear A20
  have HS3 := Aside0.mk H
  clear H
  go_enter Tryd.func5, Tryd.ntmps5
  go_upto_if 10 with (((with_reducible refine gate_callee (f := 14) rfl ?_); refine goesL_ (some 10) rfl rfl Tryd.func14 (by kernel_rfl) rfl #[.slice A0 l0.length c0] rfl (by (try simp only [List.map_toArray, List.map_cons, List.map_nil]); rfl) ?_; (with_reducible refine (laws_big.calls _ _ l0 t280 _ ?side1 ?side2 A2.out).mono ?_); (case side1 => repeat (exact HR0.out)); (case side2 => exact HC0.out); rintro e w' ⟨rfl, rfl⟩; refine ⟨_, rfl, ?_⟩))
  (try simp only [Act.put, List.setIfInBounds_toArray, List.set_cons_zero, List.set_cons_succ])
  have H := HS3.out
  clear HS3
  by_cases c4 : t280 = true
  · subst c4
    have H1 : (some true) = some r := by rw [if_pos rfl] at H; exact H
    clear H
    have H := H1
    clear H1
    obtain rfl := Option.some.inj H
    go_wp2
    go_ret
    exact ⟨by rfl, by repeat ((with_reducible exact HB.out))⟩
  replace c4 := Bool.eq_false_iff.mpr c4
  subst c4
  have H1 : ((spec_DrawControl.f k l0).bind fun bt281 => ((impl_Lifetime.f k bt281.1 bt281.2.1 bt281.2.2.1 bt281.2.2.2).bind fun t286 => ((spec_DrawPlaces.f k l0).bind fun t287 => (if 0 < (t287.length : Int) then ((spec_Decimal.f k (rd t287 0)).bind fun t291 => (if 8 + t291.size ≤ 9223372036854775807 then ((impl_ControlOf.f k ((⟨#[109, 97, 120, 45, 97, 103, 101, 61]⟩ : ByteArray) ++ t291)).bind fun bt292 => ((spec_Decimal.f k (rd t287 0)).bind fun t298 => (if 8 + t298.size ≤ 9223372036854775807 then (if ((⟨#[109, 97, 120, 45, 97, 103, 101, 61]⟩ : ByteArray) ++ t298).size + 11 ≤ 9223372036854775807 then (if 1 < (t287.length : Int) then ((spec_Decimal.f k (rd t287 1)).bind fun t300 => (if (((⟨#[109, 97, 120, 45, 97, 103, 101, 61]⟩ : ByteArray) ++ t298) ++ (⟨#[44, 32, 115, 45, 109, 97, 120, 97, 103, 101, 61]⟩ : ByteArray)).size + t300.size ≤ 9223372036854775807 then ((impl_ControlOf.f k ((((⟨#[109, 97, 120, 45, 97, 103, 101, 61]⟩ : ByteArray) ++ t298) ++ (⟨#[44, 32, 115, 45, 109, 97, 120, 97, 103, 101, 61]⟩ : ByteArray)) ++ t300)).bind fun bt301 => ((spec_Decimal.f k (rd t287 0)).bind fun t307 => (if 18 + t307.size ≤ 9223372036854775807 then ((impl_ControlOf.f k ((⟨#[110, 111, 45, 99, 97, 99, 104, 101, 44, 32, 109, 97, 120, 45, 97, 103, 101, 61]⟩ : ByteArray) ++ t307)).bind fun bt308 => ((spec_Lifetime.f k bt281.1 bt281.2.1 bt281.2.2.1 bt281.2.2.2).bind fun t313 => (if t286 = t313 then (if t286 ≥ 0 then (if bt281.1 = true then (if t286 = 0 then ((impl_Lifetime.f k bt292.1 bt292.2.1 bt292.2.2.1 bt292.2.2.2).bind fun t314 => (if t314 = (rd t287 0) then ((impl_Lifetime.f k bt301.1 bt301.2.1 bt301.2.2.1 bt301.2.2.2).bind fun t316 => (if t316 = (rd t287 1) then ((impl_Lifetime.f k bt308.1 bt308.2.1 bt308.2.2.1 bt308.2.2.2).bind fun t318 => (some (t318 == 0))) else (none))) else (none))) else (none)) else (if bt281.2.1 = true then (if t286 = 0 then ((impl_Lifetime.f k bt292.1 bt292.2.1 bt292.2.2.1 bt292.2.2.2).bind fun t319 => (if t319 = (rd t287 0) then ((impl_Lifetime.f k bt301.1 bt301.2.1 bt301.2.2.1 bt301.2.2.2).bind fun t321 => (if t321 = (rd t287 1) then ((impl_Lifetime.f k bt308.1 bt308.2.1 bt308.2.2.1 bt308.2.2.2).bind fun t323 => (some (t323 == 0))) else (none))) else (none))) else (none)) else ((impl_Lifetime.f k bt292.1 bt292.2.1 bt292.2.2.1 bt292.2.2.2).bind fun t324 => (if t324 = (rd t287 0) then ((impl_Lifetime.f k bt301.1 bt301.2.1 bt301.2.2.1 bt301.2.2.2).bind fun t326 => (if t326 = (rd t287 1) then ((impl_Lifetime.f k bt308.1 bt308.2.1 bt308.2.2.1 bt308.2.2.2).bind fun t328 => (some (t328 == 0))) else (none))) else (none))))) else (none)) else (none)))) else (none)))) else (none))) else (none)) else (none)) else (none)))) else (none))) else (none))))) = some r := by rw [if_neg (show ¬ (false = true) by decide)] at H; exact H
  clear H
  have H := H1
  clear H1
  replace H := Option.bind_eq_some_iff.mp H
  obtain ⟨⟨t281, t282, t283, t284⟩, A50, H⟩ := H
  replace H : ((impl_Lifetime.f k t281 t282 t283 t284).bind fun t286 => ((spec_DrawPlaces.f k l0).bind fun t287 => (if 0 < (t287.length : Int) then ((spec_Decimal.f k (rd t287 0)).bind fun t291 => (if 8 + t291.size ≤ 9223372036854775807 then ((impl_ControlOf.f k ((⟨#[109, 97, 120, 45, 97, 103, 101, 61]⟩ : ByteArray) ++ t291)).bind fun bt292 => ((spec_Decimal.f k (rd t287 0)).bind fun t298 => (if 8 + t298.size ≤ 9223372036854775807 then (if ((⟨#[109, 97, 120, 45, 97, 103, 101, 61]⟩ : ByteArray) ++ t298).size + 11 ≤ 9223372036854775807 then (if 1 < (t287.length : Int) then ((spec_Decimal.f k (rd t287 1)).bind fun t300 => (if (((⟨#[109, 97, 120, 45, 97, 103, 101, 61]⟩ : ByteArray) ++ t298) ++ (⟨#[44, 32, 115, 45, 109, 97, 120, 97, 103, 101, 61]⟩ : ByteArray)).size + t300.size ≤ 9223372036854775807 then ((impl_ControlOf.f k ((((⟨#[109, 97, 120, 45, 97, 103, 101, 61]⟩ : ByteArray) ++ t298) ++ (⟨#[44, 32, 115, 45, 109, 97, 120, 97, 103, 101, 61]⟩ : ByteArray)) ++ t300)).bind fun bt301 => ((spec_Decimal.f k (rd t287 0)).bind fun t307 => (if 18 + t307.size ≤ 9223372036854775807 then ((impl_ControlOf.f k ((⟨#[110, 111, 45, 99, 97, 99, 104, 101, 44, 32, 109, 97, 120, 45, 97, 103, 101, 61]⟩ : ByteArray) ++ t307)).bind fun bt308 => ((spec_Lifetime.f k t281 t282 t283 t284).bind fun t313 => (if t286 = t313 then (if t286 ≥ 0 then (if t281 = true then (if t286 = 0 then ((impl_Lifetime.f k bt292.1 bt292.2.1 bt292.2.2.1 bt292.2.2.2).bind fun t314 => (if t314 = (rd t287 0) then ((impl_Lifetime.f k bt301.1 bt301.2.1 bt301.2.2.1 bt301.2.2.2).bind fun t316 => (if t316 = (rd t287 1) then ((impl_Lifetime.f k bt308.1 bt308.2.1 bt308.2.2.1 bt308.2.2.2).bind fun t318 => (some (t318 == 0))) else (none))) else (none))) else (none)) else (if t282 = true then (if t286 = 0 then ((impl_Lifetime.f k bt292.1 bt292.2.1 bt292.2.2.1 bt292.2.2.2).bind fun t319 => (if t319 = (rd t287 0) then ((impl_Lifetime.f k bt301.1 bt301.2.1 bt301.2.2.1 bt301.2.2.2).bind fun t321 => (if t321 = (rd t287 1) then ((impl_Lifetime.f k bt308.1 bt308.2.1 bt308.2.2.1 bt308.2.2.2).bind fun t323 => (some (t323 == 0))) else (none))) else (none))) else (none)) else ((impl_Lifetime.f k bt292.1 bt292.2.1 bt292.2.2.1 bt292.2.2.2).bind fun t324 => (if t324 = (rd t287 0) then ((impl_Lifetime.f k bt301.1 bt301.2.1 bt301.2.2.1 bt301.2.2.2).bind fun t326 => (if t326 = (rd t287 1) then ((impl_Lifetime.f k bt308.1 bt308.2.1 bt308.2.2.1 bt308.2.2.2).bind fun t328 => (some (t328 == 0))) else (none))) else (none))))) else (none)) else (none)))) else (none)))) else (none))) else (none)) else (none)) else (none)))) else (none))) else (none)))) = some r := H
  have A5 := Aside0.mk A50
  clear A50
  replace H := Option.bind_eq_some_iff.mp H
  obtain ⟨t286, A60, H⟩ := H
  replace H : ((spec_DrawPlaces.f k l0).bind fun t287 => (if 0 < (t287.length : Int) then ((spec_Decimal.f k (rd t287 0)).bind fun t291 => (if 8 + t291.size ≤ 9223372036854775807 then ((impl_ControlOf.f k ((⟨#[109, 97, 120, 45, 97, 103, 101, 61]⟩ : ByteArray) ++ t291)).bind fun bt292 => ((spec_Decimal.f k (rd t287 0)).bind fun t298 => (if 8 + t298.size ≤ 9223372036854775807 then (if ((⟨#[109, 97, 120, 45, 97, 103, 101, 61]⟩ : ByteArray) ++ t298).size + 11 ≤ 9223372036854775807 then (if 1 < (t287.length : Int) then ((spec_Decimal.f k (rd t287 1)).bind fun t300 => (if (((⟨#[109, 97, 120, 45, 97, 103, 101, 61]⟩ : ByteArray) ++ t298) ++ (⟨#[44, 32, 115, 45, 109, 97, 120, 97, 103, 101, 61]⟩ : ByteArray)).size + t300.size ≤ 9223372036854775807 then ((impl_ControlOf.f k ((((⟨#[109, 97, 120, 45, 97, 103, 101, 61]⟩ : ByteArray) ++ t298) ++ (⟨#[44, 32, 115, 45, 109, 97, 120, 97, 103, 101, 61]⟩ : ByteArray)) ++ t300)).bind fun bt301 => ((spec_Decimal.f k (rd t287 0)).bind fun t307 => (if 18 + t307.size ≤ 9223372036854775807 then ((impl_ControlOf.f k ((⟨#[110, 111, 45, 99, 97, 99, 104, 101, 44, 32, 109, 97, 120, 45, 97, 103, 101, 61]⟩ : ByteArray) ++ t307)).bind fun bt308 => ((spec_Lifetime.f k t281 t282 t283 t284).bind fun t313 => (if t286 = t313 then (if t286 ≥ 0 then (if t281 = true then (if t286 = 0 then ((impl_Lifetime.f k bt292.1 bt292.2.1 bt292.2.2.1 bt292.2.2.2).bind fun t314 => (if t314 = (rd t287 0) then ((impl_Lifetime.f k bt301.1 bt301.2.1 bt301.2.2.1 bt301.2.2.2).bind fun t316 => (if t316 = (rd t287 1) then ((impl_Lifetime.f k bt308.1 bt308.2.1 bt308.2.2.1 bt308.2.2.2).bind fun t318 => (some (t318 == 0))) else (none))) else (none))) else (none)) else (if t282 = true then (if t286 = 0 then ((impl_Lifetime.f k bt292.1 bt292.2.1 bt292.2.2.1 bt292.2.2.2).bind fun t319 => (if t319 = (rd t287 0) then ((impl_Lifetime.f k bt301.1 bt301.2.1 bt301.2.2.1 bt301.2.2.2).bind fun t321 => (if t321 = (rd t287 1) then ((impl_Lifetime.f k bt308.1 bt308.2.1 bt308.2.2.1 bt308.2.2.2).bind fun t323 => (some (t323 == 0))) else (none))) else (none))) else (none)) else ((impl_Lifetime.f k bt292.1 bt292.2.1 bt292.2.2.1 bt292.2.2.2).bind fun t324 => (if t324 = (rd t287 0) then ((impl_Lifetime.f k bt301.1 bt301.2.1 bt301.2.2.1 bt301.2.2.2).bind fun t326 => (if t326 = (rd t287 1) then ((impl_Lifetime.f k bt308.1 bt308.2.1 bt308.2.2.1 bt308.2.2.2).bind fun t328 => (some (t328 == 0))) else (none))) else (none))))) else (none)) else (none)))) else (none)))) else (none))) else (none)) else (none)) else (none)))) else (none))) else (none))) = some r := H
  have A6 := Aside0.mk A60
  clear A60
  replace H := Option.bind_eq_some_iff.mp H
  obtain ⟨t287, A70, H⟩ := H
  replace H : (if 0 < (t287.length : Int) then ((spec_Decimal.f k (rd t287 0)).bind fun t291 => (if 8 + t291.size ≤ 9223372036854775807 then ((impl_ControlOf.f k ((⟨#[109, 97, 120, 45, 97, 103, 101, 61]⟩ : ByteArray) ++ t291)).bind fun bt292 => ((spec_Decimal.f k (rd t287 0)).bind fun t298 => (if 8 + t298.size ≤ 9223372036854775807 then (if ((⟨#[109, 97, 120, 45, 97, 103, 101, 61]⟩ : ByteArray) ++ t298).size + 11 ≤ 9223372036854775807 then (if 1 < (t287.length : Int) then ((spec_Decimal.f k (rd t287 1)).bind fun t300 => (if (((⟨#[109, 97, 120, 45, 97, 103, 101, 61]⟩ : ByteArray) ++ t298) ++ (⟨#[44, 32, 115, 45, 109, 97, 120, 97, 103, 101, 61]⟩ : ByteArray)).size + t300.size ≤ 9223372036854775807 then ((impl_ControlOf.f k ((((⟨#[109, 97, 120, 45, 97, 103, 101, 61]⟩ : ByteArray) ++ t298) ++ (⟨#[44, 32, 115, 45, 109, 97, 120, 97, 103, 101, 61]⟩ : ByteArray)) ++ t300)).bind fun bt301 => ((spec_Decimal.f k (rd t287 0)).bind fun t307 => (if 18 + t307.size ≤ 9223372036854775807 then ((impl_ControlOf.f k ((⟨#[110, 111, 45, 99, 97, 99, 104, 101, 44, 32, 109, 97, 120, 45, 97, 103, 101, 61]⟩ : ByteArray) ++ t307)).bind fun bt308 => ((spec_Lifetime.f k t281 t282 t283 t284).bind fun t313 => (if t286 = t313 then (if t286 ≥ 0 then (if t281 = true then (if t286 = 0 then ((impl_Lifetime.f k bt292.1 bt292.2.1 bt292.2.2.1 bt292.2.2.2).bind fun t314 => (if t314 = (rd t287 0) then ((impl_Lifetime.f k bt301.1 bt301.2.1 bt301.2.2.1 bt301.2.2.2).bind fun t316 => (if t316 = (rd t287 1) then ((impl_Lifetime.f k bt308.1 bt308.2.1 bt308.2.2.1 bt308.2.2.2).bind fun t318 => (some (t318 == 0))) else (none))) else (none))) else (none)) else (if t282 = true then (if t286 = 0 then ((impl_Lifetime.f k bt292.1 bt292.2.1 bt292.2.2.1 bt292.2.2.2).bind fun t319 => (if t319 = (rd t287 0) then ((impl_Lifetime.f k bt301.1 bt301.2.1 bt301.2.2.1 bt301.2.2.2).bind fun t321 => (if t321 = (rd t287 1) then ((impl_Lifetime.f k bt308.1 bt308.2.1 bt308.2.2.1 bt308.2.2.2).bind fun t323 => (some (t323 == 0))) else (none))) else (none))) else (none)) else ((impl_Lifetime.f k bt292.1 bt292.2.1 bt292.2.2.1 bt292.2.2.2).bind fun t324 => (if t324 = (rd t287 0) then ((impl_Lifetime.f k bt301.1 bt301.2.1 bt301.2.2.1 bt301.2.2.2).bind fun t326 => (if t326 = (rd t287 1) then ((impl_Lifetime.f k bt308.1 bt308.2.1 bt308.2.2.1 bt308.2.2.2).bind fun t328 => (some (t328 == 0))) else (none))) else (none))))) else (none)) else (none)))) else (none)))) else (none))) else (none)) else (none)) else (none)))) else (none))) else (none)) = some r := H
  have A7 := Aside0.mk A70
  clear A70
  by_cases c8 : 0 < (t287.length : Int)
  rotate_left
  · rw [if_neg c8] at H
    exact absurd H (by simp)

  rw [if_pos c8] at H
  have c8b0 : decide (0 < (t287.length : Int)) = true := decide_eq_true c8
  have c8b1 : decide (0 < t287.length) = true := decide_eq_true (by omega)
  clear c8
  (skip)
  replace H := Option.bind_eq_some_iff.mp H
  obtain ⟨t291, A90, H⟩ := H
  replace H : (if 8 + t291.size ≤ 9223372036854775807 then ((impl_ControlOf.f k ((⟨#[109, 97, 120, 45, 97, 103, 101, 61]⟩ : ByteArray) ++ t291)).bind fun bt292 => ((spec_Decimal.f k (rd t287 0)).bind fun t298 => (if 8 + t298.size ≤ 9223372036854775807 then (if ((⟨#[109, 97, 120, 45, 97, 103, 101, 61]⟩ : ByteArray) ++ t298).size + 11 ≤ 9223372036854775807 then (if 1 < (t287.length : Int) then ((spec_Decimal.f k (rd t287 1)).bind fun t300 => (if (((⟨#[109, 97, 120, 45, 97, 103, 101, 61]⟩ : ByteArray) ++ t298) ++ (⟨#[44, 32, 115, 45, 109, 97, 120, 97, 103, 101, 61]⟩ : ByteArray)).size + t300.size ≤ 9223372036854775807 then ((impl_ControlOf.f k ((((⟨#[109, 97, 120, 45, 97, 103, 101, 61]⟩ : ByteArray) ++ t298) ++ (⟨#[44, 32, 115, 45, 109, 97, 120, 97, 103, 101, 61]⟩ : ByteArray)) ++ t300)).bind fun bt301 => ((spec_Decimal.f k (rd t287 0)).bind fun t307 => (if 18 + t307.size ≤ 9223372036854775807 then ((impl_ControlOf.f k ((⟨#[110, 111, 45, 99, 97, 99, 104, 101, 44, 32, 109, 97, 120, 45, 97, 103, 101, 61]⟩ : ByteArray) ++ t307)).bind fun bt308 => ((spec_Lifetime.f k t281 t282 t283 t284).bind fun t313 => (if t286 = t313 then (if t286 ≥ 0 then (if t281 = true then (if t286 = 0 then ((impl_Lifetime.f k bt292.1 bt292.2.1 bt292.2.2.1 bt292.2.2.2).bind fun t314 => (if t314 = (rd t287 0) then ((impl_Lifetime.f k bt301.1 bt301.2.1 bt301.2.2.1 bt301.2.2.2).bind fun t316 => (if t316 = (rd t287 1) then ((impl_Lifetime.f k bt308.1 bt308.2.1 bt308.2.2.1 bt308.2.2.2).bind fun t318 => (some (t318 == 0))) else (none))) else (none))) else (none)) else (if t282 = true then (if t286 = 0 then ((impl_Lifetime.f k bt292.1 bt292.2.1 bt292.2.2.1 bt292.2.2.2).bind fun t319 => (if t319 = (rd t287 0) then ((impl_Lifetime.f k bt301.1 bt301.2.1 bt301.2.2.1 bt301.2.2.2).bind fun t321 => (if t321 = (rd t287 1) then ((impl_Lifetime.f k bt308.1 bt308.2.1 bt308.2.2.1 bt308.2.2.2).bind fun t323 => (some (t323 == 0))) else (none))) else (none))) else (none)) else ((impl_Lifetime.f k bt292.1 bt292.2.1 bt292.2.2.1 bt292.2.2.2).bind fun t324 => (if t324 = (rd t287 0) then ((impl_Lifetime.f k bt301.1 bt301.2.1 bt301.2.2.1 bt301.2.2.2).bind fun t326 => (if t326 = (rd t287 1) then ((impl_Lifetime.f k bt308.1 bt308.2.1 bt308.2.2.1 bt308.2.2.2).bind fun t328 => (some (t328 == 0))) else (none))) else (none))))) else (none)) else (none)))) else (none)))) else (none))) else (none)) else (none)) else (none)))) else (none)) = some r := H
  have A9 := Aside0.mk A90
  clear A90
  by_cases c10 : 8 + t291.size ≤ 9223372036854775807
  rotate_left
  · rw [if_neg c10] at H
    exact absurd H (by simp)
  rw [if_pos c10] at H
  have c10b0 := eq_true c10
  have c10b1 : decide (8 + t291.size ≤ 9223372036854775807) = true := decide_eq_true c10
  have c10b2 : (9223372036854775807 < 8 + t291.size) = False := eq_false (Nat.not_lt.2 c10)
  replace H := Option.bind_eq_some_iff.mp H
  obtain ⟨⟨t292, t293, t294, t295⟩, A110, H⟩ := H
  replace H : ((spec_Decimal.f k (rd t287 0)).bind fun t298 => (if 8 + t298.size ≤ 9223372036854775807 then (if ((⟨#[109, 97, 120, 45, 97, 103, 101, 61]⟩ : ByteArray) ++ t298).size + 11 ≤ 9223372036854775807 then (if 1 < (t287.length : Int) then ((spec_Decimal.f k (rd t287 1)).bind fun t300 => (if (((⟨#[109, 97, 120, 45, 97, 103, 101, 61]⟩ : ByteArray) ++ t298) ++ (⟨#[44, 32, 115, 45, 109, 97, 120, 97, 103, 101, 61]⟩ : ByteArray)).size + t300.size ≤ 9223372036854775807 then ((impl_ControlOf.f k ((((⟨#[109, 97, 120, 45, 97, 103, 101, 61]⟩ : ByteArray) ++ t298) ++ (⟨#[44, 32, 115, 45, 109, 97, 120, 97, 103, 101, 61]⟩ : ByteArray)) ++ t300)).bind fun bt301 => ((spec_Decimal.f k (rd t287 0)).bind fun t307 => (if 18 + t307.size ≤ 9223372036854775807 then ((impl_ControlOf.f k ((⟨#[110, 111, 45, 99, 97, 99, 104, 101, 44, 32, 109, 97, 120, 45, 97, 103, 101, 61]⟩ : ByteArray) ++ t307)).bind fun bt308 => ((spec_Lifetime.f k t281 t282 t283 t284).bind fun t313 => (if t286 = t313 then (if t286 ≥ 0 then (if t281 = true then (if t286 = 0 then ((impl_Lifetime.f k t292 t293 t294 t295).bind fun t314 => (if t314 = (rd t287 0) then ((impl_Lifetime.f k bt301.1 bt301.2.1 bt301.2.2.1 bt301.2.2.2).bind fun t316 => (if t316 = (rd t287 1) then ((impl_Lifetime.f k bt308.1 bt308.2.1 bt308.2.2.1 bt308.2.2.2).bind fun t318 => (some (t318 == 0))) else (none))) else (none))) else (none)) else (if t282 = true then (if t286 = 0 then ((impl_Lifetime.f k t292 t293 t294 t295).bind fun t319 => (if t319 = (rd t287 0) then ((impl_Lifetime.f k bt301.1 bt301.2.1 bt301.2.2.1 bt301.2.2.2).bind fun t321 => (if t321 = (rd t287 1) then ((impl_Lifetime.f k bt308.1 bt308.2.1 bt308.2.2.1 bt308.2.2.2).bind fun t323 => (some (t323 == 0))) else (none))) else (none))) else (none)) else ((impl_Lifetime.f k t292 t293 t294 t295).bind fun t324 => (if t324 = (rd t287 0) then ((impl_Lifetime.f k bt301.1 bt301.2.1 bt301.2.2.1 bt301.2.2.2).bind fun t326 => (if t326 = (rd t287 1) then ((impl_Lifetime.f k bt308.1 bt308.2.1 bt308.2.2.1 bt308.2.2.2).bind fun t328 => (some (t328 == 0))) else (none))) else (none))))) else (none)) else (none)))) else (none)))) else (none))) else (none)) else (none)) else (none))) = some r := H
  have A11 := Aside0.mk A110
  clear A110
  replace H := Option.bind_eq_some_iff.mp H
  obtain ⟨t298, A120, H⟩ := H
  replace H : (if 8 + t298.size ≤ 9223372036854775807 then (if ((⟨#[109, 97, 120, 45, 97, 103, 101, 61]⟩ : ByteArray) ++ t298).size + 11 ≤ 9223372036854775807 then (if 1 < (t287.length : Int) then ((spec_Decimal.f k (rd t287 1)).bind fun t300 => (if (((⟨#[109, 97, 120, 45, 97, 103, 101, 61]⟩ : ByteArray) ++ t298) ++ (⟨#[44, 32, 115, 45, 109, 97, 120, 97, 103, 101, 61]⟩ : ByteArray)).size + t300.size ≤ 9223372036854775807 then ((impl_ControlOf.f k ((((⟨#[109, 97, 120, 45, 97, 103, 101, 61]⟩ : ByteArray) ++ t298) ++ (⟨#[44, 32, 115, 45, 109, 97, 120, 97, 103, 101, 61]⟩ : ByteArray)) ++ t300)).bind fun bt301 => ((spec_Decimal.f k (rd t287 0)).bind fun t307 => (if 18 + t307.size ≤ 9223372036854775807 then ((impl_ControlOf.f k ((⟨#[110, 111, 45, 99, 97, 99, 104, 101, 44, 32, 109, 97, 120, 45, 97, 103, 101, 61]⟩ : ByteArray) ++ t307)).bind fun bt308 => ((spec_Lifetime.f k t281 t282 t283 t284).bind fun t313 => (if t286 = t313 then (if t286 ≥ 0 then (if t281 = true then (if t286 = 0 then ((impl_Lifetime.f k t292 t293 t294 t295).bind fun t314 => (if t314 = (rd t287 0) then ((impl_Lifetime.f k bt301.1 bt301.2.1 bt301.2.2.1 bt301.2.2.2).bind fun t316 => (if t316 = (rd t287 1) then ((impl_Lifetime.f k bt308.1 bt308.2.1 bt308.2.2.1 bt308.2.2.2).bind fun t318 => (some (t318 == 0))) else (none))) else (none))) else (none)) else (if t282 = true then (if t286 = 0 then ((impl_Lifetime.f k t292 t293 t294 t295).bind fun t319 => (if t319 = (rd t287 0) then ((impl_Lifetime.f k bt301.1 bt301.2.1 bt301.2.2.1 bt301.2.2.2).bind fun t321 => (if t321 = (rd t287 1) then ((impl_Lifetime.f k bt308.1 bt308.2.1 bt308.2.2.1 bt308.2.2.2).bind fun t323 => (some (t323 == 0))) else (none))) else (none))) else (none)) else ((impl_Lifetime.f k t292 t293 t294 t295).bind fun t324 => (if t324 = (rd t287 0) then ((impl_Lifetime.f k bt301.1 bt301.2.1 bt301.2.2.1 bt301.2.2.2).bind fun t326 => (if t326 = (rd t287 1) then ((impl_Lifetime.f k bt308.1 bt308.2.1 bt308.2.2.1 bt308.2.2.2).bind fun t328 => (some (t328 == 0))) else (none))) else (none))))) else (none)) else (none)))) else (none)))) else (none))) else (none)) else (none)) else (none)) = some r := H
  have A12 := Aside0.mk A120
  clear A120
  by_cases c13 : 8 + t298.size ≤ 9223372036854775807
  rotate_left
  · rw [if_neg c13] at H
    exact absurd H (by simp)
  rw [if_pos c13] at H
  have c13b0 := eq_true c13
  have c13b1 : decide (8 + t298.size ≤ 9223372036854775807) = true := decide_eq_true c13
  have c13b2 : (9223372036854775807 < 8 + t298.size) = False := eq_false (Nat.not_lt.2 c13)
  by_cases c14 : ((⟨#[109, 97, 120, 45, 97, 103, 101, 61]⟩ : ByteArray) ++ t298).size + 11 ≤ 9223372036854775807
  rotate_left
  · rw [if_neg c14] at H
    exact absurd H (by simp)
  rw [if_pos c14] at H
  have c14b0 := eq_true c14
  have c14b1 : decide (((⟨#[109, 97, 120, 45, 97, 103, 101, 61]⟩ : ByteArray) ++ t298).size + 11 ≤ 9223372036854775807) = true := decide_eq_true c14
  have c14x : 8 + t298.size + 11 ≤ 9223372036854775807 := by have h_ := c14; (try simp only [ByteArray.size_append] at h_); exact h_
  have c14x0 := eq_true c14x
  have c14x2 : (9223372036854775807 < 8 + t298.size + 11) = False := eq_false (Nat.not_lt.2 c14x)
  have c14b2 : (9223372036854775807 < ((⟨#[109, 97, 120, 45, 97, 103, 101, 61]⟩ : ByteArray) ++ t298).size + 11) = False := eq_false (Nat.not_lt.2 c14)
  by_cases c15 : 1 < (t287.length : Int)
  rotate_left
  · rw [if_neg c15] at H
    exact absurd H (by simp)
  rw [if_pos c15] at H
  have c15b0 : decide (1 < (t287.length : Int)) = true := decide_eq_true c15
  have c15b1 : decide (1 < t287.length) = true := decide_eq_true (by omega)
  clear c15
  replace H := Option.bind_eq_some_iff.mp H
  obtain ⟨t300, A160, H⟩ := H
  replace H : (if (((⟨#[109, 97, 120, 45, 97, 103, 101, 61]⟩ : ByteArray) ++ t298) ++ (⟨#[44, 32, 115, 45, 109, 97, 120, 97, 103, 101, 61]⟩ : ByteArray)).size + t300.size ≤ 9223372036854775807 then ((impl_ControlOf.f k ((((⟨#[109, 97, 120, 45, 97, 103, 101, 61]⟩ : ByteArray) ++ t298) ++ (⟨#[44, 32, 115, 45, 109, 97, 120, 97, 103, 101, 61]⟩ : ByteArray)) ++ t300)).bind fun bt301 => ((spec_Decimal.f k (rd t287 0)).bind fun t307 => (if 18 + t307.size ≤ 9223372036854775807 then ((impl_ControlOf.f k ((⟨#[110, 111, 45, 99, 97, 99, 104, 101, 44, 32, 109, 97, 120, 45, 97, 103, 101, 61]⟩ : ByteArray) ++ t307)).bind fun bt308 => ((spec_Lifetime.f k t281 t282 t283 t284).bind fun t313 => (if t286 = t313 then (if t286 ≥ 0 then (if t281 = true then (if t286 = 0 then ((impl_Lifetime.f k t292 t293 t294 t295).bind fun t314 => (if t314 = (rd t287 0) then ((impl_Lifetime.f k bt301.1 bt301.2.1 bt301.2.2.1 bt301.2.2.2).bind fun t316 => (if t316 = (rd t287 1) then ((impl_Lifetime.f k bt308.1 bt308.2.1 bt308.2.2.1 bt308.2.2.2).bind fun t318 => (some (t318 == 0))) else (none))) else (none))) else (none)) else (if t282 = true then (if t286 = 0 then ((impl_Lifetime.f k t292 t293 t294 t295).bind fun t319 => (if t319 = (rd t287 0) then ((impl_Lifetime.f k bt301.1 bt301.2.1 bt301.2.2.1 bt301.2.2.2).bind fun t321 => (if t321 = (rd t287 1) then ((impl_Lifetime.f k bt308.1 bt308.2.1 bt308.2.2.1 bt308.2.2.2).bind fun t323 => (some (t323 == 0))) else (none))) else (none))) else (none)) else ((impl_Lifetime.f k t292 t293 t294 t295).bind fun t324 => (if t324 = (rd t287 0) then ((impl_Lifetime.f k bt301.1 bt301.2.1 bt301.2.2.1 bt301.2.2.2).bind fun t326 => (if t326 = (rd t287 1) then ((impl_Lifetime.f k bt308.1 bt308.2.1 bt308.2.2.1 bt308.2.2.2).bind fun t328 => (some (t328 == 0))) else (none))) else (none))))) else (none)) else (none)))) else (none)))) else (none)) = some r := H
  have A16 := Aside0.mk A160
  clear A160
  by_cases c17 : (((⟨#[109, 97, 120, 45, 97, 103, 101, 61]⟩ : ByteArray) ++ t298) ++ (⟨#[44, 32, 115, 45, 109, 97, 120, 97, 103, 101, 61]⟩ : ByteArray)).size + t300.size ≤ 9223372036854775807
  rotate_left
  · rw [if_neg c17] at H
    exact absurd H (by simp)
  rw [if_pos c17] at H
  have c17b0 := eq_true c17
  have c17b1 : decide ((((⟨#[109, 97, 120, 45, 97, 103, 101, 61]⟩ : ByteArray) ++ t298) ++ (⟨#[44, 32, 115, 45, 109, 97, 120, 97, 103, 101, 61]⟩ : ByteArray)).size + t300.size ≤ 9223372036854775807) = true := decide_eq_true c17
  have c17x : 8 + t298.size + 11 + t300.size ≤ 9223372036854775807 := by have h_ := c17; (try simp only [ByteArray.size_append] at h_); exact h_
  have c17x0 := eq_true c17x
  have c17x2 : (9223372036854775807 < 8 + t298.size + 11 + t300.size) = False := eq_false (Nat.not_lt.2 c17x)
  have c17b2 : (9223372036854775807 < (((⟨#[109, 97, 120, 45, 97, 103, 101, 61]⟩ : ByteArray) ++ t298) ++ (⟨#[44, 32, 115, 45, 109, 97, 120, 97, 103, 101, 61]⟩ : ByteArray)).size + t300.size) = False := eq_false (Nat.not_lt.2 c17)
  replace H := Option.bind_eq_some_iff.mp H
  obtain ⟨⟨t301, t302, t303, t304⟩, A180, H⟩ := H
  replace H : ((spec_Decimal.f k (rd t287 0)).bind fun t307 => (if 18 + t307.size ≤ 9223372036854775807 then ((impl_ControlOf.f k ((⟨#[110, 111, 45, 99, 97, 99, 104, 101, 44, 32, 109, 97, 120, 45, 97, 103, 101, 61]⟩ : ByteArray) ++ t307)).bind fun bt308 => ((spec_Lifetime.f k t281 t282 t283 t284).bind fun t313 => (if t286 = t313 then (if t286 ≥ 0 then (if t281 = true then (if t286 = 0 then ((impl_Lifetime.f k t292 t293 t294 t295).bind fun t314 => (if t314 = (rd t287 0) then ((impl_Lifetime.f k t301 t302 t303 t304).bind fun t316 => (if t316 = (rd t287 1) then ((impl_Lifetime.f k bt308.1 bt308.2.1 bt308.2.2.1 bt308.2.2.2).bind fun t318 => (some (t318 == 0))) else (none))) else (none))) else (none)) else (if t282 = true then (if t286 = 0 then ((impl_Lifetime.f k t292 t293 t294 t295).bind fun t319 => (if t319 = (rd t287 0) then ((impl_Lifetime.f k t301 t302 t303 t304).bind fun t321 => (if t321 = (rd t287 1) then ((impl_Lifetime.f k bt308.1 bt308.2.1 bt308.2.2.1 bt308.2.2.2).bind fun t323 => (some (t323 == 0))) else (none))) else (none))) else (none)) else ((impl_Lifetime.f k t292 t293 t294 t295).bind fun t324 => (if t324 = (rd t287 0) then ((impl_Lifetime.f k t301 t302 t303 t304).bind fun t326 => (if t326 = (rd t287 1) then ((impl_Lifetime.f k bt308.1 bt308.2.1 bt308.2.2.1 bt308.2.2.2).bind fun t328 => (some (t328 == 0))) else (none))) else (none))))) else (none)) else (none)))) else (none))) = some r := H
  have A18 := Aside0.mk A180
  clear A180
  replace H := Option.bind_eq_some_iff.mp H
  obtain ⟨t307, A190, H⟩ := H
  replace H : (if 18 + t307.size ≤ 9223372036854775807 then ((impl_ControlOf.f k ((⟨#[110, 111, 45, 99, 97, 99, 104, 101, 44, 32, 109, 97, 120, 45, 97, 103, 101, 61]⟩ : ByteArray) ++ t307)).bind fun bt308 => ((spec_Lifetime.f k t281 t282 t283 t284).bind fun t313 => (if t286 = t313 then (if t286 ≥ 0 then (if t281 = true then (if t286 = 0 then ((impl_Lifetime.f k t292 t293 t294 t295).bind fun t314 => (if t314 = (rd t287 0) then ((impl_Lifetime.f k t301 t302 t303 t304).bind fun t316 => (if t316 = (rd t287 1) then ((impl_Lifetime.f k bt308.1 bt308.2.1 bt308.2.2.1 bt308.2.2.2).bind fun t318 => (some (t318 == 0))) else (none))) else (none))) else (none)) else (if t282 = true then (if t286 = 0 then ((impl_Lifetime.f k t292 t293 t294 t295).bind fun t319 => (if t319 = (rd t287 0) then ((impl_Lifetime.f k t301 t302 t303 t304).bind fun t321 => (if t321 = (rd t287 1) then ((impl_Lifetime.f k bt308.1 bt308.2.1 bt308.2.2.1 bt308.2.2.2).bind fun t323 => (some (t323 == 0))) else (none))) else (none))) else (none)) else ((impl_Lifetime.f k t292 t293 t294 t295).bind fun t324 => (if t324 = (rd t287 0) then ((impl_Lifetime.f k t301 t302 t303 t304).bind fun t326 => (if t326 = (rd t287 1) then ((impl_Lifetime.f k bt308.1 bt308.2.1 bt308.2.2.1 bt308.2.2.2).bind fun t328 => (some (t328 == 0))) else (none))) else (none))))) else (none)) else (none)))) else (none)) = some r := H
  have A19 := Aside0.mk A190
  clear A190
  by_cases c20 : 18 + t307.size ≤ 9223372036854775807
  rotate_left
  · rw [if_neg c20] at H
    exact absurd H (by simp)
  rw [if_pos c20] at H
  have c20b0 := eq_true c20
  have c20b1 : decide (18 + t307.size ≤ 9223372036854775807) = true := decide_eq_true c20
  have c20b2 : (9223372036854775807 < 18 + t307.size) = False := eq_false (Nat.not_lt.2 c20)
  replace H := Option.bind_eq_some_iff.mp H
  obtain ⟨⟨t308, t309, t310, t311⟩, A210, H⟩ := H
  replace H : ((spec_Lifetime.f k t281 t282 t283 t284).bind fun t313 => (if t286 = t313 then (if t286 ≥ 0 then (if t281 = true then (if t286 = 0 then ((impl_Lifetime.f k t292 t293 t294 t295).bind fun t314 => (if t314 = (rd t287 0) then ((impl_Lifetime.f k t301 t302 t303 t304).bind fun t316 => (if t316 = (rd t287 1) then ((impl_Lifetime.f k t308 t309 t310 t311).bind fun t318 => (some (t318 == 0))) else (none))) else (none))) else (none)) else (if t282 = true then (if t286 = 0 then ((impl_Lifetime.f k t292 t293 t294 t295).bind fun t319 => (if t319 = (rd t287 0) then ((impl_Lifetime.f k t301 t302 t303 t304).bind fun t321 => (if t321 = (rd t287 1) then ((impl_Lifetime.f k t308 t309 t310 t311).bind fun t323 => (some (t323 == 0))) else (none))) else (none))) else (none)) else ((impl_Lifetime.f k t292 t293 t294 t295).bind fun t324 => (if t324 = (rd t287 0) then ((impl_Lifetime.f k t301 t302 t303 t304).bind fun t326 => (if t326 = (rd t287 1) then ((impl_Lifetime.f k t308 t309 t310 t311).bind fun t328 => (some (t328 == 0))) else (none))) else (none))))) else (none)) else (none))) = some r := H
  have A21 := Aside0.mk A210
  clear A210
  have HS22 := Aside0.mk H
  clear H
  go_wp2_with (first | ((with_reducible refine gate_callee (f := 15) rfl ?_); refine goesL_ (some 12) rfl rfl Tryd.func15 (by kernel_rfl) rfl #[.slice A0 l0.length c0] rfl (by (try simp only [List.map_toArray, List.map_cons, List.map_nil]); rfl) ?_; (with_reducible refine (spec_DrawControl.calls k _ _ l0 t281 t282 t283 t284 _ ?side1 ?side2 A5.out).mono ?_); (case side1 => repeat (exact (Kd.C_below HR0.out HB.out))); (case side2 => exact HC0.out); rintro e w23 ⟨rfl, hb⟩; refine ⟨_, rfl, ?_⟩; have n0_ := Aside0.mk (below_step (by repeat ((with_reducible exact HB.out))) hb); clear HB; have HB := n0_; clear n0_; (try clear hb); (try clear hb2); (try clear hk); (try clear hi)) | ((with_reducible refine gate_dst (N := 3) rfl ?_); refine box_event ?hg (N := 3) ?hd (cs := #[.bool false, .bool false, .int .i64 0, .int .i64 0]) (t := 25) ?hr ?_; (case hd => rfl); (case hg => rfl); (case hr => (go_simp; done)); intro gb285 hg w24 hbox hb; have n0_ := Aside0.mk (below_step (by repeat ((with_reducible exact HB.out))) hb); have n1_ := Aside0.mk (hbox); have n2_ := Aside0.mk ((by rw [hg]; exact (below_size (by repeat ((with_reducible exact HB.out)))) : w.heap.size ≤ gb285)); have n3_ := Aside0.mk ((by rw [hg]; exact (below_size (by repeat ((with_reducible exact HB.out)))) : w.heap.size ≤ gb285)); clear HB; have HB := n0_; have BK285 := n1_; have GW285 := n2_; have GE285 := n3_; clear n0_ n1_ n2_ n3_; clear hb hbox hg; have hcz25_0 : w24.cell? ⟨gb285, 0, none⟩ = some (.bool false) := (blk_cell BK285.out 0).trans rfl; have hcz25_1 : w24.cell? ⟨gb285, 1, none⟩ = some (.bool false) := (blk_cell BK285.out 1).trans rfl; have hcz25_2 : w24.cell? ⟨gb285, 2, none⟩ = some (.int .i64 0) := (blk_cell BK285.out 2).trans rfl; have hcz25_3 : w24.cell? ⟨gb285, 3, none⟩ = some (.int .i64 0) := (blk_cell BK285.out 3).trans rfl; have hfz25_0 := blk_frozen BK285.out 0; have hfz25_1 := blk_frozen BK285.out 1; have hfz25_2 := blk_frozen BK285.out 2; have hfz25_3 := blk_frozen BK285.out 3) | ((with_reducible refine gate_callee (f := 16) rfl ?_); refine goesL_ (some 14) rfl rfl Tryd.func16 (by kernel_rfl) rfl #[.agg #[.bool t281, .bool t282, .int .i64 t283, .int .i64 t284]] rfl (by (try simp only [List.map_toArray, List.map_cons, List.map_nil]); rfl) ?_; (with_reducible refine (impl_Lifetime.calls k t281 t282 t283 t284 t286 _ A6.out).mono ?_); rintro e w26 ⟨rfl, hb⟩; refine ⟨_, rfl, ?_⟩; have n0_ := Aside0.mk (blk_below (g := gb285) (o := .cells #[.bool t281, .bool t282, .int .i64 t283, .int .i64 t284] 25 (0, 0)) (by (with_reducible repeat (first | refine blk_drewN ?_ _ | refine blk_drew ?_ | refine blk_alloc ?_ _ )); refine blk_put (cs := #[.bool t281, .bool t282, .int .i64 t283, .int .i64 0]) ?_ 3 _ rfl; (with_reducible repeat (first | refine blk_drewN ?_ _ | refine blk_drew ?_ | refine blk_alloc ?_ _ )); refine blk_put (cs := #[.bool t281, .bool t282, .int .i64 0, .int .i64 0]) ?_ 2 _ rfl; (with_reducible repeat (first | refine blk_drewN ?_ _ | refine blk_drew ?_ | refine blk_alloc ?_ _ )); refine blk_put (cs := #[.bool t281, .bool false, .int .i64 0, .int .i64 0]) ?_ 1 _ rfl; (with_reducible repeat (first | refine blk_drewN ?_ _ | refine blk_drew ?_ | refine blk_alloc ?_ _ )); refine blk_put (cs := #[.bool false, .bool false, .int .i64 0, .int .i64 0]) ?_ 0 _ rfl; (with_reducible repeat (first | refine blk_drewN ?_ _ | refine blk_drew ?_ | refine blk_alloc ?_ _ )); exact BK285.out) hb); have n1_ := Aside0.mk (below_step (by repeat ((with_reducible first | exact HB.out | refine below_set ?_ GE285.out))) hb); clear BK285; clear HB; have BK285 := n0_; have HB := n1_; clear n0_ n1_; (try clear hb); (try clear hb2); (try clear hk); (try clear hi)) | ((with_reducible refine gate_callee (f := 17) rfl ?_); refine goesL_ (some 16) rfl rfl Tryd.func17 (by kernel_rfl) rfl #[.slice A0 l0.length c0] rfl (by (try simp only [List.map_toArray, List.map_cons, List.map_nil]); rfl) ?_; (with_reducible refine (spec_DrawPlaces.calls k _ _ l0 t287 _ ?side1 ?side2 A7.out).mono ?_); (case side1 => repeat (exact (Kd.C_below HR0.out HB.out))); (case side2 => exact HC0.out); rintro e w27 ⟨v288, rfl, ho0, hb⟩; refine ⟨_, rfl, ?_⟩; have n0_ := Aside0.mk (Kd.R_lower ho0 (below_size (by repeat ((with_reducible exact HB.out))))); have n1_ := Aside0.mk (blk_below (g := gb285) (o := .cells #[.bool t281, .bool t282, .int .i64 t283, .int .i64 t284] 25 (0, 0)) (by (with_reducible repeat (first | refine blk_drewN ?_ _ | refine blk_drew ?_ | refine blk_alloc ?_ _ )); exact BK285.out) hb); have n2_ := Aside0.mk (below_step (by repeat ((with_reducible exact HB.out))) hb); clear BK285; clear HB; have HO289 := n0_; have BK285 := n1_; have HB := n2_; clear n0_ n1_ n2_; (try clear hb); (try clear hb2); (try clear hk); (try clear hi); (try clear ho0); obtain ⟨Ao28, co28, eo28⟩ := Kd.R_slice HO289.out; subst eo28; have p290 : 0 ≤ (0 : Int) := (by omega); have q290 : 0 < (t287.length : Int) := of_decide_eq_true (by (with_reducible assumption)); obtain ⟨ad290, e290, hx290_0⟩ := Kd.at_int (Kd.R_reads' HO289.out).2.2 0 p290 q290; cases e290; have qi290 : (0 < t287.length) = True := eq_true (by omega); (try rw [show ((0 : Int)).toNat = 0 from rfl] at hx290_0); (try rw [Addr.add_zero'] at hx290_0); replace p290 := eq_true p290; replace q290 := eq_true q290) | ((with_reducible refine gate_callee (f := 18) rfl ?_); refine goesL_ (some 20) rfl rfl Tryd.func18 (by kernel_rfl) rfl #[.int .i64 (rd t287 0)] rfl (by (try simp only [List.map_toArray, List.map_cons, List.map_nil]); rfl) ?_; (with_reducible refine (spec_Decimal.calls k (rd t287 0) t291 _ A9.out).mono ?_); rintro e w29 ⟨rfl, hb⟩; refine ⟨_, rfl, ?_⟩; have n0_ := Aside0.mk (Kd.R_below (by (with_reducible repeat (first | apply Kd.R_alloc | apply Kd.R_drewN | apply Kd.R_drew )); exact HO289.out) hb); have n1_ := Aside0.mk (blk_below (g := gb285) (o := .cells #[.bool t281, .bool t282, .int .i64 t283, .int .i64 t284] 25 (0, 0)) (by (with_reducible repeat (first | refine blk_drewN ?_ _ | refine blk_drew ?_ | refine blk_alloc ?_ _ )); exact BK285.out) hb); have n2_ := Aside0.mk (below_step (by repeat ((with_reducible exact HB.out))) hb); clear HO289; clear BK285; clear HB; have HO289 := n0_; have BK285 := n1_; have HB := n2_; clear n0_ n1_ n2_; (try clear hb); (try clear hb2); (try clear hk); (try clear hi)) | ((with_reducible refine gate_callee (f := 12) rfl ?_); refine goesL_ (some 22) rfl rfl Tryd.func12 (by kernel_rfl) rfl #[.string ((⟨#[109, 97, 120, 45, 97, 103, 101, 61]⟩ : ByteArray) ++ t291)] rfl (by (try simp only [List.map_toArray, List.map_cons, List.map_nil]); rfl) ?_; (with_reducible refine (impl_ControlOf.calls k ((⟨#[109, 97, 120, 45, 97, 103, 101, 61]⟩ : ByteArray) ++ t291) t292 t293 t294 t295 _ ?side1 A11.out).mono ?_); (case side1 => exact Shp.below HSH.out (by repeat ((with_reducible exact HB.out)))); rintro e w30 ⟨rfl, hb⟩; refine ⟨_, rfl, ?_⟩; have n0_ := Aside0.mk (Kd.R_below (by (with_reducible repeat (first | apply Kd.R_alloc | apply Kd.R_drewN | apply Kd.R_drew )); exact HO289.out) hb); have n1_ := Aside0.mk (blk_below (g := gb285) (o := .cells #[.bool t281, .bool t282, .int .i64 t283, .int .i64 t284] 25 (0, 0)) (by (with_reducible repeat (first | refine blk_drewN ?_ _ | refine blk_drew ?_ | refine blk_alloc ?_ _ )); exact BK285.out) hb); have n2_ := Aside0.mk (below_step (by repeat ((with_reducible exact HB.out))) hb); clear HO289; clear BK285; clear HB; have HO289 := n0_; have BK285 := n1_; have HB := n2_; clear n0_ n1_ n2_; (try clear hb); (try clear hb2); (try clear hk); (try clear hi)) | ((with_reducible refine gate_dst (N := 6) rfl ?_); refine box_event ?hg (N := 6) ?hd (cs := #[.bool false, .bool false, .int .i64 0, .int .i64 0]) (t := 25) ?hr ?_; (case hd => rfl); (case hg => rfl); (case hr => (go_simp; done)); intro gb296 hg w31 hbox hb; have n0_ := Aside0.mk (Kd.R_below (by (with_reducible repeat (first | apply Kd.R_alloc | apply Kd.R_drewN | apply Kd.R_drew )); exact HO289.out) hb); have n1_ := Aside0.mk (blk_below (g := gb285) (o := .cells #[.bool t281, .bool t282, .int .i64 t283, .int .i64 t284] 25 (0, 0)) (by (with_reducible repeat (first | refine blk_drewN ?_ _ | refine blk_drew ?_ | refine blk_alloc ?_ _ )); exact BK285.out) hb); have n2_ := Aside0.mk (below_step (by repeat ((with_reducible exact HB.out))) hb); have n3_ := Aside0.mk (hbox); have n4_ := Aside0.mk ((by rw [hg]; exact (below_size (by repeat ((with_reducible exact HB.out)))) : w.heap.size ≤ gb296)); have n5_ := Aside0.mk ((by rw [hg]; exact (below_size (by repeat ((with_reducible exact HB.out)))) : w.heap.size ≤ gb296)); have n6_ := Aside0.mk ((by rw [hg]; exact Nat.ne_of_lt (blk_lt (g := gb285) (o := .cells #[.bool t281, .bool t282, .int .i64 t283, .int .i64 t284] 25 (0, 0)) (by (with_reducible repeat (first | refine blk_drewN ?_ _ | refine blk_drew ?_ | refine blk_alloc ?_ _ )); exact BK285.out)) : gb285 ≠ gb296)); have n7_ := Aside0.mk ((by rw [hg]; exact Nat.ne_of_gt (blk_lt (g := gb285) (o := .cells #[.bool t281, .bool t282, .int .i64 t283, .int .i64 t284] 25 (0, 0)) (by (with_reducible repeat (first | refine blk_drewN ?_ _ | refine blk_drew ?_ | refine blk_alloc ?_ _ )); exact BK285.out)) : gb296 ≠ gb285)); clear HO289; clear BK285; clear HB; have HO289 := n0_; have BK285 := n1_; have HB := n2_; have BK296 := n3_; have GW296 := n4_; have GE296 := n5_; have NB285_296 := n6_; have NB296_285 := n7_; clear n0_ n1_ n2_ n3_ n4_ n5_ n6_ n7_; clear hb hbox hg; have hnb32 := NB296_285.out; have hnc32 := NB285_296.out; have hcz33_0 : w31.cell? ⟨gb296, 0, none⟩ = some (.bool false) := (blk_cell BK296.out 0).trans rfl; have hcz33_1 : w31.cell? ⟨gb296, 1, none⟩ = some (.bool false) := (blk_cell BK296.out 1).trans rfl; have hcz33_2 : w31.cell? ⟨gb296, 2, none⟩ = some (.int .i64 0) := (blk_cell BK296.out 2).trans rfl; have hcz33_3 : w31.cell? ⟨gb296, 3, none⟩ = some (.int .i64 0) := (blk_cell BK296.out 3).trans rfl; have hfz33_0 := blk_frozen BK296.out 0; have hfz33_1 := blk_frozen BK296.out 1; have hfz33_2 := blk_frozen BK296.out 2; have hfz33_3 := blk_frozen BK296.out 3))
  have n0_ : Aside0 (Kd.R (Kd.int .i64) 3 ((((w31.setCell ⟨gb296, 0, none⟩ (.bool t292)).setCell ⟨gb296, 1, none⟩ (.bool t293)).setCell ⟨gb296, 2, none⟩ (.int .i64 t294)).setCell ⟨gb296, 3, none⟩ (.int .i64 t295)) w.heap.size (fun _ => True) (.slice (some ad290) t287.length co28) t287) := ⟨by (with_reducible repeat (first | apply Kd.R_alloc | apply Kd.R_drewN | apply Kd.R_drew )); exact Kd.R_mono (Kd.R_far (p := ⟨gb296, 3, none⟩) (Kd.R_far (p := ⟨gb296, 2, none⟩) (Kd.R_far (p := ⟨gb296, 1, none⟩) (Kd.R_far (p := ⟨gb296, 0, none⟩) (Kd.R_types HO289.out BK296.out (by decide)) (fun _ hk => hk.2) (.bool t292)) (fun _ hk => hk.2) (.bool t293)) (fun _ hk => hk.2) (.int .i64 t294)) (fun _ hk => hk.2) (.int .i64 t295)) (fun _ hk => trivial)⟩
  have n1_ : Aside0 (((((w31.setCell ⟨gb296, 0, none⟩ (.bool t292)).setCell ⟨gb296, 1, none⟩ (.bool t293)).setCell ⟨gb296, 2, none⟩ (.int .i64 t294)).setCell ⟨gb296, 3, none⟩ (.int .i64 t295)).heap[gb285]? = some (.cells #[.bool t281, .bool t282, .int .i64 t283, .int .i64 t284] 25 (0, 0))) := ⟨by (with_reducible repeat (first | refine blk_drewN ?_ _ | refine blk_drew ?_ | refine blk_alloc ?_ _ )); refine blk_far ?_ NB285_296.out _; (with_reducible repeat (first | refine blk_drewN ?_ _ | refine blk_drew ?_ | refine blk_alloc ?_ _ )); refine blk_far ?_ NB285_296.out _; (with_reducible repeat (first | refine blk_drewN ?_ _ | refine blk_drew ?_ | refine blk_alloc ?_ _ )); refine blk_far ?_ NB285_296.out _; (with_reducible repeat (first | refine blk_drewN ?_ _ | refine blk_drew ?_ | refine blk_alloc ?_ _ )); refine blk_far ?_ NB285_296.out _; (with_reducible repeat (first | refine blk_drewN ?_ _ | refine blk_drew ?_ | refine blk_alloc ?_ _ )); exact BK285.out⟩
  have n2_ : Aside0 (((((w31.setCell ⟨gb296, 0, none⟩ (.bool t292)).setCell ⟨gb296, 1, none⟩ (.bool t293)).setCell ⟨gb296, 2, none⟩ (.int .i64 t294)).setCell ⟨gb296, 3, none⟩ (.int .i64 t295)).heap[gb296]? = some (.cells #[.bool t292, .bool t293, .int .i64 t294, .int .i64 t295] 25 (0, 0))) := ⟨by (with_reducible repeat (first | refine blk_drewN ?_ _ | refine blk_drew ?_ | refine blk_alloc ?_ _ )); refine blk_put (cs := #[.bool t292, .bool t293, .int .i64 t294, .int .i64 0]) ?_ 3 _ rfl; (with_reducible repeat (first | refine blk_drewN ?_ _ | refine blk_drew ?_ | refine blk_alloc ?_ _ )); refine blk_put (cs := #[.bool t292, .bool t293, .int .i64 0, .int .i64 0]) ?_ 2 _ rfl; (with_reducible repeat (first | refine blk_drewN ?_ _ | refine blk_drew ?_ | refine blk_alloc ?_ _ )); refine blk_put (cs := #[.bool t292, .bool false, .int .i64 0, .int .i64 0]) ?_ 1 _ rfl; (with_reducible repeat (first | refine blk_drewN ?_ _ | refine blk_drew ?_ | refine blk_alloc ?_ _ )); refine blk_put (cs := #[.bool false, .bool false, .int .i64 0, .int .i64 0]) ?_ 0 _ rfl; (with_reducible repeat (first | refine blk_drewN ?_ _ | refine blk_drew ?_ | refine blk_alloc ?_ _ )); exact BK296.out⟩
  have n3_ : Aside0 (Below w.heap.size w ((((w31.setCell ⟨gb296, 0, none⟩ (.bool t292)).setCell ⟨gb296, 1, none⟩ (.bool t293)).setCell ⟨gb296, 2, none⟩ (.int .i64 t294)).setCell ⟨gb296, 3, none⟩ (.int .i64 t295))) := ⟨by repeat ((with_reducible first | exact HB.out | refine below_set ?_ GE296.out))⟩
  (try clear HO289)
  (try clear BK285)
  (try clear BK296)
  (try clear HB)
  generalize ((((w31.setCell ⟨gb296, 0, none⟩ (.bool t292)).setCell ⟨gb296, 1, none⟩ (.bool t293)).setCell ⟨gb296, 2, none⟩ (.int .i64 t294)).setCell ⟨gb296, 3, none⟩ (.int .i64 t295)) = w34 at n0_ n1_ n2_ n3_ ⊢
  have HO289 := n0_
  have BK285 := n1_
  have BK296 := n2_
  have HB := n3_
  clear n0_ n1_ n2_ n3_
  have n0_ := Aside0.mk (Kd.R_drew HO289.out)
  have n1_ := Aside0.mk (blk_drew BK285.out)
  have n2_ := Aside0.mk (blk_drew BK296.out)
  have n3_ := Aside0.mk (below_drew1 HB.out)
  clear HO289
  clear BK285
  clear BK296
  clear HB
  have HO289 := n0_
  have BK285 := n1_
  have BK296 := n2_
  have HB := n3_
  clear n0_ n1_ n2_ n3_
  have p297 : 0 ≤ (0 : Int) := (by omega)
  have q297 : 0 < (t287.length : Int) := of_decide_eq_true (by (with_reducible assumption))
  obtain ⟨ad297, e297, hx297_0⟩ := Kd.at_int (Kd.R_reads' HO289.out).2.2 0 p297 q297
  obtain rfl : ad290 = ad297 := (by injection e297)
  have qi297 : (0 < t287.length) = True := eq_true (by omega)
  (try rw [show ((0 : Int)).toNat = 0 from rfl] at hx297_0)
  (try rw [Addr.add_zero'] at hx297_0)
  replace p297 := eq_true p297
  replace q297 := eq_true q297
  have p299 : 0 ≤ (1 : Int) := (by omega)
  have q299 : 1 < (t287.length : Int) := of_decide_eq_true (by (with_reducible assumption))
  obtain ⟨ad299, e299, hx299_0⟩ := Kd.at_int (Kd.R_reads' HO289.out).2.2 1 p299 q299
  obtain rfl : ad290 = ad299 := (by injection e299)
  (try simp only [show (1 : Int).toNat = 1 from rfl, Nat.reduceMul, Nat.reduceEqDiff, Go.Addr.add, ↓reduceIte] at hx299_0)
  have qi299 : (1 < t287.length) = True := eq_true (by omega)
  (try rw [show ((1 : Int)).toNat = 1 from rfl] at hx299_0)
  replace p299 := eq_true p299
  replace q299 := eq_true q299
  refine start_ (n := 14) (S := fun w' => w'.cell? ad290 = some (.int .i64 (rd t287 0)) ∧ w'.cell? ⟨ad290.block, ad290.off + 1, none⟩ = some (.int .i64 (rd t287 1))) (ds := []) #[false, false, false, false, false, false, false, false, false, false, false, false, false, false] (by kernel_rfl) rfl rfl ⟨hx297_0, hx299_0⟩ (fun hHeld => ?_); refine with_tabW laws_FnLifetimes.tab7 laws_FnLifetimes.bits7 (fun HT_ HW_ => ?_)
  generalize w34.drew = w35 at HO289 BK285 BK296 HB hx297_0 hx299_0 hHeld ⊢
  refine pure_ (i := 0) (N := some 23) (v := ?_) (a' := ?_) #[true, false, false, false, false, false, false, false, false, false, false, false, false, false] rfl rfl (any_of HT_.out (by kernel_rfl)) (fun _ _ _ h => h) (Or.inl ⟨by rfl, ?_⟩) ?_ ?_
  rotate_left
  · intro w'
    go_simp
    with_reducible rfl
  rotate_left
  · simp only [Act.put, List.setIfInBounds_toArray, List.set_cons_zero, List.set_cons_succ, i64_w, i32_w]
    rfl
  refine pure_ (i := 1) (N := some 24) (v := ?_) (a' := ?_) #[true, true, false, false, false, false, false, false, false, false, false, false, false, false] rfl rfl (any_of HT_.out (by kernel_rfl)) (fun _ _ _ h => h) (Or.inl ⟨by rfl, ?_⟩) ?_ ?_
  rotate_left
  · intro w'
    go_simp
    with_reducible rfl
  rotate_left
  · simp only [Act.put, List.setIfInBounds_toArray, List.set_cons_zero, List.set_cons_succ, i64_w, i32_w]
    rfl
  refine pure_ (i := 6) (N := some 29) (v := ?_) (a' := ?_) #[true, true, false, false, false, false, true, false, false, false, false, false, false, false] rfl rfl (any_of HT_.out (by kernel_rfl)) (fun _ _ _ h => h) (Or.inl ⟨by rfl, ?_⟩) ?_ ?_
  rotate_left
  · intro w'
    go_simp
    with_reducible rfl
  rotate_left
  · simp only [Act.put, List.setIfInBounds_toArray, List.set_cons_zero, List.set_cons_succ, i64_w, i32_w]
    rfl
  refine pure_ (i := 7) (N := some 30) (v := ?_) (a' := ?_) #[true, true, false, false, false, false, true, true, false, false, false, false, false, false] rfl rfl (any_of HT_.out (by kernel_rfl)) (fun _ _ _ h => h) (Or.inl ⟨by rfl, ?_⟩) ?_ ?_
  rotate_left
  · intro w'
    go_simp
    with_reducible rfl
  rotate_left
  · simp only [Act.put, List.setIfInBounds_toArray, List.set_cons_zero, List.set_cons_succ, i64_w, i32_w]
    rfl
  refine take_ (i := 2) (N := some 25) (v := ?_) (a' := ?_) #[true, true, true, false, false, false, true, true, false, false, false, false, false, false] rfl rfl (take_ofW HT_.out HW_.out (by kernel_rfl)) (fun _ _ _ h => h) (Or.inl ⟨by rfl, ?_⟩) hHeld ?_ ?_
  rotate_left
  · rintro w' ⟨s0, s1⟩
    go_simp
    with_reducible rfl
  rotate_left
  · simp only [Act.put, List.setIfInBounds_toArray, List.set_cons_zero, List.set_cons_succ, i64_w, i32_w]
    rfl
  refine take_ (i := 8) (N := some 31) (v := ?_) (a' := ?_) #[true, true, true, false, false, false, true, true, true, false, false, false, false, false] rfl rfl (take_ofW HT_.out HW_.out (by kernel_rfl)) (fun _ _ _ h => h) (Or.inl ⟨by rfl, ?_⟩) hHeld ?_ ?_
  rotate_left
  · rintro w' ⟨s0, s1⟩
    go_simp
    with_reducible rfl
  rotate_left
  · simp only [Act.put, List.setIfInBounds_toArray, List.set_cons_zero, List.set_cons_succ, i64_w, i32_w]
    rfl
  refine join_ (σ := Nat) 1 #[true, true, true, true, true, true, true, true, true, true, true, true, true, false] (fun s_ => [(26, .string t298), (32, .string t300), (34, .agg #[.bool t301, .bool t302, .int .i64 t303, .int .i64 t304]), (7, .pointer (some ⟨s_, 0, none⟩)), (27, .string ((⟨#[109, 97, 120, 45, 97, 103, 101, 61]⟩ : ByteArray) ++ t298)), (28, .string (((⟨#[109, 97, 120, 45, 97, 103, 101, 61]⟩ : ByteArray) ++ t298) ++ (⟨#[44, 32, 115, 45, 109, 97, 120, 97, 103, 101, 61]⟩ : ByteArray))), (33, .string ((((⟨#[109, 97, 120, 45, 97, 103, 101, 61]⟩ : ByteArray) ++ t298) ++ (⟨#[44, 32, 115, 45, 109, 97, 120, 97, 103, 101, 61]⟩ : ByteArray)) ++ t300))]) (fun s_ w' => (w'.cell? ad290 = some (.int .i64 (rd t287 0)) ∧ w'.cell? ⟨ad290.block, ad290.off + 1, none⟩ = some (.int .i64 (rd t287 1))) ∧ (Kd.R (Kd.int .i64) 3 w' w.heap.size (fun _ => True) (.slice (some ad290) t287.length co28) t287) ∧ (w'.heap[gb285]? = some (.cells #[.bool t281, .bool t282, .int .i64 t283, .int .i64 t284] 25 (0, 0))) ∧ (w'.heap[gb296]? = some (.cells #[.bool t292, .bool t293, .int .i64 t294, .int .i64 t295] 25 (0, 0))) ∧ (w'.heap[s_]? = some (.cells #[.bool false, .bool false, .int .i64 0, .int .i64 0] 25 (0, 0))) ∧ (w.heap.size ≤ s_) ∧ (w.heap.size ≤ s_) ∧ (gb285 ≠ s_) ∧ (s_ ≠ gb285) ∧ (gb296 ≠ s_) ∧ (s_ ≠ gb296) ∧ (Below w.heap.size w w')) ?_ ?_
  rotate_left
  · intro hCont
    refine two_ (i := 3) (j := 12) (Ni := some 26) (Nj := some 7) #[true, true, true, true, false, false, true, true, true, false, false, false, false, false] #[true, true, true, false, false, false, true, true, true, false, false, false, true, false] rfl rfl rfl rfl (two_of HT_.out (by kernel_rfl)) (by decide) (by decide) (fun K hK => ?_) (fun K hK => ?_)
    · skip
      refine goes_ Tryd.func18 (by kernel_rfl) rfl #[.int .i64 (rd t287 0)] (by rfl) rfl rfl (by (try simp only [List.map_toArray, List.map_cons, List.map_nil]); rfl) ?_
      with_reducible refine (spec_Decimal.calls k (rd t287 0) t298 _ A12.out).mono ?_
      rintro e w36 ⟨rfl, hb⟩
      have HS0_ := (hb.cell (World.block_lt_of_cell? _ _ (hHeld.1))).trans (hHeld.1)
      have HS1_ := (hb.cell (World.block_lt_of_cell? _ _ (hHeld.2))).trans (hHeld.2)
      refine ⟨_, rfl, ?_⟩
      have n0_ := Aside0.mk (Kd.R_below (by (with_reducible repeat (first | apply Kd.R_alloc | apply Kd.R_drewN | apply Kd.R_drew )); exact HO289.out) hb)
      have n1_ := Aside0.mk (blk_below (g := gb285) (o := .cells #[.bool t281, .bool t282, .int .i64 t283, .int .i64 t284] 25 (0, 0)) (by (with_reducible repeat (first | refine blk_drewN ?_ _ | refine blk_drew ?_ | refine blk_alloc ?_ _ )); exact BK285.out) hb)
      have n2_ := Aside0.mk (blk_below (g := gb296) (o := .cells #[.bool t292, .bool t293, .int .i64 t294, .int .i64 t295] 25 (0, 0)) (by (with_reducible repeat (first | refine blk_drewN ?_ _ | refine blk_drew ?_ | refine blk_alloc ?_ _ )); exact BK296.out) hb)
      have n3_ := Aside0.mk (below_step (by repeat ((with_reducible exact HB.out))) hb)
      clear HO289
      clear BK285
      clear BK296
      clear HB
      have HO289 := n0_
      have BK285 := n1_
      have BK296 := n2_
      have HB := n3_
      clear n0_ n1_ n2_ n3_
      (try clear hb)
      (try clear hb2)
      (try clear hk)
      (try clear hi)
      refine hK.out _ _ ⟨HS0_, HS1_⟩ (fun hHeld => ?_)
      clear hK K
      refine norm_ (a' := ?_) ?_ ?_
      rotate_left
      · show Act.put _ (some 26) _ = _
        simp only [Act.put, List.setIfInBounds_toArray, List.set_cons_zero, List.set_cons_succ, i64_w, i32_w]
        rfl
      refine pure_ (i := 4) (N := some 27) (v := ?_) (a' := ?_) #[true, true, true, true, true, false, true, true, true, false, false, false, false, false] rfl rfl (any_of HT_.out (by kernel_rfl)) (fun _ _ _ h => h) (Or.inl ⟨by rfl, ?_⟩) ?_ ?_
      rotate_left
      · intro w'
        go_simp
        with_reducible rfl
      rotate_left
      · simp only [Act.put, List.setIfInBounds_toArray, List.set_cons_zero, List.set_cons_succ, i64_w, i32_w]
        rfl
      refine pure_ (i := 5) (N := some 28) (v := ?_) (a' := ?_) #[true, true, true, true, true, true, true, true, true, false, false, false, false, false] rfl rfl (any_of HT_.out (by kernel_rfl)) (fun _ _ _ h => h) (Or.inl ⟨by rfl, ?_⟩) ?_ ?_
      rotate_left
      · intro w'
        go_simp
        with_reducible rfl
      rotate_left
      · simp only [Act.put, List.setIfInBounds_toArray, List.set_cons_zero, List.set_cons_succ, i64_w, i32_w]
        rfl
      refine two_ (i := 9) (j := 12) (Ni := some 32) (Nj := some 7) #[true, true, true, true, true, true, true, true, true, true, false, false, false, false] #[true, true, true, true, true, true, true, true, true, false, false, false, true, false] rfl rfl rfl rfl (two_of HT_.out (by kernel_rfl)) (by decide) (by decide) (fun K hK => ?_) (fun K hK => ?_)
      · skip
        refine goes_ Tryd.func18 (by kernel_rfl) rfl #[.int .i64 (rd t287 1)] (by rfl) rfl rfl (by (try simp only [List.map_toArray, List.map_cons, List.map_nil]); rfl) ?_
        with_reducible refine (spec_Decimal.calls k (rd t287 1) t300 _ A16.out).mono ?_
        rintro e w37 ⟨rfl, hb⟩
        have HS0_ := (hb.cell (World.block_lt_of_cell? _ _ (hHeld.1))).trans (hHeld.1)
        have HS1_ := (hb.cell (World.block_lt_of_cell? _ _ (hHeld.2))).trans (hHeld.2)
        refine ⟨_, rfl, ?_⟩
        have n0_ := Aside0.mk (Kd.R_below (by (with_reducible repeat (first | apply Kd.R_alloc | apply Kd.R_drewN | apply Kd.R_drew )); exact HO289.out) hb)
        have n1_ := Aside0.mk (blk_below (g := gb285) (o := .cells #[.bool t281, .bool t282, .int .i64 t283, .int .i64 t284] 25 (0, 0)) (by (with_reducible repeat (first | refine blk_drewN ?_ _ | refine blk_drew ?_ | refine blk_alloc ?_ _ )); exact BK285.out) hb)
        have n2_ := Aside0.mk (blk_below (g := gb296) (o := .cells #[.bool t292, .bool t293, .int .i64 t294, .int .i64 t295] 25 (0, 0)) (by (with_reducible repeat (first | refine blk_drewN ?_ _ | refine blk_drew ?_ | refine blk_alloc ?_ _ )); exact BK296.out) hb)
        have n3_ := Aside0.mk (below_step (by repeat ((with_reducible exact HB.out))) hb)
        clear HO289
        clear BK285
        clear BK296
        clear HB
        have HO289 := n0_
        have BK285 := n1_
        have BK296 := n2_
        have HB := n3_
        clear n0_ n1_ n2_ n3_
        (try clear hb)
        (try clear hb2)
        (try clear hk)
        (try clear hi)
        refine hK.out _ _ ⟨HS0_, HS1_⟩ (fun hHeld => ?_)
        clear hK K
        refine norm_ (a' := ?_) ?_ ?_
        rotate_left
        · show Act.put _ (some 32) _ = _
          simp only [Act.put, List.setIfInBounds_toArray, List.set_cons_zero, List.set_cons_succ, i64_w, i32_w]
          rfl
        refine pure_ (i := 10) (N := some 33) (v := ?_) (a' := ?_) #[true, true, true, true, true, true, true, true, true, true, true, false, false, false] rfl rfl (any_of HT_.out (by kernel_rfl)) (fun _ _ _ h => h) (Or.inl ⟨by rfl, ?_⟩) ?_ ?_
        rotate_left
        · intro w'
          go_simp
          with_reducible rfl
        rotate_left
        · simp only [Act.put, List.setIfInBounds_toArray, List.set_cons_zero, List.set_cons_succ, i64_w, i32_w]
          rfl
        refine two_ (i := 11) (j := 12) (Ni := some 34) (Nj := some 7) #[true, true, true, true, true, true, true, true, true, true, true, true, false, false] #[true, true, true, true, true, true, true, true, true, true, true, false, true, false] rfl rfl rfl rfl (two_of HT_.out (by kernel_rfl)) (by decide) (by decide) (fun K hK => ?_) (fun K hK => ?_)
        · skip
          refine goes_ Tryd.func12 (by kernel_rfl) rfl #[.string ((((⟨#[109, 97, 120, 45, 97, 103, 101, 61]⟩ : ByteArray) ++ t298) ++ (⟨#[44, 32, 115, 45, 109, 97, 120, 97, 103, 101, 61]⟩ : ByteArray)) ++ t300)] (by rfl) rfl rfl (by (try simp only [List.map_toArray, List.map_cons, List.map_nil]); rfl) ?_
          with_reducible refine (impl_ControlOf.calls k ((((⟨#[109, 97, 120, 45, 97, 103, 101, 61]⟩ : ByteArray) ++ t298) ++ (⟨#[44, 32, 115, 45, 109, 97, 120, 97, 103, 101, 61]⟩ : ByteArray)) ++ t300) t301 t302 t303 t304 _ ?side1 A18.out).mono ?_
          (case side1 => exact Shp.below HSH.out (by repeat ((with_reducible exact HB.out))))
          rintro e w38 ⟨rfl, hb⟩
          have HS0_ := (hb.cell (World.block_lt_of_cell? _ _ (hHeld.1))).trans (hHeld.1)
          have HS1_ := (hb.cell (World.block_lt_of_cell? _ _ (hHeld.2))).trans (hHeld.2)
          refine ⟨_, rfl, ?_⟩
          have n0_ := Aside0.mk (Kd.R_below (by (with_reducible repeat (first | apply Kd.R_alloc | apply Kd.R_drewN | apply Kd.R_drew )); exact HO289.out) hb)
          have n1_ := Aside0.mk (blk_below (g := gb285) (o := .cells #[.bool t281, .bool t282, .int .i64 t283, .int .i64 t284] 25 (0, 0)) (by (with_reducible repeat (first | refine blk_drewN ?_ _ | refine blk_drew ?_ | refine blk_alloc ?_ _ )); exact BK285.out) hb)
          have n2_ := Aside0.mk (blk_below (g := gb296) (o := .cells #[.bool t292, .bool t293, .int .i64 t294, .int .i64 t295] 25 (0, 0)) (by (with_reducible repeat (first | refine blk_drewN ?_ _ | refine blk_drew ?_ | refine blk_alloc ?_ _ )); exact BK296.out) hb)
          have n3_ := Aside0.mk (below_step (by repeat ((with_reducible exact HB.out))) hb)
          clear HO289
          clear BK285
          clear BK296
          clear HB
          have HO289 := n0_
          have BK285 := n1_
          have BK296 := n2_
          have HB := n3_
          clear n0_ n1_ n2_ n3_
          (try clear hb)
          (try clear hb2)
          (try clear hk)
          (try clear hi)
          refine hK.out _ _ ⟨HS0_, HS1_⟩ (fun hHeld => ?_)
          clear hK K
          refine norm_ (a' := ?_) ?_ ?_
          rotate_left
          · show Act.put _ (some 34) _ = _
            simp only [Act.put, List.setIfInBounds_toArray, List.set_cons_zero, List.set_cons_succ, i64_w, i32_w]
            rfl
          refine one_ (i := 12) (N := some 7) #[true, true, true, true, true, true, true, true, true, true, true, true, true, false] rfl rfl (one_of HT_.out (by kernel_rfl)) (by decide) (fun K hK => ?_)
          refine box_step ?hg (N := 7) ?hd (cs := #[.bool false, .bool false, .int .i64 0, .int .i64 0]) (t := 25) ?hr ?_; (case hd => rfl); (case hg => rfl); (case hr => (go_simp; done))
          intro gb305 hg w39 hbox hb
          have HS0_ := (hb.cell (World.block_lt_of_cell? _ _ (hHeld.1))).trans (hHeld.1)
          have HS1_ := (hb.cell (World.block_lt_of_cell? _ _ (hHeld.2))).trans (hHeld.2)
          have n0_ := Aside0.mk (Kd.R_below (by (with_reducible repeat (first | apply Kd.R_alloc | apply Kd.R_drewN | apply Kd.R_drew )); exact HO289.out) hb)
          have n1_ := Aside0.mk (blk_below (g := gb285) (o := .cells #[.bool t281, .bool t282, .int .i64 t283, .int .i64 t284] 25 (0, 0)) (by (with_reducible repeat (first | refine blk_drewN ?_ _ | refine blk_drew ?_ | refine blk_alloc ?_ _ )); exact BK285.out) hb)
          have n2_ := Aside0.mk (blk_below (g := gb296) (o := .cells #[.bool t292, .bool t293, .int .i64 t294, .int .i64 t295] 25 (0, 0)) (by (with_reducible repeat (first | refine blk_drewN ?_ _ | refine blk_drew ?_ | refine blk_alloc ?_ _ )); exact BK296.out) hb)
          have n3_ := Aside0.mk (below_step (by repeat ((with_reducible exact HB.out))) hb)
          have n4_ := Aside0.mk (hbox)
          have n5_ := Aside0.mk ((by rw [hg]; exact (below_size (by repeat ((with_reducible exact HB.out)))) : w.heap.size ≤ gb305))
          have n6_ := Aside0.mk ((by rw [hg]; exact (below_size (by repeat ((with_reducible exact HB.out)))) : w.heap.size ≤ gb305))
          have n7_ := Aside0.mk ((by rw [hg]; exact Nat.ne_of_lt (blk_lt (g := gb285) (o := .cells #[.bool t281, .bool t282, .int .i64 t283, .int .i64 t284] 25 (0, 0)) (by (with_reducible repeat (first | refine blk_drewN ?_ _ | refine blk_drew ?_ | refine blk_alloc ?_ _ )); exact BK285.out)) : gb285 ≠ gb305))
          have n8_ := Aside0.mk ((by rw [hg]; exact Nat.ne_of_gt (blk_lt (g := gb285) (o := .cells #[.bool t281, .bool t282, .int .i64 t283, .int .i64 t284] 25 (0, 0)) (by (with_reducible repeat (first | refine blk_drewN ?_ _ | refine blk_drew ?_ | refine blk_alloc ?_ _ )); exact BK285.out)) : gb305 ≠ gb285))
          have n9_ := Aside0.mk ((by rw [hg]; exact Nat.ne_of_lt (blk_lt (g := gb296) (o := .cells #[.bool t292, .bool t293, .int .i64 t294, .int .i64 t295] 25 (0, 0)) (by (with_reducible repeat (first | refine blk_drewN ?_ _ | refine blk_drew ?_ | refine blk_alloc ?_ _ )); exact BK296.out)) : gb296 ≠ gb305))
          have n10_ := Aside0.mk ((by rw [hg]; exact Nat.ne_of_gt (blk_lt (g := gb296) (o := .cells #[.bool t292, .bool t293, .int .i64 t294, .int .i64 t295] 25 (0, 0)) (by (with_reducible repeat (first | refine blk_drewN ?_ _ | refine blk_drew ?_ | refine blk_alloc ?_ _ )); exact BK296.out)) : gb305 ≠ gb296))
          clear HO289
          clear BK285
          clear BK296
          clear HB
          have HO289 := n0_
          have BK285 := n1_
          have BK296 := n2_
          have HB := n3_
          have BK305 := n4_
          have GW305 := n5_
          have GE305 := n6_
          have NB285_305 := n7_
          have NB305_285 := n8_
          have NB296_305 := n9_
          have NB305_296 := n10_
          clear n0_ n1_ n2_ n3_ n4_ n5_ n6_ n7_ n8_ n9_ n10_
          clear hb hbox hg
          refine hK.out _ _ ⟨HS0_, HS1_⟩ (fun hHeld => ?_)
          clear hK K
          refine norm_ (a' := ?_) ?_ ?_
          rotate_left
          · show Act.put _ (some 7) _ = _
            simp only [Act.put, List.setIfInBounds_toArray, List.set_cons_zero, List.set_cons_succ, i64_w, i32_w]
            rfl
          exact norm_ (by simp only [putAll, Act.put, List.setIfInBounds_toArray, List.set_cons_zero, List.set_cons_succ]) (hCont (gb305) _ ⟨hHeld, (by (with_reducible repeat (first | apply Kd.R_alloc | apply Kd.R_drewN | apply Kd.R_drew )); exact HO289.out), (by (with_reducible repeat (first | refine blk_drewN ?_ _ | refine blk_drew ?_ | refine blk_alloc ?_ _ )); exact BK285.out), (by (with_reducible repeat (first | refine blk_drewN ?_ _ | refine blk_drew ?_ | refine blk_alloc ?_ _ )); exact BK296.out), (by (with_reducible repeat (first | refine blk_drewN ?_ _ | refine blk_drew ?_ | refine blk_alloc ?_ _ )); exact BK305.out), GW305.out, GE305.out, NB285_305.out, NB305_285.out, NB296_305.out, NB305_296.out, (by repeat ((with_reducible exact HB.out)))⟩)
        · skip
          refine box_step ?hg (N := 7) ?hd (cs := #[.bool false, .bool false, .int .i64 0, .int .i64 0]) (t := 25) ?hr ?_; (case hd => rfl); (case hg => rfl); (case hr => (go_simp; done))
          intro gb305 hg w38 hbox hb
          have HS0_ := (hb.cell (World.block_lt_of_cell? _ _ (hHeld.1))).trans (hHeld.1)
          have HS1_ := (hb.cell (World.block_lt_of_cell? _ _ (hHeld.2))).trans (hHeld.2)
          have n0_ := Aside0.mk (Kd.R_below (by (with_reducible repeat (first | apply Kd.R_alloc | apply Kd.R_drewN | apply Kd.R_drew )); exact HO289.out) hb)
          have n1_ := Aside0.mk (blk_below (g := gb285) (o := .cells #[.bool t281, .bool t282, .int .i64 t283, .int .i64 t284] 25 (0, 0)) (by (with_reducible repeat (first | refine blk_drewN ?_ _ | refine blk_drew ?_ | refine blk_alloc ?_ _ )); exact BK285.out) hb)
          have n2_ := Aside0.mk (blk_below (g := gb296) (o := .cells #[.bool t292, .bool t293, .int .i64 t294, .int .i64 t295] 25 (0, 0)) (by (with_reducible repeat (first | refine blk_drewN ?_ _ | refine blk_drew ?_ | refine blk_alloc ?_ _ )); exact BK296.out) hb)
          have n3_ := Aside0.mk (below_step (by repeat ((with_reducible exact HB.out))) hb)
          have n4_ := Aside0.mk (hbox)
          have n5_ := Aside0.mk ((by rw [hg]; exact (below_size (by repeat ((with_reducible exact HB.out)))) : w.heap.size ≤ gb305))
          have n6_ := Aside0.mk ((by rw [hg]; exact (below_size (by repeat ((with_reducible exact HB.out)))) : w.heap.size ≤ gb305))
          have n7_ := Aside0.mk ((by rw [hg]; exact Nat.ne_of_lt (blk_lt (g := gb285) (o := .cells #[.bool t281, .bool t282, .int .i64 t283, .int .i64 t284] 25 (0, 0)) (by (with_reducible repeat (first | refine blk_drewN ?_ _ | refine blk_drew ?_ | refine blk_alloc ?_ _ )); exact BK285.out)) : gb285 ≠ gb305))
          have n8_ := Aside0.mk ((by rw [hg]; exact Nat.ne_of_gt (blk_lt (g := gb285) (o := .cells #[.bool t281, .bool t282, .int .i64 t283, .int .i64 t284] 25 (0, 0)) (by (with_reducible repeat (first | refine blk_drewN ?_ _ | refine blk_drew ?_ | refine blk_alloc ?_ _ )); exact BK285.out)) : gb305 ≠ gb285))
          have n9_ := Aside0.mk ((by rw [hg]; exact Nat.ne_of_lt (blk_lt (g := gb296) (o := .cells #[.bool t292, .bool t293, .int .i64 t294, .int .i64 t295] 25 (0, 0)) (by (with_reducible repeat (first | refine blk_drewN ?_ _ | refine blk_drew ?_ | refine blk_alloc ?_ _ )); exact BK296.out)) : gb296 ≠ gb305))
          have n10_ := Aside0.mk ((by rw [hg]; exact Nat.ne_of_gt (blk_lt (g := gb296) (o := .cells #[.bool t292, .bool t293, .int .i64 t294, .int .i64 t295] 25 (0, 0)) (by (with_reducible repeat (first | refine blk_drewN ?_ _ | refine blk_drew ?_ | refine blk_alloc ?_ _ )); exact BK296.out)) : gb305 ≠ gb296))
          clear HO289
          clear BK285
          clear BK296
          clear HB
          have HO289 := n0_
          have BK285 := n1_
          have BK296 := n2_
          have HB := n3_
          have BK305 := n4_
          have GW305 := n5_
          have GE305 := n6_
          have NB285_305 := n7_
          have NB305_285 := n8_
          have NB296_305 := n9_
          have NB305_296 := n10_
          clear n0_ n1_ n2_ n3_ n4_ n5_ n6_ n7_ n8_ n9_ n10_
          clear hb hbox hg
          refine hK.out _ _ ⟨HS0_, HS1_⟩ (fun hHeld => ?_)
          clear hK K
          refine norm_ (a' := ?_) ?_ ?_
          rotate_left
          · show Act.put _ (some 7) _ = _
            simp only [Act.put, List.setIfInBounds_toArray, List.set_cons_zero, List.set_cons_succ, i64_w, i32_w]
            rfl
          refine one_ (i := 11) (N := some 34) #[true, true, true, true, true, true, true, true, true, true, true, true, true, false] rfl rfl (one_of HT_.out (by kernel_rfl)) (by decide) (fun K hK => ?_)
          refine goes_ Tryd.func12 (by kernel_rfl) rfl #[.string ((((⟨#[109, 97, 120, 45, 97, 103, 101, 61]⟩ : ByteArray) ++ t298) ++ (⟨#[44, 32, 115, 45, 109, 97, 120, 97, 103, 101, 61]⟩ : ByteArray)) ++ t300)] (by rfl) rfl rfl (by (try simp only [List.map_toArray, List.map_cons, List.map_nil]); rfl) ?_
          with_reducible refine (impl_ControlOf.calls k ((((⟨#[109, 97, 120, 45, 97, 103, 101, 61]⟩ : ByteArray) ++ t298) ++ (⟨#[44, 32, 115, 45, 109, 97, 120, 97, 103, 101, 61]⟩ : ByteArray)) ++ t300) t301 t302 t303 t304 _ ?side1 A18.out).mono ?_
          (case side1 => exact Shp.below HSH.out (by repeat ((with_reducible exact HB.out))))
          rintro e w39 ⟨rfl, hb⟩
          have HS0_ := (hb.cell (World.block_lt_of_cell? _ _ (hHeld.1))).trans (hHeld.1)
          have HS1_ := (hb.cell (World.block_lt_of_cell? _ _ (hHeld.2))).trans (hHeld.2)
          refine ⟨_, rfl, ?_⟩
          have n0_ := Aside0.mk (Kd.R_below (by (with_reducible repeat (first | apply Kd.R_alloc | apply Kd.R_drewN | apply Kd.R_drew )); exact HO289.out) hb)
          have n1_ := Aside0.mk (blk_below (g := gb285) (o := .cells #[.bool t281, .bool t282, .int .i64 t283, .int .i64 t284] 25 (0, 0)) (by (with_reducible repeat (first | refine blk_drewN ?_ _ | refine blk_drew ?_ | refine blk_alloc ?_ _ )); exact BK285.out) hb)
          have n2_ := Aside0.mk (blk_below (g := gb296) (o := .cells #[.bool t292, .bool t293, .int .i64 t294, .int .i64 t295] 25 (0, 0)) (by (with_reducible repeat (first | refine blk_drewN ?_ _ | refine blk_drew ?_ | refine blk_alloc ?_ _ )); exact BK296.out) hb)
          have n3_ := Aside0.mk (blk_below (g := gb305) (o := .cells #[.bool false, .bool false, .int .i64 0, .int .i64 0] 25 (0, 0)) (by (with_reducible repeat (first | refine blk_drewN ?_ _ | refine blk_drew ?_ | refine blk_alloc ?_ _ )); exact BK305.out) hb)
          have n4_ := Aside0.mk (below_step (by repeat ((with_reducible exact HB.out))) hb)
          clear HO289
          clear BK285
          clear BK296
          clear BK305
          clear HB
          have HO289 := n0_
          have BK285 := n1_
          have BK296 := n2_
          have BK305 := n3_
          have HB := n4_
          clear n0_ n1_ n2_ n3_ n4_
          (try clear hb)
          (try clear hb2)
          (try clear hk)
          (try clear hi)
          refine hK.out _ _ ⟨HS0_, HS1_⟩ (fun hHeld => ?_)
          clear hK K
          refine norm_ (a' := ?_) ?_ ?_
          rotate_left
          · show Act.put _ (some 34) _ = _
            simp only [Act.put, List.setIfInBounds_toArray, List.set_cons_zero, List.set_cons_succ, i64_w, i32_w]
            rfl
          exact norm_ (by simp only [putAll, Act.put, List.setIfInBounds_toArray, List.set_cons_zero, List.set_cons_succ]) (hCont (gb305) _ ⟨hHeld, (by (with_reducible repeat (first | apply Kd.R_alloc | apply Kd.R_drewN | apply Kd.R_drew )); exact HO289.out), (by (with_reducible repeat (first | refine blk_drewN ?_ _ | refine blk_drew ?_ | refine blk_alloc ?_ _ )); exact BK285.out), (by (with_reducible repeat (first | refine blk_drewN ?_ _ | refine blk_drew ?_ | refine blk_alloc ?_ _ )); exact BK296.out), (by (with_reducible repeat (first | refine blk_drewN ?_ _ | refine blk_drew ?_ | refine blk_alloc ?_ _ )); exact BK305.out), GW305.out, GE305.out, NB285_305.out, NB305_285.out, NB296_305.out, NB305_296.out, (by repeat ((with_reducible exact HB.out)))⟩)
      · skip
        refine box_step ?hg (N := 7) ?hd (cs := #[.bool false, .bool false, .int .i64 0, .int .i64 0]) (t := 25) ?hr ?_; (case hd => rfl); (case hg => rfl); (case hr => (go_simp; done))
        intro gb305 hg w37 hbox hb
        have HS0_ := (hb.cell (World.block_lt_of_cell? _ _ (hHeld.1))).trans (hHeld.1)
        have HS1_ := (hb.cell (World.block_lt_of_cell? _ _ (hHeld.2))).trans (hHeld.2)
        have n0_ := Aside0.mk (Kd.R_below (by (with_reducible repeat (first | apply Kd.R_alloc | apply Kd.R_drewN | apply Kd.R_drew )); exact HO289.out) hb)
        have n1_ := Aside0.mk (blk_below (g := gb285) (o := .cells #[.bool t281, .bool t282, .int .i64 t283, .int .i64 t284] 25 (0, 0)) (by (with_reducible repeat (first | refine blk_drewN ?_ _ | refine blk_drew ?_ | refine blk_alloc ?_ _ )); exact BK285.out) hb)
        have n2_ := Aside0.mk (blk_below (g := gb296) (o := .cells #[.bool t292, .bool t293, .int .i64 t294, .int .i64 t295] 25 (0, 0)) (by (with_reducible repeat (first | refine blk_drewN ?_ _ | refine blk_drew ?_ | refine blk_alloc ?_ _ )); exact BK296.out) hb)
        have n3_ := Aside0.mk (below_step (by repeat ((with_reducible exact HB.out))) hb)
        have n4_ := Aside0.mk (hbox)
        have n5_ := Aside0.mk ((by rw [hg]; exact (below_size (by repeat ((with_reducible exact HB.out)))) : w.heap.size ≤ gb305))
        have n6_ := Aside0.mk ((by rw [hg]; exact (below_size (by repeat ((with_reducible exact HB.out)))) : w.heap.size ≤ gb305))
        have n7_ := Aside0.mk ((by rw [hg]; exact Nat.ne_of_lt (blk_lt (g := gb285) (o := .cells #[.bool t281, .bool t282, .int .i64 t283, .int .i64 t284] 25 (0, 0)) (by (with_reducible repeat (first | refine blk_drewN ?_ _ | refine blk_drew ?_ | refine blk_alloc ?_ _ )); exact BK285.out)) : gb285 ≠ gb305))
        have n8_ := Aside0.mk ((by rw [hg]; exact Nat.ne_of_gt (blk_lt (g := gb285) (o := .cells #[.bool t281, .bool t282, .int .i64 t283, .int .i64 t284] 25 (0, 0)) (by (with_reducible repeat (first | refine blk_drewN ?_ _ | refine blk_drew ?_ | refine blk_alloc ?_ _ )); exact BK285.out)) : gb305 ≠ gb285))
        have n9_ := Aside0.mk ((by rw [hg]; exact Nat.ne_of_lt (blk_lt (g := gb296) (o := .cells #[.bool t292, .bool t293, .int .i64 t294, .int .i64 t295] 25 (0, 0)) (by (with_reducible repeat (first | refine blk_drewN ?_ _ | refine blk_drew ?_ | refine blk_alloc ?_ _ )); exact BK296.out)) : gb296 ≠ gb305))
        have n10_ := Aside0.mk ((by rw [hg]; exact Nat.ne_of_gt (blk_lt (g := gb296) (o := .cells #[.bool t292, .bool t293, .int .i64 t294, .int .i64 t295] 25 (0, 0)) (by (with_reducible repeat (first | refine blk_drewN ?_ _ | refine blk_drew ?_ | refine blk_alloc ?_ _ )); exact BK296.out)) : gb305 ≠ gb296))
        clear HO289
        clear BK285
        clear BK296
        clear HB
        have HO289 := n0_
        have BK285 := n1_
        have BK296 := n2_
        have HB := n3_
        have BK305 := n4_
        have GW305 := n5_
        have GE305 := n6_
        have NB285_305 := n7_
        have NB305_285 := n8_
        have NB296_305 := n9_
        have NB305_296 := n10_
        clear n0_ n1_ n2_ n3_ n4_ n5_ n6_ n7_ n8_ n9_ n10_
        clear hb hbox hg
        refine hK.out _ _ ⟨HS0_, HS1_⟩ (fun hHeld => ?_)
        clear hK K
        refine norm_ (a' := ?_) ?_ ?_
        rotate_left
        · show Act.put _ (some 7) _ = _
          simp only [Act.put, List.setIfInBounds_toArray, List.set_cons_zero, List.set_cons_succ, i64_w, i32_w]
          rfl
        refine one_ (i := 9) (N := some 32) #[true, true, true, true, true, true, true, true, true, true, false, false, true, false] rfl rfl (one_of HT_.out (by kernel_rfl)) (by decide) (fun K hK => ?_)
        refine goes_ Tryd.func18 (by kernel_rfl) rfl #[.int .i64 (rd t287 1)] (by rfl) rfl rfl (by (try simp only [List.map_toArray, List.map_cons, List.map_nil]); rfl) ?_
        with_reducible refine (spec_Decimal.calls k (rd t287 1) t300 _ A16.out).mono ?_
        rintro e w38 ⟨rfl, hb⟩
        have HS0_ := (hb.cell (World.block_lt_of_cell? _ _ (hHeld.1))).trans (hHeld.1)
        have HS1_ := (hb.cell (World.block_lt_of_cell? _ _ (hHeld.2))).trans (hHeld.2)
        refine ⟨_, rfl, ?_⟩
        have n0_ := Aside0.mk (Kd.R_below (by (with_reducible repeat (first | apply Kd.R_alloc | apply Kd.R_drewN | apply Kd.R_drew )); exact HO289.out) hb)
        have n1_ := Aside0.mk (blk_below (g := gb285) (o := .cells #[.bool t281, .bool t282, .int .i64 t283, .int .i64 t284] 25 (0, 0)) (by (with_reducible repeat (first | refine blk_drewN ?_ _ | refine blk_drew ?_ | refine blk_alloc ?_ _ )); exact BK285.out) hb)
        have n2_ := Aside0.mk (blk_below (g := gb296) (o := .cells #[.bool t292, .bool t293, .int .i64 t294, .int .i64 t295] 25 (0, 0)) (by (with_reducible repeat (first | refine blk_drewN ?_ _ | refine blk_drew ?_ | refine blk_alloc ?_ _ )); exact BK296.out) hb)
        have n3_ := Aside0.mk (blk_below (g := gb305) (o := .cells #[.bool false, .bool false, .int .i64 0, .int .i64 0] 25 (0, 0)) (by (with_reducible repeat (first | refine blk_drewN ?_ _ | refine blk_drew ?_ | refine blk_alloc ?_ _ )); exact BK305.out) hb)
        have n4_ := Aside0.mk (below_step (by repeat ((with_reducible exact HB.out))) hb)
        clear HO289
        clear BK285
        clear BK296
        clear BK305
        clear HB
        have HO289 := n0_
        have BK285 := n1_
        have BK296 := n2_
        have BK305 := n3_
        have HB := n4_
        clear n0_ n1_ n2_ n3_ n4_
        (try clear hb)
        (try clear hb2)
        (try clear hk)
        (try clear hi)
        refine hK.out _ _ ⟨HS0_, HS1_⟩ (fun hHeld => ?_)
        clear hK K
        refine norm_ (a' := ?_) ?_ ?_
        rotate_left
        · show Act.put _ (some 32) _ = _
          simp only [Act.put, List.setIfInBounds_toArray, List.set_cons_zero, List.set_cons_succ, i64_w, i32_w]
          rfl
        refine pure_ (i := 10) (N := some 33) (v := ?_) (a' := ?_) #[true, true, true, true, true, true, true, true, true, true, true, false, true, false] rfl rfl (any_of HT_.out (by kernel_rfl)) (fun _ _ _ h => h) (Or.inl ⟨by rfl, ?_⟩) ?_ ?_
        rotate_left
        · intro w'
          go_simp
          with_reducible rfl
        rotate_left
        · simp only [Act.put, List.setIfInBounds_toArray, List.set_cons_zero, List.set_cons_succ, i64_w, i32_w]
          rfl
        refine one_ (i := 11) (N := some 34) #[true, true, true, true, true, true, true, true, true, true, true, true, true, false] rfl rfl (one_of HT_.out (by kernel_rfl)) (by decide) (fun K hK => ?_)
        refine goes_ Tryd.func12 (by kernel_rfl) rfl #[.string ((((⟨#[109, 97, 120, 45, 97, 103, 101, 61]⟩ : ByteArray) ++ t298) ++ (⟨#[44, 32, 115, 45, 109, 97, 120, 97, 103, 101, 61]⟩ : ByteArray)) ++ t300)] (by rfl) rfl rfl (by (try simp only [List.map_toArray, List.map_cons, List.map_nil]); rfl) ?_
        with_reducible refine (impl_ControlOf.calls k ((((⟨#[109, 97, 120, 45, 97, 103, 101, 61]⟩ : ByteArray) ++ t298) ++ (⟨#[44, 32, 115, 45, 109, 97, 120, 97, 103, 101, 61]⟩ : ByteArray)) ++ t300) t301 t302 t303 t304 _ ?side1 A18.out).mono ?_
        (case side1 => exact Shp.below HSH.out (by repeat ((with_reducible exact HB.out))))
        rintro e w39 ⟨rfl, hb⟩
        have HS0_ := (hb.cell (World.block_lt_of_cell? _ _ (hHeld.1))).trans (hHeld.1)
        have HS1_ := (hb.cell (World.block_lt_of_cell? _ _ (hHeld.2))).trans (hHeld.2)
        refine ⟨_, rfl, ?_⟩
        have n0_ := Aside0.mk (Kd.R_below (by (with_reducible repeat (first | apply Kd.R_alloc | apply Kd.R_drewN | apply Kd.R_drew )); exact HO289.out) hb)
        have n1_ := Aside0.mk (blk_below (g := gb285) (o := .cells #[.bool t281, .bool t282, .int .i64 t283, .int .i64 t284] 25 (0, 0)) (by (with_reducible repeat (first | refine blk_drewN ?_ _ | refine blk_drew ?_ | refine blk_alloc ?_ _ )); exact BK285.out) hb)
        have n2_ := Aside0.mk (blk_below (g := gb296) (o := .cells #[.bool t292, .bool t293, .int .i64 t294, .int .i64 t295] 25 (0, 0)) (by (with_reducible repeat (first | refine blk_drewN ?_ _ | refine blk_drew ?_ | refine blk_alloc ?_ _ )); exact BK296.out) hb)
        have n3_ := Aside0.mk (blk_below (g := gb305) (o := .cells #[.bool false, .bool false, .int .i64 0, .int .i64 0] 25 (0, 0)) (by (with_reducible repeat (first | refine blk_drewN ?_ _ | refine blk_drew ?_ | refine blk_alloc ?_ _ )); exact BK305.out) hb)
        have n4_ := Aside0.mk (below_step (by repeat ((with_reducible exact HB.out))) hb)
        clear HO289
        clear BK285
        clear BK296
        clear BK305
        clear HB
        have HO289 := n0_
        have BK285 := n1_
        have BK296 := n2_
        have BK305 := n3_
        have HB := n4_
        clear n0_ n1_ n2_ n3_ n4_
        (try clear hb)
        (try clear hb2)
        (try clear hk)
        (try clear hi)
        refine hK.out _ _ ⟨HS0_, HS1_⟩ (fun hHeld => ?_)
        clear hK K
        refine norm_ (a' := ?_) ?_ ?_
        rotate_left
        · show Act.put _ (some 34) _ = _
          simp only [Act.put, List.setIfInBounds_toArray, List.set_cons_zero, List.set_cons_succ, i64_w, i32_w]
          rfl
        exact norm_ (by simp only [putAll, Act.put, List.setIfInBounds_toArray, List.set_cons_zero, List.set_cons_succ]) (hCont (gb305) _ ⟨hHeld, (by (with_reducible repeat (first | apply Kd.R_alloc | apply Kd.R_drewN | apply Kd.R_drew )); exact HO289.out), (by (with_reducible repeat (first | refine blk_drewN ?_ _ | refine blk_drew ?_ | refine blk_alloc ?_ _ )); exact BK285.out), (by (with_reducible repeat (first | refine blk_drewN ?_ _ | refine blk_drew ?_ | refine blk_alloc ?_ _ )); exact BK296.out), (by (with_reducible repeat (first | refine blk_drewN ?_ _ | refine blk_drew ?_ | refine blk_alloc ?_ _ )); exact BK305.out), GW305.out, GE305.out, NB285_305.out, NB305_285.out, NB296_305.out, NB305_296.out, (by repeat ((with_reducible exact HB.out)))⟩)
    · skip
      refine box_step ?hg (N := 7) ?hd (cs := #[.bool false, .bool false, .int .i64 0, .int .i64 0]) (t := 25) ?hr ?_; (case hd => rfl); (case hg => rfl); (case hr => (go_simp; done))
      intro gb305 hg w36 hbox hb
      have HS0_ := (hb.cell (World.block_lt_of_cell? _ _ (hHeld.1))).trans (hHeld.1)
      have HS1_ := (hb.cell (World.block_lt_of_cell? _ _ (hHeld.2))).trans (hHeld.2)
      have n0_ := Aside0.mk (Kd.R_below (by (with_reducible repeat (first | apply Kd.R_alloc | apply Kd.R_drewN | apply Kd.R_drew )); exact HO289.out) hb)
      have n1_ := Aside0.mk (blk_below (g := gb285) (o := .cells #[.bool t281, .bool t282, .int .i64 t283, .int .i64 t284] 25 (0, 0)) (by (with_reducible repeat (first | refine blk_drewN ?_ _ | refine blk_drew ?_ | refine blk_alloc ?_ _ )); exact BK285.out) hb)
      have n2_ := Aside0.mk (blk_below (g := gb296) (o := .cells #[.bool t292, .bool t293, .int .i64 t294, .int .i64 t295] 25 (0, 0)) (by (with_reducible repeat (first | refine blk_drewN ?_ _ | refine blk_drew ?_ | refine blk_alloc ?_ _ )); exact BK296.out) hb)
      have n3_ := Aside0.mk (below_step (by repeat ((with_reducible exact HB.out))) hb)
      have n4_ := Aside0.mk (hbox)
      have n5_ := Aside0.mk ((by rw [hg]; exact (below_size (by repeat ((with_reducible exact HB.out)))) : w.heap.size ≤ gb305))
      have n6_ := Aside0.mk ((by rw [hg]; exact (below_size (by repeat ((with_reducible exact HB.out)))) : w.heap.size ≤ gb305))
      have n7_ := Aside0.mk ((by rw [hg]; exact Nat.ne_of_lt (blk_lt (g := gb285) (o := .cells #[.bool t281, .bool t282, .int .i64 t283, .int .i64 t284] 25 (0, 0)) (by (with_reducible repeat (first | refine blk_drewN ?_ _ | refine blk_drew ?_ | refine blk_alloc ?_ _ )); exact BK285.out)) : gb285 ≠ gb305))
      have n8_ := Aside0.mk ((by rw [hg]; exact Nat.ne_of_gt (blk_lt (g := gb285) (o := .cells #[.bool t281, .bool t282, .int .i64 t283, .int .i64 t284] 25 (0, 0)) (by (with_reducible repeat (first | refine blk_drewN ?_ _ | refine blk_drew ?_ | refine blk_alloc ?_ _ )); exact BK285.out)) : gb305 ≠ gb285))
      have n9_ := Aside0.mk ((by rw [hg]; exact Nat.ne_of_lt (blk_lt (g := gb296) (o := .cells #[.bool t292, .bool t293, .int .i64 t294, .int .i64 t295] 25 (0, 0)) (by (with_reducible repeat (first | refine blk_drewN ?_ _ | refine blk_drew ?_ | refine blk_alloc ?_ _ )); exact BK296.out)) : gb296 ≠ gb305))
      have n10_ := Aside0.mk ((by rw [hg]; exact Nat.ne_of_gt (blk_lt (g := gb296) (o := .cells #[.bool t292, .bool t293, .int .i64 t294, .int .i64 t295] 25 (0, 0)) (by (with_reducible repeat (first | refine blk_drewN ?_ _ | refine blk_drew ?_ | refine blk_alloc ?_ _ )); exact BK296.out)) : gb305 ≠ gb296))
      clear HO289
      clear BK285
      clear BK296
      clear HB
      have HO289 := n0_
      have BK285 := n1_
      have BK296 := n2_
      have HB := n3_
      have BK305 := n4_
      have GW305 := n5_
      have GE305 := n6_
      have NB285_305 := n7_
      have NB305_285 := n8_
      have NB296_305 := n9_
      have NB305_296 := n10_
      clear n0_ n1_ n2_ n3_ n4_ n5_ n6_ n7_ n8_ n9_ n10_
      clear hb hbox hg
      refine hK.out _ _ ⟨HS0_, HS1_⟩ (fun hHeld => ?_)
      clear hK K
      refine norm_ (a' := ?_) ?_ ?_
      rotate_left
      · show Act.put _ (some 7) _ = _
        simp only [Act.put, List.setIfInBounds_toArray, List.set_cons_zero, List.set_cons_succ, i64_w, i32_w]
        rfl
      refine one_ (i := 3) (N := some 26) #[true, true, true, true, false, false, true, true, true, false, false, false, true, false] rfl rfl (one_of HT_.out (by kernel_rfl)) (by decide) (fun K hK => ?_)
      refine goes_ Tryd.func18 (by kernel_rfl) rfl #[.int .i64 (rd t287 0)] (by rfl) rfl rfl (by (try simp only [List.map_toArray, List.map_cons, List.map_nil]); rfl) ?_
      with_reducible refine (spec_Decimal.calls k (rd t287 0) t298 _ A12.out).mono ?_
      rintro e w37 ⟨rfl, hb⟩
      have HS0_ := (hb.cell (World.block_lt_of_cell? _ _ (hHeld.1))).trans (hHeld.1)
      have HS1_ := (hb.cell (World.block_lt_of_cell? _ _ (hHeld.2))).trans (hHeld.2)
      refine ⟨_, rfl, ?_⟩
      have n0_ := Aside0.mk (Kd.R_below (by (with_reducible repeat (first | apply Kd.R_alloc | apply Kd.R_drewN | apply Kd.R_drew )); exact HO289.out) hb)
      have n1_ := Aside0.mk (blk_below (g := gb285) (o := .cells #[.bool t281, .bool t282, .int .i64 t283, .int .i64 t284] 25 (0, 0)) (by (with_reducible repeat (first | refine blk_drewN ?_ _ | refine blk_drew ?_ | refine blk_alloc ?_ _ )); exact BK285.out) hb)
      have n2_ := Aside0.mk (blk_below (g := gb296) (o := .cells #[.bool t292, .bool t293, .int .i64 t294, .int .i64 t295] 25 (0, 0)) (by (with_reducible repeat (first | refine blk_drewN ?_ _ | refine blk_drew ?_ | refine blk_alloc ?_ _ )); exact BK296.out) hb)
      have n3_ := Aside0.mk (blk_below (g := gb305) (o := .cells #[.bool false, .bool false, .int .i64 0, .int .i64 0] 25 (0, 0)) (by (with_reducible repeat (first | refine blk_drewN ?_ _ | refine blk_drew ?_ | refine blk_alloc ?_ _ )); exact BK305.out) hb)
      have n4_ := Aside0.mk (below_step (by repeat ((with_reducible exact HB.out))) hb)
      clear HO289
      clear BK285
      clear BK296
      clear BK305
      clear HB
      have HO289 := n0_
      have BK285 := n1_
      have BK296 := n2_
      have BK305 := n3_
      have HB := n4_
      clear n0_ n1_ n2_ n3_ n4_
      (try clear hb)
      (try clear hb2)
      (try clear hk)
      (try clear hi)
      refine hK.out _ _ ⟨HS0_, HS1_⟩ (fun hHeld => ?_)
      clear hK K
      refine norm_ (a' := ?_) ?_ ?_
      rotate_left
      · show Act.put _ (some 26) _ = _
        simp only [Act.put, List.setIfInBounds_toArray, List.set_cons_zero, List.set_cons_succ, i64_w, i32_w]
        rfl
      refine pure_ (i := 4) (N := some 27) (v := ?_) (a' := ?_) #[true, true, true, true, true, false, true, true, true, false, false, false, true, false] rfl rfl (any_of HT_.out (by kernel_rfl)) (fun _ _ _ h => h) (Or.inl ⟨by rfl, ?_⟩) ?_ ?_
      rotate_left
      · intro w'
        go_simp
        with_reducible rfl
      rotate_left
      · simp only [Act.put, List.setIfInBounds_toArray, List.set_cons_zero, List.set_cons_succ, i64_w, i32_w]
        rfl
      refine pure_ (i := 5) (N := some 28) (v := ?_) (a' := ?_) #[true, true, true, true, true, true, true, true, true, false, false, false, true, false] rfl rfl (any_of HT_.out (by kernel_rfl)) (fun _ _ _ h => h) (Or.inl ⟨by rfl, ?_⟩) ?_ ?_
      rotate_left
      · intro w'
        go_simp
        with_reducible rfl
      rotate_left
      · simp only [Act.put, List.setIfInBounds_toArray, List.set_cons_zero, List.set_cons_succ, i64_w, i32_w]
        rfl
      refine one_ (i := 9) (N := some 32) #[true, true, true, true, true, true, true, true, true, true, false, false, true, false] rfl rfl (one_of HT_.out (by kernel_rfl)) (by decide) (fun K hK => ?_)
      refine goes_ Tryd.func18 (by kernel_rfl) rfl #[.int .i64 (rd t287 1)] (by rfl) rfl rfl (by (try simp only [List.map_toArray, List.map_cons, List.map_nil]); rfl) ?_
      with_reducible refine (spec_Decimal.calls k (rd t287 1) t300 _ A16.out).mono ?_
      rintro e w38 ⟨rfl, hb⟩
      have HS0_ := (hb.cell (World.block_lt_of_cell? _ _ (hHeld.1))).trans (hHeld.1)
      have HS1_ := (hb.cell (World.block_lt_of_cell? _ _ (hHeld.2))).trans (hHeld.2)
      refine ⟨_, rfl, ?_⟩
      have n0_ := Aside0.mk (Kd.R_below (by (with_reducible repeat (first | apply Kd.R_alloc | apply Kd.R_drewN | apply Kd.R_drew )); exact HO289.out) hb)
      have n1_ := Aside0.mk (blk_below (g := gb285) (o := .cells #[.bool t281, .bool t282, .int .i64 t283, .int .i64 t284] 25 (0, 0)) (by (with_reducible repeat (first | refine blk_drewN ?_ _ | refine blk_drew ?_ | refine blk_alloc ?_ _ )); exact BK285.out) hb)
      have n2_ := Aside0.mk (blk_below (g := gb296) (o := .cells #[.bool t292, .bool t293, .int .i64 t294, .int .i64 t295] 25 (0, 0)) (by (with_reducible repeat (first | refine blk_drewN ?_ _ | refine blk_drew ?_ | refine blk_alloc ?_ _ )); exact BK296.out) hb)
      have n3_ := Aside0.mk (blk_below (g := gb305) (o := .cells #[.bool false, .bool false, .int .i64 0, .int .i64 0] 25 (0, 0)) (by (with_reducible repeat (first | refine blk_drewN ?_ _ | refine blk_drew ?_ | refine blk_alloc ?_ _ )); exact BK305.out) hb)
      have n4_ := Aside0.mk (below_step (by repeat ((with_reducible exact HB.out))) hb)
      clear HO289
      clear BK285
      clear BK296
      clear BK305
      clear HB
      have HO289 := n0_
      have BK285 := n1_
      have BK296 := n2_
      have BK305 := n3_
      have HB := n4_
      clear n0_ n1_ n2_ n3_ n4_
      (try clear hb)
      (try clear hb2)
      (try clear hk)
      (try clear hi)
      refine hK.out _ _ ⟨HS0_, HS1_⟩ (fun hHeld => ?_)
      clear hK K
      refine norm_ (a' := ?_) ?_ ?_
      rotate_left
      · show Act.put _ (some 32) _ = _
        simp only [Act.put, List.setIfInBounds_toArray, List.set_cons_zero, List.set_cons_succ, i64_w, i32_w]
        rfl
      refine pure_ (i := 10) (N := some 33) (v := ?_) (a' := ?_) #[true, true, true, true, true, true, true, true, true, true, true, false, true, false] rfl rfl (any_of HT_.out (by kernel_rfl)) (fun _ _ _ h => h) (Or.inl ⟨by rfl, ?_⟩) ?_ ?_
      rotate_left
      · intro w'
        go_simp
        with_reducible rfl
      rotate_left
      · simp only [Act.put, List.setIfInBounds_toArray, List.set_cons_zero, List.set_cons_succ, i64_w, i32_w]
        rfl
      refine one_ (i := 11) (N := some 34) #[true, true, true, true, true, true, true, true, true, true, true, true, true, false] rfl rfl (one_of HT_.out (by kernel_rfl)) (by decide) (fun K hK => ?_)
      refine goes_ Tryd.func12 (by kernel_rfl) rfl #[.string ((((⟨#[109, 97, 120, 45, 97, 103, 101, 61]⟩ : ByteArray) ++ t298) ++ (⟨#[44, 32, 115, 45, 109, 97, 120, 97, 103, 101, 61]⟩ : ByteArray)) ++ t300)] (by rfl) rfl rfl (by (try simp only [List.map_toArray, List.map_cons, List.map_nil]); rfl) ?_
      with_reducible refine (impl_ControlOf.calls k ((((⟨#[109, 97, 120, 45, 97, 103, 101, 61]⟩ : ByteArray) ++ t298) ++ (⟨#[44, 32, 115, 45, 109, 97, 120, 97, 103, 101, 61]⟩ : ByteArray)) ++ t300) t301 t302 t303 t304 _ ?side1 A18.out).mono ?_
      (case side1 => exact Shp.below HSH.out (by repeat ((with_reducible exact HB.out))))
      rintro e w39 ⟨rfl, hb⟩
      have HS0_ := (hb.cell (World.block_lt_of_cell? _ _ (hHeld.1))).trans (hHeld.1)
      have HS1_ := (hb.cell (World.block_lt_of_cell? _ _ (hHeld.2))).trans (hHeld.2)
      refine ⟨_, rfl, ?_⟩
      have n0_ := Aside0.mk (Kd.R_below (by (with_reducible repeat (first | apply Kd.R_alloc | apply Kd.R_drewN | apply Kd.R_drew )); exact HO289.out) hb)
      have n1_ := Aside0.mk (blk_below (g := gb285) (o := .cells #[.bool t281, .bool t282, .int .i64 t283, .int .i64 t284] 25 (0, 0)) (by (with_reducible repeat (first | refine blk_drewN ?_ _ | refine blk_drew ?_ | refine blk_alloc ?_ _ )); exact BK285.out) hb)
      have n2_ := Aside0.mk (blk_below (g := gb296) (o := .cells #[.bool t292, .bool t293, .int .i64 t294, .int .i64 t295] 25 (0, 0)) (by (with_reducible repeat (first | refine blk_drewN ?_ _ | refine blk_drew ?_ | refine blk_alloc ?_ _ )); exact BK296.out) hb)
      have n3_ := Aside0.mk (blk_below (g := gb305) (o := .cells #[.bool false, .bool false, .int .i64 0, .int .i64 0] 25 (0, 0)) (by (with_reducible repeat (first | refine blk_drewN ?_ _ | refine blk_drew ?_ | refine blk_alloc ?_ _ )); exact BK305.out) hb)
      have n4_ := Aside0.mk (below_step (by repeat ((with_reducible exact HB.out))) hb)
      clear HO289
      clear BK285
      clear BK296
      clear BK305
      clear HB
      have HO289 := n0_
      have BK285 := n1_
      have BK296 := n2_
      have BK305 := n3_
      have HB := n4_
      clear n0_ n1_ n2_ n3_ n4_
      (try clear hb)
      (try clear hb2)
      (try clear hk)
      (try clear hi)
      refine hK.out _ _ ⟨HS0_, HS1_⟩ (fun hHeld => ?_)
      clear hK K
      refine norm_ (a' := ?_) ?_ ?_
      rotate_left
      · show Act.put _ (some 34) _ = _
        simp only [Act.put, List.setIfInBounds_toArray, List.set_cons_zero, List.set_cons_succ, i64_w, i32_w]
        rfl
      exact norm_ (by simp only [putAll, Act.put, List.setIfInBounds_toArray, List.set_cons_zero, List.set_cons_succ]) (hCont (gb305) _ ⟨hHeld, (by (with_reducible repeat (first | apply Kd.R_alloc | apply Kd.R_drewN | apply Kd.R_drew )); exact HO289.out), (by (with_reducible repeat (first | refine blk_drewN ?_ _ | refine blk_drew ?_ | refine blk_alloc ?_ _ )); exact BK285.out), (by (with_reducible repeat (first | refine blk_drewN ?_ _ | refine blk_drew ?_ | refine blk_alloc ?_ _ )); exact BK296.out), (by (with_reducible repeat (first | refine blk_drewN ?_ _ | refine blk_drew ?_ | refine blk_alloc ?_ _ )); exact BK305.out), GW305.out, GE305.out, NB285_305.out, NB305_285.out, NB296_305.out, NB305_296.out, (by repeat ((with_reducible exact HB.out)))⟩)
  rintro gb305 w40 ⟨hS_, h0_, h1_, h2_, h3_, h4_, h5_, h6_, h7_, h8_, h9_, h10_⟩
  have n0_ : Aside0 (Kd.R (Kd.int .i64) 3 w40 w.heap.size (fun _ => True) (.slice (some ad290) t287.length co28) t287) := ⟨h0_⟩
  have n1_ : Aside0 (w40.heap[gb285]? = some (.cells #[.bool t281, .bool t282, .int .i64 t283, .int .i64 t284] 25 (0, 0))) := ⟨h1_⟩
  have n2_ : Aside0 (w40.heap[gb296]? = some (.cells #[.bool t292, .bool t293, .int .i64 t294, .int .i64 t295] 25 (0, 0))) := ⟨h2_⟩
  have n3_ : Aside0 (w40.heap[gb305]? = some (.cells #[.bool false, .bool false, .int .i64 0, .int .i64 0] 25 (0, 0))) := ⟨h3_⟩
  have n4_ : Aside0 (w.heap.size ≤ gb305) := ⟨h4_⟩
  have n5_ : Aside0 (w.heap.size ≤ gb305) := ⟨h5_⟩
  have n6_ : Aside0 (gb285 ≠ gb305) := ⟨h6_⟩
  have n7_ : Aside0 (gb305 ≠ gb285) := ⟨h7_⟩
  have n8_ : Aside0 (gb296 ≠ gb305) := ⟨h8_⟩
  have n9_ : Aside0 (gb305 ≠ gb296) := ⟨h9_⟩
  have n10_ : Aside0 (Below w.heap.size w w40) := ⟨h10_⟩
  clear HO289
  clear BK285
  clear BK296
  clear HB
  clear h0_ h1_ h2_ h3_ h4_ h5_ h6_ h7_ h8_ h9_ h10_
  have HO289 := n0_
  have BK285 := n1_
  have BK296 := n2_
  have BK305 := n3_
  have GW305 := n4_
  have GE305 := n5_
  have NB285_305 := n6_
  have NB305_285 := n7_
  have NB296_305 := n8_
  have NB305_296 := n9_
  have HB := n10_
  clear n0_ n1_ n2_ n3_ n4_ n5_ n6_ n7_ n8_ n9_ n10_
  have hHeld : w40.cell? ad290 = some (.int .i64 (rd t287 0)) ∧ w40.cell? ⟨ad290.block, ad290.off + 1, none⟩ = some (.int .i64 (rd t287 1)) := hS_
  refine norm_ (a' := ?_) ?_ ?_
  rotate_left
  · simp only [putAll, Act.put, List.setIfInBounds_toArray, List.set_cons_zero, List.set_cons_succ]
    rfl
  refine one_ (i := 13) (N := none) #[true, true, true, true, true, true, true, true, true, true, true, true, true, true] rfl rfl (one_of HT_.out (by kernel_rfl)) (by decide) (fun K hK => ?_)
  have hs41 : w40.cell? ⟨gb305, 0, none⟩ = some (.bool false) := (blk_cell BK305.out 0).trans rfl
  have hfs41 := blk_frozen BK305.out 0
  have hns41_0 := NB285_305.out
  have hns41_1 := NB296_305.out
  have hms41_0 := NB305_285.out
  have hms41_1 := NB305_296.out
  have hs42 : w40.cell? ⟨gb305, 1, none⟩ = some (.bool false) := (blk_cell BK305.out 1).trans rfl
  have hfs42 := blk_frozen BK305.out 1
  have hns42_0 := NB285_305.out
  have hns42_1 := NB296_305.out
  have hms42_0 := NB305_285.out
  have hms42_1 := NB305_296.out
  have hs43 : w40.cell? ⟨gb305, 2, none⟩ = some (.int .i64 0) := (blk_cell BK305.out 2).trans rfl
  have hfs43 := blk_frozen BK305.out 2
  have hns43_0 := NB285_305.out
  have hns43_1 := NB296_305.out
  have hms43_0 := NB305_285.out
  have hms43_1 := NB305_296.out
  have hs44 : w40.cell? ⟨gb305, 3, none⟩ = some (.int .i64 0) := (blk_cell BK305.out 3).trans rfl
  have hfs44 := blk_frozen BK305.out 3
  have hns44_0 := NB285_305.out
  have hns44_1 := NB296_305.out
  have hms44_0 := NB305_285.out
  have hms44_1 := NB305_296.out
  refine skip_ (w1 := ?_) (by rfl) rfl ?_ ?_
  rotate_left
  · go_simp
    rfl
  refine hK.out _ _ ⟨((cell_far (p := ⟨gb305, _, none⟩) (by exact Kd.own_blk (Kd.R_ne HO289.out BK305.out (by decide))) _).trans (((cell_far (p := ⟨gb305, _, none⟩) (by exact Kd.own_blk (Kd.R_ne HO289.out BK305.out (by decide))) _).trans (((cell_far (p := ⟨gb305, _, none⟩) (by exact Kd.own_blk (Kd.R_ne HO289.out BK305.out (by decide))) _).trans (((cell_far (p := ⟨gb305, _, none⟩) (by exact Kd.own_blk (Kd.R_ne HO289.out BK305.out (by decide))) _).trans (hHeld.1)))))))), ((cell_far (p := ⟨gb305, _, none⟩) (by (dsimp only; exact Kd.own_blk (Kd.R_ne HO289.out BK305.out (by decide)))) _).trans (((cell_far (p := ⟨gb305, _, none⟩) (by (dsimp only; exact Kd.own_blk (Kd.R_ne HO289.out BK305.out (by decide)))) _).trans (((cell_far (p := ⟨gb305, _, none⟩) (by (dsimp only; exact Kd.own_blk (Kd.R_ne HO289.out BK305.out (by decide)))) _).trans (((cell_far (p := ⟨gb305, _, none⟩) (by (dsimp only; exact Kd.own_blk (Kd.R_ne HO289.out BK305.out (by decide)))) _).trans (hHeld.2))))))))⟩ (fun hHeld => ?_)
  clear hK K
  refine done_ (done_of HT_.out (by kernel_rfl)) ?_
  have p306 : 0 ≤ (0 : Int) := (by omega)
  have q306 : 0 < (t287.length : Int) := of_decide_eq_true (by (with_reducible assumption))
  obtain ⟨ad306, e306, hx306_0⟩ := Kd.at_int (Kd.R_reads' HO289.out).2.2 0 p306 q306
  obtain rfl : ad290 = ad306 := (by injection e306)
  have qi306 : (0 < t287.length) = True := eq_true (by omega)
  (try rw [show ((0 : Int)).toNat = 0 from rfl] at hx306_0)
  (try rw [Addr.add_zero'] at hx306_0)
  have hn306_0 : ad290.block ≠ gb305 := Kd.own_blk (Kd.R_ne HO289.out BK305.out (by decide))
  have hn306_1 : ad290.block ≠ gb305 := Kd.own_blk (Kd.R_ne HO289.out BK305.out (by decide))
  have hn306_2 : ad290.block ≠ gb305 := Kd.own_blk (Kd.R_ne HO289.out BK305.out (by decide))
  have hn306_3 : ad290.block ≠ gb305 := Kd.own_blk (Kd.R_ne HO289.out BK305.out (by decide))
  replace hx306_0 := (cell_far (p := ⟨gb305, 0, none⟩) (by exact hn306_0) (.bool t301)).trans hx306_0
  replace hx306_0 := (cell_far (p := ⟨gb305, 1, none⟩) (by exact hn306_1) (.bool t302)).trans hx306_0
  replace hx306_0 := (cell_far (p := ⟨gb305, 2, none⟩) (by exact hn306_2) (.int .i64 t303)).trans hx306_0
  replace hx306_0 := (cell_far (p := ⟨gb305, 3, none⟩) (by exact hn306_3) (.int .i64 t304)).trans hx306_0
  clear hn306_0
  clear hn306_1
  clear hn306_2
  clear hn306_3
  replace p306 := eq_true p306
  replace q306 := eq_true q306
  go_upto_region 9 with (first | ((with_reducible refine gate_callee (f := 18) rfl ?_); refine goesL_ (some 38) rfl rfl Tryd.func18 (by kernel_rfl) rfl #[.int .i64 (rd t287 0)] rfl (by (try simp only [List.map_toArray, List.map_cons, List.map_nil]); rfl) ?_; (with_reducible refine (spec_Decimal.calls k (rd t287 0) t307 _ A19.out).mono ?_); rintro e w45 ⟨rfl, hb⟩; refine ⟨_, rfl, ?_⟩; have n0_ := Aside0.mk (Kd.R_below (by (with_reducible repeat (first | apply Kd.R_alloc | apply Kd.R_drewN | apply Kd.R_drew )); exact (Kd.R_mono (Kd.R_far (p := ⟨gb305, 3, none⟩) (Kd.R_far (p := ⟨gb305, 2, none⟩) (Kd.R_far (p := ⟨gb305, 1, none⟩) (Kd.R_far (p := ⟨gb305, 0, none⟩) (Kd.R_types HO289.out BK305.out (by decide)) (fun _ hk => hk.2) (.bool t301)) (fun _ hk => hk.2) (.bool t302)) (fun _ hk => hk.2) (.int .i64 t303)) (fun _ hk => hk.2) (.int .i64 t304)) (fun _ h_ => by exact h_.1))) hb); have n1_ := Aside0.mk (blk_below (g := gb285) (o := .cells #[.bool t281, .bool t282, .int .i64 t283, .int .i64 t284] 25 (0, 0)) (by (with_reducible repeat (first | refine blk_drewN ?_ _ | refine blk_drew ?_ | refine blk_alloc ?_ _ )); refine blk_far ?_ NB285_305.out _; (with_reducible repeat (first | refine blk_drewN ?_ _ | refine blk_drew ?_ | refine blk_alloc ?_ _ )); refine blk_far ?_ NB285_305.out _; (with_reducible repeat (first | refine blk_drewN ?_ _ | refine blk_drew ?_ | refine blk_alloc ?_ _ )); refine blk_far ?_ NB285_305.out _; (with_reducible repeat (first | refine blk_drewN ?_ _ | refine blk_drew ?_ | refine blk_alloc ?_ _ )); refine blk_far ?_ NB285_305.out _; (with_reducible repeat (first | refine blk_drewN ?_ _ | refine blk_drew ?_ | refine blk_alloc ?_ _ )); exact BK285.out) hb); have n2_ := Aside0.mk (blk_below (g := gb296) (o := .cells #[.bool t292, .bool t293, .int .i64 t294, .int .i64 t295] 25 (0, 0)) (by (with_reducible repeat (first | refine blk_drewN ?_ _ | refine blk_drew ?_ | refine blk_alloc ?_ _ )); refine blk_far ?_ NB296_305.out _; (with_reducible repeat (first | refine blk_drewN ?_ _ | refine blk_drew ?_ | refine blk_alloc ?_ _ )); refine blk_far ?_ NB296_305.out _; (with_reducible repeat (first | refine blk_drewN ?_ _ | refine blk_drew ?_ | refine blk_alloc ?_ _ )); refine blk_far ?_ NB296_305.out _; (with_reducible repeat (first | refine blk_drewN ?_ _ | refine blk_drew ?_ | refine blk_alloc ?_ _ )); refine blk_far ?_ NB296_305.out _; (with_reducible repeat (first | refine blk_drewN ?_ _ | refine blk_drew ?_ | refine blk_alloc ?_ _ )); exact BK296.out) hb); have n3_ := Aside0.mk (blk_below (g := gb305) (o := .cells #[.bool t301, .bool t302, .int .i64 t303, .int .i64 t304] 25 (0, 0)) (by (with_reducible repeat (first | refine blk_drewN ?_ _ | refine blk_drew ?_ | refine blk_alloc ?_ _ )); refine blk_put (cs := #[.bool t301, .bool t302, .int .i64 t303, .int .i64 0]) ?_ 3 _ rfl; (with_reducible repeat (first | refine blk_drewN ?_ _ | refine blk_drew ?_ | refine blk_alloc ?_ _ )); refine blk_put (cs := #[.bool t301, .bool t302, .int .i64 0, .int .i64 0]) ?_ 2 _ rfl; (with_reducible repeat (first | refine blk_drewN ?_ _ | refine blk_drew ?_ | refine blk_alloc ?_ _ )); refine blk_put (cs := #[.bool t301, .bool false, .int .i64 0, .int .i64 0]) ?_ 1 _ rfl; (with_reducible repeat (first | refine blk_drewN ?_ _ | refine blk_drew ?_ | refine blk_alloc ?_ _ )); refine blk_put (cs := #[.bool false, .bool false, .int .i64 0, .int .i64 0]) ?_ 0 _ rfl; (with_reducible repeat (first | refine blk_drewN ?_ _ | refine blk_drew ?_ | refine blk_alloc ?_ _ )); exact BK305.out) hb); have n4_ := Aside0.mk (below_step (by repeat ((with_reducible first | exact HB.out | refine below_set ?_ GE305.out))) hb); clear HO289; clear BK285; clear BK296; clear BK305; clear HB; have HO289 := n0_; have BK285 := n1_; have BK296 := n2_; have BK305 := n3_; have HB := n4_; clear n0_ n1_ n2_ n3_ n4_; (try clear hb); (try clear hb2); (try clear hk); (try clear hi)) | ((with_reducible refine gate_callee (f := 12) rfl ?_); refine goesL_ (some 40) rfl rfl Tryd.func12 (by kernel_rfl) rfl #[.string ((⟨#[110, 111, 45, 99, 97, 99, 104, 101, 44, 32, 109, 97, 120, 45, 97, 103, 101, 61]⟩ : ByteArray) ++ t307)] rfl (by (try simp only [List.map_toArray, List.map_cons, List.map_nil]); rfl) ?_; (with_reducible refine (impl_ControlOf.calls k ((⟨#[110, 111, 45, 99, 97, 99, 104, 101, 44, 32, 109, 97, 120, 45, 97, 103, 101, 61]⟩ : ByteArray) ++ t307) t308 t309 t310 t311 _ ?side1 A21.out).mono ?_); (case side1 => exact Shp.below HSH.out (by repeat ((with_reducible exact HB.out)))); rintro e w46 ⟨rfl, hb⟩; refine ⟨_, rfl, ?_⟩; have n0_ := Aside0.mk (Kd.R_below (by (with_reducible repeat (first | apply Kd.R_alloc | apply Kd.R_drewN | apply Kd.R_drew )); exact HO289.out) hb); have n1_ := Aside0.mk (blk_below (g := gb285) (o := .cells #[.bool t281, .bool t282, .int .i64 t283, .int .i64 t284] 25 (0, 0)) (by (with_reducible repeat (first | refine blk_drewN ?_ _ | refine blk_drew ?_ | refine blk_alloc ?_ _ )); exact BK285.out) hb); have n2_ := Aside0.mk (blk_below (g := gb296) (o := .cells #[.bool t292, .bool t293, .int .i64 t294, .int .i64 t295] 25 (0, 0)) (by (with_reducible repeat (first | refine blk_drewN ?_ _ | refine blk_drew ?_ | refine blk_alloc ?_ _ )); exact BK296.out) hb); have n3_ := Aside0.mk (blk_below (g := gb305) (o := .cells #[.bool t301, .bool t302, .int .i64 t303, .int .i64 t304] 25 (0, 0)) (by (with_reducible repeat (first | refine blk_drewN ?_ _ | refine blk_drew ?_ | refine blk_alloc ?_ _ )); exact BK305.out) hb); have n4_ := Aside0.mk (below_step (by repeat ((with_reducible exact HB.out))) hb); clear HO289; clear BK285; clear BK296; clear BK305; clear HB; have HO289 := n0_; have BK285 := n1_; have BK296 := n2_; have BK305 := n3_; have HB := n4_; clear n0_ n1_ n2_ n3_ n4_; (try clear hb); (try clear hb2); (try clear hk); (try clear hi)) | ((with_reducible refine gate_dst (N := 8) rfl ?_); refine box_event ?hg (N := 8) ?hd (cs := #[.bool false, .bool false, .int .i64 0, .int .i64 0]) (t := 25) ?hr ?_; (case hd => rfl); (case hg => rfl); (case hr => (go_simp; done)); intro gb312 hg w47 hbox hb; have n0_ := Aside0.mk (Kd.R_below (by (with_reducible repeat (first | apply Kd.R_alloc | apply Kd.R_drewN | apply Kd.R_drew )); exact HO289.out) hb); have n1_ := Aside0.mk (blk_below (g := gb285) (o := .cells #[.bool t281, .bool t282, .int .i64 t283, .int .i64 t284] 25 (0, 0)) (by (with_reducible repeat (first | refine blk_drewN ?_ _ | refine blk_drew ?_ | refine blk_alloc ?_ _ )); exact BK285.out) hb); have n2_ := Aside0.mk (blk_below (g := gb296) (o := .cells #[.bool t292, .bool t293, .int .i64 t294, .int .i64 t295] 25 (0, 0)) (by (with_reducible repeat (first | refine blk_drewN ?_ _ | refine blk_drew ?_ | refine blk_alloc ?_ _ )); exact BK296.out) hb); have n3_ := Aside0.mk (blk_below (g := gb305) (o := .cells #[.bool t301, .bool t302, .int .i64 t303, .int .i64 t304] 25 (0, 0)) (by (with_reducible repeat (first | refine blk_drewN ?_ _ | refine blk_drew ?_ | refine blk_alloc ?_ _ )); exact BK305.out) hb); have n4_ := Aside0.mk (below_step (by repeat ((with_reducible exact HB.out))) hb); have n5_ := Aside0.mk (hbox); have n6_ := Aside0.mk ((by rw [hg]; exact (below_size (by repeat ((with_reducible exact HB.out)))) : w.heap.size ≤ gb312)); have n7_ := Aside0.mk ((by rw [hg]; exact (below_size (by repeat ((with_reducible exact HB.out)))) : w.heap.size ≤ gb312)); have n8_ := Aside0.mk ((by rw [hg]; exact Nat.ne_of_lt (blk_lt (g := gb285) (o := .cells #[.bool t281, .bool t282, .int .i64 t283, .int .i64 t284] 25 (0, 0)) (by (with_reducible repeat (first | refine blk_drewN ?_ _ | refine blk_drew ?_ | refine blk_alloc ?_ _ )); exact BK285.out)) : gb285 ≠ gb312)); have n9_ := Aside0.mk ((by rw [hg]; exact Nat.ne_of_gt (blk_lt (g := gb285) (o := .cells #[.bool t281, .bool t282, .int .i64 t283, .int .i64 t284] 25 (0, 0)) (by (with_reducible repeat (first | refine blk_drewN ?_ _ | refine blk_drew ?_ | refine blk_alloc ?_ _ )); exact BK285.out)) : gb312 ≠ gb285)); have n10_ := Aside0.mk ((by rw [hg]; exact Nat.ne_of_lt (blk_lt (g := gb296) (o := .cells #[.bool t292, .bool t293, .int .i64 t294, .int .i64 t295] 25 (0, 0)) (by (with_reducible repeat (first | refine blk_drewN ?_ _ | refine blk_drew ?_ | refine blk_alloc ?_ _ )); exact BK296.out)) : gb296 ≠ gb312)); have n11_ := Aside0.mk ((by rw [hg]; exact Nat.ne_of_gt (blk_lt (g := gb296) (o := .cells #[.bool t292, .bool t293, .int .i64 t294, .int .i64 t295] 25 (0, 0)) (by (with_reducible repeat (first | refine blk_drewN ?_ _ | refine blk_drew ?_ | refine blk_alloc ?_ _ )); exact BK296.out)) : gb312 ≠ gb296)); have n12_ := Aside0.mk ((by rw [hg]; exact Nat.ne_of_lt (blk_lt (g := gb305) (o := .cells #[.bool t301, .bool t302, .int .i64 t303, .int .i64 t304] 25 (0, 0)) (by (with_reducible repeat (first | refine blk_drewN ?_ _ | refine blk_drew ?_ | refine blk_alloc ?_ _ )); exact BK305.out)) : gb305 ≠ gb312)); have n13_ := Aside0.mk ((by rw [hg]; exact Nat.ne_of_gt (blk_lt (g := gb305) (o := .cells #[.bool t301, .bool t302, .int .i64 t303, .int .i64 t304] 25 (0, 0)) (by (with_reducible repeat (first | refine blk_drewN ?_ _ | refine blk_drew ?_ | refine blk_alloc ?_ _ )); exact BK305.out)) : gb312 ≠ gb305)); clear HO289; clear BK285; clear BK296; clear BK305; clear HB; have HO289 := n0_; have BK285 := n1_; have BK296 := n2_; have BK305 := n3_; have HB := n4_; have BK312 := n5_; have GW312 := n6_; have GE312 := n7_; have NB285_312 := n8_; have NB312_285 := n9_; have NB296_312 := n10_; have NB312_296 := n11_; have NB305_312 := n12_; have NB312_305 := n13_; clear n0_ n1_ n2_ n3_ n4_ n5_ n6_ n7_ n8_ n9_ n10_ n11_ n12_ n13_; clear hb hbox hg; have hnb48 := NB312_285.out; have hnc48 := NB285_312.out; have hnb49 := NB312_296.out; have hnc49 := NB296_312.out; have hnb50 := NB312_305.out; have hnc50 := NB305_312.out; have hcz51_0 : w47.cell? ⟨gb312, 0, none⟩ = some (.bool false) := (blk_cell BK312.out 0).trans rfl; have hcz51_1 : w47.cell? ⟨gb312, 1, none⟩ = some (.bool false) := (blk_cell BK312.out 1).trans rfl; have hcz51_2 : w47.cell? ⟨gb312, 2, none⟩ = some (.int .i64 0) := (blk_cell BK312.out 2).trans rfl; have hcz51_3 : w47.cell? ⟨gb312, 3, none⟩ = some (.int .i64 0) := (blk_cell BK312.out 3).trans rfl; have hfz51_0 := blk_frozen BK312.out 0; have hfz51_1 := blk_frozen BK312.out 1; have hfz51_2 := blk_frozen BK312.out 2; have hfz51_3 := blk_frozen BK312.out 3))
  (try simp only [Act.put, List.setIfInBounds_toArray, List.set_cons_zero, List.set_cons_succ])
  have H := HS22.out
  clear HS22
  replace H := Option.bind_eq_some_iff.mp H
  obtain ⟨t313, A520, H⟩ := H
  replace H : (if t286 = t313 then (if t286 ≥ 0 then (if t281 = true then (if t286 = 0 then ((impl_Lifetime.f k t292 t293 t294 t295).bind fun t314 => (if t314 = (rd t287 0) then ((impl_Lifetime.f k t301 t302 t303 t304).bind fun t316 => (if t316 = (rd t287 1) then ((impl_Lifetime.f k t308 t309 t310 t311).bind fun t318 => (some (t318 == 0))) else (none))) else (none))) else (none)) else (if t282 = true then (if t286 = 0 then ((impl_Lifetime.f k t292 t293 t294 t295).bind fun t319 => (if t319 = (rd t287 0) then ((impl_Lifetime.f k t301 t302 t303 t304).bind fun t321 => (if t321 = (rd t287 1) then ((impl_Lifetime.f k t308 t309 t310 t311).bind fun t323 => (some (t323 == 0))) else (none))) else (none))) else (none)) else ((impl_Lifetime.f k t292 t293 t294 t295).bind fun t324 => (if t324 = (rd t287 0) then ((impl_Lifetime.f k t301 t302 t303 t304).bind fun t326 => (if t326 = (rd t287 1) then ((impl_Lifetime.f k t308 t309 t310 t311).bind fun t328 => (some (t328 == 0))) else (none))) else (none))))) else (none)) else (none)) = some r := H
  have A52 := Aside0.mk A520
  clear A520
  by_cases c53 : t286 = t313
  rotate_left
  · rw [if_neg c53] at H
    have c53b0 : (t286 == t313) = false := beq_eq_false_iff_ne.mpr c53
    have c53b1 : (t286 != t313) = true := bne_iff_ne.mpr c53
    exact absurd H (by simp)
  rw [if_pos c53] at H
  have c53b0 : (t286 == t313) = true := beq_iff_eq.mpr c53
  have c53b1 : (t286 != t313) = false := bne_eq_false_iff_eq.mpr c53
  clear c53
  by_cases c54 : t286 ≥ 0
  rotate_left
  · rw [if_neg c54] at H
    have c54b0 : decide (0 ≤ t286) = false := decide_eq_false c54
    clear c54
    exact absurd H (by simp)
  rw [if_pos c54] at H
  have c54b0 : decide (0 ≤ t286) = true := decide_eq_true c54
  clear c54
  by_cases c55 : t281 = true
  · subst c55
    have H1 : (if t286 = 0 then ((impl_Lifetime.f k t292 t293 t294 t295).bind fun t314 => (if t314 = (rd t287 0) then ((impl_Lifetime.f k t301 t302 t303 t304).bind fun t316 => (if t316 = (rd t287 1) then ((impl_Lifetime.f k t308 t309 t310 t311).bind fun t318 => (some (t318 == 0))) else (none))) else (none))) else (none)) = some r := by rw [if_pos rfl] at H; exact H
    clear H
    have H := H1
    clear H1
    by_cases c56 : t286 = 0
    rotate_left
    · rw [if_neg c56] at H
      have c56b0 : (t286 == 0) = false := beq_eq_false_iff_ne.mpr c56
      have c56b1 : (t286 != 0) = true := bne_iff_ne.mpr c56
      exact absurd H (by simp)
    rw [if_pos c56] at H
    have c56b0 : (t286 == 0) = true := beq_iff_eq.mpr c56
    have c56b1 : (t286 != 0) = false := bne_eq_false_iff_eq.mpr c56
    clear c56
    replace H := Option.bind_eq_some_iff.mp H
    obtain ⟨t314, A570, H⟩ := H
    replace H : (if t314 = (rd t287 0) then ((impl_Lifetime.f k t301 t302 t303 t304).bind fun t316 => (if t316 = (rd t287 1) then ((impl_Lifetime.f k t308 t309 t310 t311).bind fun t318 => (some (t318 == 0))) else (none))) else (none)) = some r := H
    have A57 := Aside0.mk A570
    clear A570
    by_cases c58 : t314 = (rd t287 0)
    rotate_left
    · rw [if_neg c58] at H
      have c58b0 : (t314 == (rd t287 0)) = false := beq_eq_false_iff_ne.mpr c58
      have c58b1 : (t314 != (rd t287 0)) = true := bne_iff_ne.mpr c58
      exact absurd H (by simp)
    rw [if_pos c58] at H
    have c58b0 : (t314 == (rd t287 0)) = true := beq_iff_eq.mpr c58
    have c58b1 : (t314 != (rd t287 0)) = false := bne_eq_false_iff_eq.mpr c58
    clear c58
    replace H := Option.bind_eq_some_iff.mp H
    obtain ⟨t316, A590, H⟩ := H
    replace H : (if t316 = (rd t287 1) then ((impl_Lifetime.f k t308 t309 t310 t311).bind fun t318 => (some (t318 == 0))) else (none)) = some r := H
    have A59 := Aside0.mk A590
    clear A590
    by_cases c60 : t316 = (rd t287 1)
    rotate_left
    · rw [if_neg c60] at H
      have c60b0 : (t316 == (rd t287 1)) = false := beq_eq_false_iff_ne.mpr c60
      have c60b1 : (t316 != (rd t287 1)) = true := bne_iff_ne.mpr c60
      exact absurd H (by simp)
    rw [if_pos c60] at H
    have c60b0 : (t316 == (rd t287 1)) = true := beq_iff_eq.mpr c60
    have c60b1 : (t316 != (rd t287 1)) = false := bne_eq_false_iff_eq.mpr c60
    clear c60
    replace H := Option.bind_eq_some_iff.mp H
    obtain ⟨t318, A610, H⟩ := H
    replace H : (some (t318 == 0)) = some r := H
    have A61 := Aside0.mk A610
    clear A610
    obtain rfl := Option.some.inj H
    go_wp2
    have n0_ : Aside0 (Kd.R (Kd.int .i64) 3 ((((w47.setCell ⟨gb312, 0, none⟩ (.bool t308)).setCell ⟨gb312, 1, none⟩ (.bool t309)).setCell ⟨gb312, 2, none⟩ (.int .i64 t310)).setCell ⟨gb312, 3, none⟩ (.int .i64 t311)) w.heap.size (fun _ => True) (.slice (some ad290) t287.length co28) t287) := ⟨by (with_reducible repeat (first | apply Kd.R_alloc | apply Kd.R_drewN | apply Kd.R_drew )); exact Kd.R_mono (Kd.R_far (p := ⟨gb312, 3, none⟩) (Kd.R_far (p := ⟨gb312, 2, none⟩) (Kd.R_far (p := ⟨gb312, 1, none⟩) (Kd.R_far (p := ⟨gb312, 0, none⟩) (Kd.R_types HO289.out BK312.out (by decide)) (fun _ hk => hk.2) (.bool t308)) (fun _ hk => hk.2) (.bool t309)) (fun _ hk => hk.2) (.int .i64 t310)) (fun _ hk => hk.2) (.int .i64 t311)) (fun _ hk => trivial)⟩
    have n1_ : Aside0 (((((w47.setCell ⟨gb312, 0, none⟩ (.bool t308)).setCell ⟨gb312, 1, none⟩ (.bool t309)).setCell ⟨gb312, 2, none⟩ (.int .i64 t310)).setCell ⟨gb312, 3, none⟩ (.int .i64 t311)).heap[gb285]? = some (.cells #[.bool true, .bool t282, .int .i64 t283, .int .i64 t284] 25 (0, 0))) := ⟨by (with_reducible repeat (first | refine blk_drewN ?_ _ | refine blk_drew ?_ | refine blk_alloc ?_ _ )); refine blk_far ?_ NB285_312.out _; (with_reducible repeat (first | refine blk_drewN ?_ _ | refine blk_drew ?_ | refine blk_alloc ?_ _ )); refine blk_far ?_ NB285_312.out _; (with_reducible repeat (first | refine blk_drewN ?_ _ | refine blk_drew ?_ | refine blk_alloc ?_ _ )); refine blk_far ?_ NB285_312.out _; (with_reducible repeat (first | refine blk_drewN ?_ _ | refine blk_drew ?_ | refine blk_alloc ?_ _ )); refine blk_far ?_ NB285_312.out _; (with_reducible repeat (first | refine blk_drewN ?_ _ | refine blk_drew ?_ | refine blk_alloc ?_ _ )); exact BK285.out⟩
    have n2_ : Aside0 (((((w47.setCell ⟨gb312, 0, none⟩ (.bool t308)).setCell ⟨gb312, 1, none⟩ (.bool t309)).setCell ⟨gb312, 2, none⟩ (.int .i64 t310)).setCell ⟨gb312, 3, none⟩ (.int .i64 t311)).heap[gb296]? = some (.cells #[.bool t292, .bool t293, .int .i64 t294, .int .i64 t295] 25 (0, 0))) := ⟨by (with_reducible repeat (first | refine blk_drewN ?_ _ | refine blk_drew ?_ | refine blk_alloc ?_ _ )); refine blk_far ?_ NB296_312.out _; (with_reducible repeat (first | refine blk_drewN ?_ _ | refine blk_drew ?_ | refine blk_alloc ?_ _ )); refine blk_far ?_ NB296_312.out _; (with_reducible repeat (first | refine blk_drewN ?_ _ | refine blk_drew ?_ | refine blk_alloc ?_ _ )); refine blk_far ?_ NB296_312.out _; (with_reducible repeat (first | refine blk_drewN ?_ _ | refine blk_drew ?_ | refine blk_alloc ?_ _ )); refine blk_far ?_ NB296_312.out _; (with_reducible repeat (first | refine blk_drewN ?_ _ | refine blk_drew ?_ | refine blk_alloc ?_ _ )); exact BK296.out⟩
    have n3_ : Aside0 (((((w47.setCell ⟨gb312, 0, none⟩ (.bool t308)).setCell ⟨gb312, 1, none⟩ (.bool t309)).setCell ⟨gb312, 2, none⟩ (.int .i64 t310)).setCell ⟨gb312, 3, none⟩ (.int .i64 t311)).heap[gb305]? = some (.cells #[.bool t301, .bool t302, .int .i64 t303, .int .i64 t304] 25 (0, 0))) := ⟨by (with_reducible repeat (first | refine blk_drewN ?_ _ | refine blk_drew ?_ | refine blk_alloc ?_ _ )); refine blk_far ?_ NB305_312.out _; (with_reducible repeat (first | refine blk_drewN ?_ _ | refine blk_drew ?_ | refine blk_alloc ?_ _ )); refine blk_far ?_ NB305_312.out _; (with_reducible repeat (first | refine blk_drewN ?_ _ | refine blk_drew ?_ | refine blk_alloc ?_ _ )); refine blk_far ?_ NB305_312.out _; (with_reducible repeat (first | refine blk_drewN ?_ _ | refine blk_drew ?_ | refine blk_alloc ?_ _ )); refine blk_far ?_ NB305_312.out _; (with_reducible repeat (first | refine blk_drewN ?_ _ | refine blk_drew ?_ | refine blk_alloc ?_ _ )); exact BK305.out⟩
    have n4_ : Aside0 (((((w47.setCell ⟨gb312, 0, none⟩ (.bool t308)).setCell ⟨gb312, 1, none⟩ (.bool t309)).setCell ⟨gb312, 2, none⟩ (.int .i64 t310)).setCell ⟨gb312, 3, none⟩ (.int .i64 t311)).heap[gb312]? = some (.cells #[.bool t308, .bool t309, .int .i64 t310, .int .i64 t311] 25 (0, 0))) := ⟨by (with_reducible repeat (first | refine blk_drewN ?_ _ | refine blk_drew ?_ | refine blk_alloc ?_ _ )); refine blk_put (cs := #[.bool t308, .bool t309, .int .i64 t310, .int .i64 0]) ?_ 3 _ rfl; (with_reducible repeat (first | refine blk_drewN ?_ _ | refine blk_drew ?_ | refine blk_alloc ?_ _ )); refine blk_put (cs := #[.bool t308, .bool t309, .int .i64 0, .int .i64 0]) ?_ 2 _ rfl; (with_reducible repeat (first | refine blk_drewN ?_ _ | refine blk_drew ?_ | refine blk_alloc ?_ _ )); refine blk_put (cs := #[.bool t308, .bool false, .int .i64 0, .int .i64 0]) ?_ 1 _ rfl; (with_reducible repeat (first | refine blk_drewN ?_ _ | refine blk_drew ?_ | refine blk_alloc ?_ _ )); refine blk_put (cs := #[.bool false, .bool false, .int .i64 0, .int .i64 0]) ?_ 0 _ rfl; (with_reducible repeat (first | refine blk_drewN ?_ _ | refine blk_drew ?_ | refine blk_alloc ?_ _ )); exact BK312.out⟩
    have n5_ : Aside0 (Below w.heap.size w ((((w47.setCell ⟨gb312, 0, none⟩ (.bool t308)).setCell ⟨gb312, 1, none⟩ (.bool t309)).setCell ⟨gb312, 2, none⟩ (.int .i64 t310)).setCell ⟨gb312, 3, none⟩ (.int .i64 t311))) := ⟨by repeat ((with_reducible first | exact HB.out | refine below_set ?_ GE312.out))⟩
    (try clear HO289)
    (try clear BK285)
    (try clear BK296)
    (try clear BK305)
    (try clear BK312)
    (try clear HB)
    generalize ((((w47.setCell ⟨gb312, 0, none⟩ (.bool t308)).setCell ⟨gb312, 1, none⟩ (.bool t309)).setCell ⟨gb312, 2, none⟩ (.int .i64 t310)).setCell ⟨gb312, 3, none⟩ (.int .i64 t311)) = w62 at n0_ n1_ n2_ n3_ n4_ n5_ ⊢
    have HO289 := n0_
    have BK285 := n1_
    have BK296 := n2_
    have BK305 := n3_
    have BK312 := n4_
    have HB := n5_
    clear n0_ n1_ n2_ n3_ n4_ n5_
    have n0_ := Aside0.mk (Kd.R_drew HO289.out)
    have n1_ := Aside0.mk (blk_drew BK285.out)
    have n2_ := Aside0.mk (blk_drew BK296.out)
    have n3_ := Aside0.mk (blk_drew BK305.out)
    have n4_ := Aside0.mk (blk_drew BK312.out)
    have n5_ := Aside0.mk (below_drew1 HB.out)
    clear HO289
    clear BK285
    clear BK296
    clear BK305
    clear BK312
    clear HB
    have HO289 := n0_
    have BK285 := n1_
    have BK296 := n2_
    have BK305 := n3_
    have BK312 := n4_
    have HB := n5_
    clear n0_ n1_ n2_ n3_ n4_ n5_
    have p315 : 0 ≤ (0 : Int) := (by omega)
    have q315 : 0 < (t287.length : Int) := of_decide_eq_true (by (with_reducible assumption))
    obtain ⟨ad315, e315, hx315_0⟩ := Kd.at_int (Kd.R_reads' HO289.out).2.2 0 p315 q315
    obtain rfl : ad290 = ad315 := (by injection e315)
    have qi315 : (0 < t287.length) = True := eq_true (by omega)
    (try rw [show ((0 : Int)).toNat = 0 from rfl] at hx315_0)
    (try rw [Addr.add_zero'] at hx315_0)
    replace p315 := eq_true p315
    replace q315 := eq_true q315
    have p317 : 0 ≤ (1 : Int) := (by omega)
    have q317 : 1 < (t287.length : Int) := of_decide_eq_true (by (with_reducible assumption))
    obtain ⟨ad317, e317, hx317_0⟩ := Kd.at_int (Kd.R_reads' HO289.out).2.2 1 p317 q317
    obtain rfl : ad290 = ad317 := (by injection e317)
    (try simp only [show (1 : Int).toNat = 1 from rfl, Nat.reduceMul, Nat.reduceEqDiff, Go.Addr.add, ↓reduceIte] at hx317_0)
    have qi317 : (1 < t287.length) = True := eq_true (by omega)
    (try rw [show ((1 : Int)).toNat = 1 from rfl] at hx317_0)
    replace p317 := eq_true p317
    replace q317 := eq_true q317
    refine start_ (n := 44) (S := fun w' => w'.cell? ⟨gb285, 0, none⟩ = some (.bool true) ∧ w'.cell? ⟨gb285, 1, none⟩ = some (.bool t282) ∧ w'.cell? ⟨gb285, 2, none⟩ = some (.int .i64 t283) ∧ w'.cell? ⟨gb285, 3, none⟩ = some (.int .i64 t284) ∧ w'.cell? ⟨gb296, 0, none⟩ = some (.bool t292) ∧ w'.cell? ⟨gb296, 1, none⟩ = some (.bool t293) ∧ w'.cell? ⟨gb296, 2, none⟩ = some (.int .i64 t294) ∧ w'.cell? ⟨gb296, 3, none⟩ = some (.int .i64 t295) ∧ w'.cell? ⟨gb305, 0, none⟩ = some (.bool t301) ∧ w'.cell? ⟨gb305, 1, none⟩ = some (.bool t302) ∧ w'.cell? ⟨gb305, 2, none⟩ = some (.int .i64 t303) ∧ w'.cell? ⟨gb305, 3, none⟩ = some (.int .i64 t304) ∧ w'.cell? ⟨gb312, 0, none⟩ = some (.bool t308) ∧ w'.cell? ⟨gb312, 1, none⟩ = some (.bool t309) ∧ w'.cell? ⟨gb312, 2, none⟩ = some (.int .i64 t310) ∧ w'.cell? ⟨gb312, 3, none⟩ = some (.int .i64 t311) ∧ w'.cell? ad290 = some (.int .i64 (rd t287 0)) ∧ w'.cell? ⟨ad290.block, ad290.off + 1, none⟩ = some (.int .i64 (rd t287 1))) (ds := []) #[false, false, false, false, false, false, false, false, false, false, false, false, false, false, false, false, false, false, false, false, false, false, false, false, false, false, false, false, false, false, false, false, false, false, false, false, false, false, false, false, false, false, false, false] (by kernel_rfl) rfl rfl ⟨(blk_cell BK285.out 0).trans rfl, (blk_cell BK285.out 1).trans rfl, (blk_cell BK285.out 2).trans rfl, (blk_cell BK285.out 3).trans rfl, (blk_cell BK296.out 0).trans rfl, (blk_cell BK296.out 1).trans rfl, (blk_cell BK296.out 2).trans rfl, (blk_cell BK296.out 3).trans rfl, (blk_cell BK305.out 0).trans rfl, (blk_cell BK305.out 1).trans rfl, (blk_cell BK305.out 2).trans rfl, (blk_cell BK305.out 3).trans rfl, (blk_cell BK312.out 0).trans rfl, (blk_cell BK312.out 1).trans rfl, (blk_cell BK312.out 2).trans rfl, (blk_cell BK312.out 3).trans rfl, hx315_0, hx317_0⟩ (fun hHeld => ?_); refine with_tabW laws_FnLifetimes.tab9 laws_FnLifetimes.bits9 (fun HT_ HW_ => ?_)
    generalize w62.drew = w63 at HO289 BK285 BK296 BK305 BK312 HB hx315_0 hx317_0 hHeld ⊢
    refine pure_ (i := 0) (N := some 41) (v := ?_) (a' := ?_) #[true, false, false, false, false, false, false, false, false, false, false, false, false, false, false, false, false, false, false, false, false, false, false, false, false, false, false, false, false, false, false, false, false, false, false, false, false, false, false, false, false, false, false, false] rfl rfl (any_of HT_.out (by kernel_rfl)) (fun _ _ _ h => h) (Or.inl ⟨by rfl, ?_⟩) ?_ ?_
    rotate_left
    · intro w'
      go_simp
      with_reducible rfl
    rotate_left
    · simp only [Act.put, List.setIfInBounds_toArray, List.set_cons_zero, List.set_cons_succ, i64_w, i32_w]
      rfl
    refine take_ (i := 1) (N := some 42) (v := ?_) (a' := ?_) #[true, true, false, false, false, false, false, false, false, false, false, false, false, false, false, false, false, false, false, false, false, false, false, false, false, false, false, false, false, false, false, false, false, false, false, false, false, false, false, false, false, false, false, false] rfl rfl (take_ofW HT_.out HW_.out (by kernel_rfl)) (fun _ _ _ h => h) (Or.inl ⟨by rfl, ?_⟩) hHeld ?_ ?_
    rotate_left
    · rintro w' ⟨s0, s1, s2, s3, s4, s5, s6, s7, s8, s9, s10, s11, s12, s13, s14, s15, s16, s17⟩
      go_simp
      with_reducible rfl
    rotate_left
    · simp only [Act.put, List.setIfInBounds_toArray, List.set_cons_zero, List.set_cons_succ, i64_w, i32_w]
      rfl
    refine one_ (i := 2) (N := some 43) #[true, true, true, false, false, false, false, false, false, false, false, false, false, false, false, false, false, false, false, false, false, false, false, false, false, false, false, false, false, false, false, false, false, false, false, false, false, false, false, false, false, false, false, false] rfl rfl (one_of HT_.out (by kernel_rfl)) (by decide) (fun K hK => ?_)
    refine goes_ Tryd.func19 (by kernel_rfl) rfl #[.agg #[.bool true, .bool t282, .int .i64 t283, .int .i64 t284]] (by rfl) rfl rfl (by (try simp only [List.map_toArray, List.map_cons, List.map_nil]); rfl) ?_
    with_reducible refine (spec_Lifetime.calls k true t282 t283 t284 t313 _ A52.out).mono ?_
    rintro e w64 ⟨rfl, hb⟩
    have HS16_ := (hb.cell (World.block_lt_of_cell? _ _ (hHeld.2.2.2.2.2.2.2.2.2.2.2.2.2.2.2.2.1))).trans (hHeld.2.2.2.2.2.2.2.2.2.2.2.2.2.2.2.2.1)
    have HS17_ := (hb.cell (World.block_lt_of_cell? _ _ (hHeld.2.2.2.2.2.2.2.2.2.2.2.2.2.2.2.2.2))).trans (hHeld.2.2.2.2.2.2.2.2.2.2.2.2.2.2.2.2.2)
    refine ⟨_, rfl, ?_⟩
    have n0_ := Aside0.mk (Kd.R_below (by (with_reducible repeat (first | apply Kd.R_alloc | apply Kd.R_drewN | apply Kd.R_drew )); exact HO289.out) hb)
    have n1_ := Aside0.mk (blk_below (g := gb285) (o := .cells #[.bool true, .bool t282, .int .i64 t283, .int .i64 t284] 25 (0, 0)) (by (with_reducible repeat (first | refine blk_drewN ?_ _ | refine blk_drew ?_ | refine blk_alloc ?_ _ )); exact BK285.out) hb)
    have n2_ := Aside0.mk (blk_below (g := gb296) (o := .cells #[.bool t292, .bool t293, .int .i64 t294, .int .i64 t295] 25 (0, 0)) (by (with_reducible repeat (first | refine blk_drewN ?_ _ | refine blk_drew ?_ | refine blk_alloc ?_ _ )); exact BK296.out) hb)
    have n3_ := Aside0.mk (blk_below (g := gb305) (o := .cells #[.bool t301, .bool t302, .int .i64 t303, .int .i64 t304] 25 (0, 0)) (by (with_reducible repeat (first | refine blk_drewN ?_ _ | refine blk_drew ?_ | refine blk_alloc ?_ _ )); exact BK305.out) hb)
    have n4_ := Aside0.mk (blk_below (g := gb312) (o := .cells #[.bool t308, .bool t309, .int .i64 t310, .int .i64 t311] 25 (0, 0)) (by (with_reducible repeat (first | refine blk_drewN ?_ _ | refine blk_drew ?_ | refine blk_alloc ?_ _ )); exact BK312.out) hb)
    have n5_ := Aside0.mk (below_step (by repeat ((with_reducible exact HB.out))) hb)
    clear HO289
    clear BK285
    clear BK296
    clear BK305
    clear BK312
    clear HB
    have HO289 := n0_
    have BK285 := n1_
    have BK296 := n2_
    have BK305 := n3_
    have BK312 := n4_
    have HB := n5_
    clear n0_ n1_ n2_ n3_ n4_ n5_
    (try clear hb)
    (try clear hb2)
    (try clear hk)
    (try clear hi)
    refine hK.out _ _ ⟨(blk_cell BK285.out 0).trans rfl, (blk_cell BK285.out 1).trans rfl, (blk_cell BK285.out 2).trans rfl, (blk_cell BK285.out 3).trans rfl, (blk_cell BK296.out 0).trans rfl, (blk_cell BK296.out 1).trans rfl, (blk_cell BK296.out 2).trans rfl, (blk_cell BK296.out 3).trans rfl, (blk_cell BK305.out 0).trans rfl, (blk_cell BK305.out 1).trans rfl, (blk_cell BK305.out 2).trans rfl, (blk_cell BK305.out 3).trans rfl, (blk_cell BK312.out 0).trans rfl, (blk_cell BK312.out 1).trans rfl, (blk_cell BK312.out 2).trans rfl, (blk_cell BK312.out 3).trans rfl, HS16_, HS17_⟩ (fun hHeld => ?_)
    clear hK K
    refine norm_ (a' := ?_) ?_ ?_
    rotate_left
    · show Act.put _ (some 43) _ = _
      simp only [Act.put, List.setIfInBounds_toArray, List.set_cons_zero, List.set_cons_succ, i64_w, i32_w]
      rfl
    refine pure_ (i := 3) (N := some 44) (v := ?_) (a' := ?_) #[true, true, true, true, false, false, false, false, false, false, false, false, false, false, false, false, false, false, false, false, false, false, false, false, false, false, false, false, false, false, false, false, false, false, false, false, false, false, false, false, false, false, false, false] rfl rfl (any_of HT_.out (by kernel_rfl)) (fun _ _ _ h => h) (Or.inl ⟨by rfl, ?_⟩) ?_ ?_
    rotate_left
    · intro w'
      go_simp
      with_reducible rfl
    rotate_left
    · simp only [Act.put, List.setIfInBounds_toArray, List.set_cons_zero, List.set_cons_succ, i64_w, i32_w]
      rfl
    refine pure_ (i := 4) (N := some 45) (v := ?_) (a' := ?_) #[true, true, true, true, true, false, false, false, false, false, false, false, false, false, false, false, false, false, false, false, false, false, false, false, false, false, false, false, false, false, false, false, false, false, false, false, false, false, false, false, false, false, false, false] rfl rfl (any_of HT_.out (by kernel_rfl)) (fun _ _ _ h => h) (Or.inl ⟨by rfl, ?_⟩) ?_ ?_
    rotate_left
    · intro w'
      go_simp
      with_reducible rfl
    rotate_left
    · simp only [Act.put, List.setIfInBounds_toArray, List.set_cons_zero, List.set_cons_succ, i64_w, i32_w]
      rfl
    refine pure_ (i := 5) (N := some 46) (v := ?_) (a' := ?_) #[true, true, true, true, true, true, false, false, false, false, false, false, false, false, false, false, false, false, false, false, false, false, false, false, false, false, false, false, false, false, false, false, false, false, false, false, false, false, false, false, false, false, false, false] rfl rfl (any_of HT_.out (by kernel_rfl)) (fun _ _ _ h => h) (Or.inl ⟨by rfl, ?_⟩) ?_ ?_
    rotate_left
    · intro w'
      go_simp
      with_reducible rfl
    rotate_left
    · simp only [Act.put, List.setIfInBounds_toArray, List.set_cons_zero, List.set_cons_succ, i64_w, i32_w]
      rfl
    refine pure_ (i := 6) (N := some 47) (v := ?_) (a' := ?_) #[true, true, true, true, true, true, true, false, false, false, false, false, false, false, false, false, false, false, false, false, false, false, false, false, false, false, false, false, false, false, false, false, false, false, false, false, false, false, false, false, false, false, false, false] rfl rfl (any_of HT_.out (by kernel_rfl)) (fun _ _ _ h => h) (Or.inl ⟨by rfl, ?_⟩) ?_ ?_
    rotate_left
    · intro w'
      go_simp
      with_reducible rfl
    rotate_left
    · simp only [Act.put, List.setIfInBounds_toArray, List.set_cons_zero, List.set_cons_succ, i64_w, i32_w]
      rfl
    refine pure_ (i := 7) (N := some 48) (v := ?_) (a' := ?_) #[true, true, true, true, true, true, true, true, false, false, false, false, false, false, false, false, false, false, false, false, false, false, false, false, false, false, false, false, false, false, false, false, false, false, false, false, false, false, false, false, false, false, false, false] rfl rfl (any_of HT_.out (by kernel_rfl)) (fun _ _ _ h => h) (Or.inl ⟨by rfl, ?_⟩) ?_ ?_
    rotate_left
    · intro w'
      go_simp
      with_reducible rfl
    rotate_left
    · simp only [Act.put, List.setIfInBounds_toArray, List.set_cons_zero, List.set_cons_succ, i64_w, i32_w]
      rfl
    refine pure_ (i := 8) (N := some 49) (v := ?_) (a' := ?_) #[true, true, true, true, true, true, true, true, true, false, false, false, false, false, false, false, false, false, false, false, false, false, false, false, false, false, false, false, false, false, false, false, false, false, false, false, false, false, false, false, false, false, false, false] rfl rfl (any_of HT_.out (by kernel_rfl)) (fun _ _ _ h => h) (Or.inl ⟨by rfl, ?_⟩) ?_ ?_
    rotate_left
    · intro w'
      go_simp
      with_reducible rfl
    rotate_left
    · simp only [Act.put, List.setIfInBounds_toArray, List.set_cons_zero, List.set_cons_succ, i64_w, i32_w]
      rfl
    refine pure_ (i := 9) (N := some 50) (v := ?_) (a' := ?_) #[true, true, true, true, true, true, true, true, true, true, false, false, false, false, false, false, false, false, false, false, false, false, false, false, false, false, false, false, false, false, false, false, false, false, false, false, false, false, false, false, false, false, false, false] rfl rfl (any_of HT_.out (by kernel_rfl)) (fun _ _ _ h => h) (Or.inl ⟨by rfl, ?_⟩) ?_ ?_
    rotate_left
    · intro w'
      go_simp
      with_reducible rfl
    rotate_left
    · simp only [Act.put, List.setIfInBounds_toArray, List.set_cons_zero, List.set_cons_succ, i64_w, i32_w]
      rfl
    refine take_ (i := 10) (N := some 51) (v := ?_) (a' := ?_) #[true, true, true, true, true, true, true, true, true, true, true, false, false, false, false, false, false, false, false, false, false, false, false, false, false, false, false, false, false, false, false, false, false, false, false, false, false, false, false, false, false, false, false, false] rfl rfl (take_ofW HT_.out HW_.out (by kernel_rfl)) (fun _ _ _ h => h) (Or.inl ⟨by rfl, ?_⟩) hHeld ?_ ?_
    rotate_left
    · rintro w' ⟨s0, s1, s2, s3, s4, s5, s6, s7, s8, s9, s10, s11, s12, s13, s14, s15, s16, s17⟩
      go_simp
      with_reducible rfl
    rotate_left
    · simp only [Act.put, List.setIfInBounds_toArray, List.set_cons_zero, List.set_cons_succ, i64_w, i32_w]
      rfl
    refine pure_ (i := 11) (N := some 52) (v := ?_) (a' := ?_) #[true, true, true, true, true, true, true, true, true, true, true, true, false, false, false, false, false, false, false, false, false, false, false, false, false, false, false, false, false, false, false, false, false, false, false, false, false, false, false, false, false, false, false, false] rfl rfl (any_of HT_.out (by kernel_rfl)) (fun _ _ _ h => h) (Or.inl ⟨by rfl, ?_⟩) ?_ ?_
    rotate_left
    · intro w'
      go_simp
      with_reducible rfl
    rotate_left
    · simp only [Act.put, List.setIfInBounds_toArray, List.set_cons_zero, List.set_cons_succ, i64_w, i32_w]
      rfl
    refine pure_ (i := 12) (N := some 53) (v := ?_) (a' := ?_) #[true, true, true, true, true, true, true, true, true, true, true, true, true, false, false, false, false, false, false, false, false, false, false, false, false, false, false, false, false, false, false, false, false, false, false, false, false, false, false, false, false, false, false, false] rfl rfl (any_of HT_.out (by kernel_rfl)) (fun _ _ _ h => h) (Or.inl ⟨by rfl, ?_⟩) ?_ ?_
    rotate_left
    · intro w'
      go_simp
      with_reducible rfl
    rotate_left
    · simp only [Act.put, List.setIfInBounds_toArray, List.set_cons_zero, List.set_cons_succ, i64_w, i32_w]
      rfl
    refine pure_ (i := 13) (N := some 54) (v := undef) (a' := ?_) #[true, true, true, true, true, true, true, true, true, true, true, true, true, true, false, false, false, false, false, false, false, false, false, false, false, false, false, false, false, false, false, false, false, false, false, false, false, false, false, false, false, false, false, false] rfl rfl (any_of HT_.out (by kernel_rfl)) (fun _ _ _ h => h) (Or.inr ⟨by rfl, rfl⟩) ?_ ?_
    rotate_left
    · simp only [Act.put, List.setIfInBounds_toArray, List.set_cons_zero, List.set_cons_succ, i64_w, i32_w]
      rfl
    refine pure_ (i := 14) (N := some 55) (v := undef) (a' := ?_) #[true, true, true, true, true, true, true, true, true, true, true, true, true, true, true, false, false, false, false, false, false, false, false, false, false, false, false, false, false, false, false, false, false, false, false, false, false, false, false, false, false, false, false, false] rfl rfl (any_of HT_.out (by kernel_rfl)) (fun _ _ _ h => h) (Or.inr ⟨by rfl, rfl⟩) ?_ ?_
    rotate_left
    · simp only [Act.put, List.setIfInBounds_toArray, List.set_cons_zero, List.set_cons_succ, i64_w, i32_w]
      rfl
    refine pure_ (i := 15) (N := some 56) (v := undef) (a' := ?_) #[true, true, true, true, true, true, true, true, true, true, true, true, true, true, true, true, false, false, false, false, false, false, false, false, false, false, false, false, false, false, false, false, false, false, false, false, false, false, false, false, false, false, false, false] rfl rfl (any_of HT_.out (by kernel_rfl)) (fun _ _ _ h => h) (Or.inr ⟨by rfl, rfl⟩) ?_ ?_
    rotate_left
    · simp only [Act.put, List.setIfInBounds_toArray, List.set_cons_zero, List.set_cons_succ, i64_w, i32_w]
      rfl
    refine pure_ (i := 16) (N := some 57) (v := ?_) (a' := ?_) #[true, true, true, true, true, true, true, true, true, true, true, true, true, true, true, true, true, false, false, false, false, false, false, false, false, false, false, false, false, false, false, false, false, false, false, false, false, false, false, false, false, false, false, false] rfl rfl (any_of HT_.out (by kernel_rfl)) (fun _ _ _ h => h) (Or.inl ⟨by rfl, ?_⟩) ?_ ?_
    rotate_left
    · intro w'
      go_simp
      with_reducible rfl
    rotate_left
    · simp only [Act.put, List.setIfInBounds_toArray, List.set_cons_zero, List.set_cons_succ, i64_w, i32_w]
      rfl
    refine pure_ (i := 17) (N := some 58) (v := ?_) (a' := ?_) #[true, true, true, true, true, true, true, true, true, true, true, true, true, true, true, true, true, true, false, false, false, false, false, false, false, false, false, false, false, false, false, false, false, false, false, false, false, false, false, false, false, false, false, false] rfl rfl (any_of HT_.out (by kernel_rfl)) (fun _ _ _ h => h) (Or.inl ⟨by rfl, ?_⟩) ?_ ?_
    rotate_left
    · intro w'
      go_simp
      with_reducible rfl
    rotate_left
    · simp only [Act.put, List.setIfInBounds_toArray, List.set_cons_zero, List.set_cons_succ, i64_w, i32_w]
      rfl
    refine pure_ (i := 18) (N := some 59) (v := ?_) (a' := ?_) #[true, true, true, true, true, true, true, true, true, true, true, true, true, true, true, true, true, true, true, false, false, false, false, false, false, false, false, false, false, false, false, false, false, false, false, false, false, false, false, false, false, false, false, false] rfl rfl (any_of HT_.out (by kernel_rfl)) (fun _ _ _ h => h) (Or.inl ⟨by rfl, ?_⟩) ?_ ?_
    rotate_left
    · intro w'
      go_simp
      with_reducible rfl
    rotate_left
    · simp only [Act.put, List.setIfInBounds_toArray, List.set_cons_zero, List.set_cons_succ, i64_w, i32_w]
      rfl
    refine pure_ (i := 19) (N := some 60) (v := ?_) (a' := ?_) #[true, true, true, true, true, true, true, true, true, true, true, true, true, true, true, true, true, true, true, true, false, false, false, false, false, false, false, false, false, false, false, false, false, false, false, false, false, false, false, false, false, false, false, false] rfl rfl (any_of HT_.out (by kernel_rfl)) (fun _ _ _ h => h) (Or.inl ⟨by rfl, ?_⟩) ?_ ?_
    rotate_left
    · intro w'
      go_simp
      with_reducible rfl
    rotate_left
    · simp only [Act.put, List.setIfInBounds_toArray, List.set_cons_zero, List.set_cons_succ, i64_w, i32_w]
      rfl
    refine pure_ (i := 20) (N := some 61) (v := ?_) (a' := ?_) #[true, true, true, true, true, true, true, true, true, true, true, true, true, true, true, true, true, true, true, true, true, false, false, false, false, false, false, false, false, false, false, false, false, false, false, false, false, false, false, false, false, false, false, false] rfl rfl (any_of HT_.out (by kernel_rfl)) (fun _ _ _ h => h) (Or.inl ⟨by rfl, ?_⟩) ?_ ?_
    rotate_left
    · intro w'
      go_simp
      with_reducible rfl
    rotate_left
    · simp only [Act.put, List.setIfInBounds_toArray, List.set_cons_zero, List.set_cons_succ, i64_w, i32_w]
      rfl
    refine pure_ (i := 21) (N := some 62) (v := ?_) (a' := ?_) #[true, true, true, true, true, true, true, true, true, true, true, true, true, true, true, true, true, true, true, true, true, true, false, false, false, false, false, false, false, false, false, false, false, false, false, false, false, false, false, false, false, false, false, false] rfl rfl (any_of HT_.out (by kernel_rfl)) (fun _ _ _ h => h) (Or.inl ⟨by rfl, ?_⟩) ?_ ?_
    rotate_left
    · intro w'
      go_simp
      with_reducible rfl
    rotate_left
    · simp only [Act.put, List.setIfInBounds_toArray, List.set_cons_zero, List.set_cons_succ, i64_w, i32_w]
      rfl
    refine pure_ (i := 22) (N := some 63) (v := ?_) (a' := ?_) #[true, true, true, true, true, true, true, true, true, true, true, true, true, true, true, true, true, true, true, true, true, true, true, false, false, false, false, false, false, false, false, false, false, false, false, false, false, false, false, false, false, false, false, false] rfl rfl (any_of HT_.out (by kernel_rfl)) (fun _ _ _ h => h) (Or.inl ⟨by rfl, ?_⟩) ?_ ?_
    rotate_left
    · intro w'
      go_simp
      with_reducible rfl
    rotate_left
    · simp only [Act.put, List.setIfInBounds_toArray, List.set_cons_zero, List.set_cons_succ, i64_w, i32_w]
      rfl
    refine pure_ (i := 25) (N := some 66) (v := ?_) (a' := ?_) #[true, true, true, true, true, true, true, true, true, true, true, true, true, true, true, true, true, true, true, true, true, true, true, false, false, true, false, false, false, false, false, false, false, false, false, false, false, false, false, false, false, false, false, false] rfl rfl (any_of HT_.out (by kernel_rfl)) (fun _ _ _ h => h) (Or.inl ⟨by rfl, ?_⟩) ?_ ?_
    rotate_left
    · intro w'
      go_simp
      with_reducible rfl
    rotate_left
    · simp only [Act.put, List.setIfInBounds_toArray, List.set_cons_zero, List.set_cons_succ, i64_w, i32_w]
      rfl
    refine pure_ (i := 26) (N := some 67) (v := ?_) (a' := ?_) #[true, true, true, true, true, true, true, true, true, true, true, true, true, true, true, true, true, true, true, true, true, true, true, false, false, true, true, false, false, false, false, false, false, false, false, false, false, false, false, false, false, false, false, false] rfl rfl (any_of HT_.out (by kernel_rfl)) (fun _ _ _ h => h) (Or.inl ⟨by rfl, ?_⟩) ?_ ?_
    rotate_left
    · intro w'
      go_simp
      with_reducible rfl
    rotate_left
    · simp only [Act.put, List.setIfInBounds_toArray, List.set_cons_zero, List.set_cons_succ, i64_w, i32_w]
      rfl
    refine take_ (i := 23) (N := some 64) (v := ?_) (a' := ?_) #[true, true, true, true, true, true, true, true, true, true, true, true, true, true, true, true, true, true, true, true, true, true, true, true, false, true, true, false, false, false, false, false, false, false, false, false, false, false, false, false, false, false, false, false] rfl rfl (take_ofW HT_.out HW_.out (by kernel_rfl)) (fun _ _ _ h => h) (Or.inl ⟨by rfl, ?_⟩) hHeld ?_ ?_
    rotate_left
    · rintro w' ⟨s0, s1, s2, s3, s4, s5, s6, s7, s8, s9, s10, s11, s12, s13, s14, s15, s16, s17⟩
      go_simp
      with_reducible rfl
    rotate_left
    · simp only [Act.put, List.setIfInBounds_toArray, List.set_cons_zero, List.set_cons_succ, i64_w, i32_w]
      rfl
    refine take_ (i := 27) (N := some 68) (v := ?_) (a' := ?_) #[true, true, true, true, true, true, true, true, true, true, true, true, true, true, true, true, true, true, true, true, true, true, true, true, false, true, true, true, false, false, false, false, false, false, false, false, false, false, false, false, false, false, false, false] rfl rfl (take_ofW HT_.out HW_.out (by kernel_rfl)) (fun _ _ _ h => h) (Or.inl ⟨by rfl, ?_⟩) hHeld ?_ ?_
    rotate_left
    · rintro w' ⟨s0, s1, s2, s3, s4, s5, s6, s7, s8, s9, s10, s11, s12, s13, s14, s15, s16, s17⟩
      go_simp
      with_reducible rfl
    rotate_left
    · simp only [Act.put, List.setIfInBounds_toArray, List.set_cons_zero, List.set_cons_succ, i64_w, i32_w]
      rfl
    refine one_ (i := 24) (N := some 65) #[true, true, true, true, true, true, true, true, true, true, true, true, true, true, true, true, true, true, true, true, true, true, true, true, true, true, true, true, false, false, false, false, false, false, false, false, false, false, false, false, false, false, false, false] rfl rfl (one_of HT_.out (by kernel_rfl)) (by decide) (fun K hK => ?_)
    refine goes_ Tryd.func16 (by kernel_rfl) rfl #[.agg #[.bool t292, .bool t293, .int .i64 t294, .int .i64 t295]] (by rfl) rfl rfl (by (try simp only [List.map_toArray, List.map_cons, List.map_nil]); rfl) ?_
    with_reducible refine (impl_Lifetime.calls k t292 t293 t294 t295 t314 _ A57.out).mono ?_
    rintro e w65 ⟨rfl, hb⟩
    have HS16_ := (hb.cell (World.block_lt_of_cell? _ _ (hHeld.2.2.2.2.2.2.2.2.2.2.2.2.2.2.2.2.1))).trans (hHeld.2.2.2.2.2.2.2.2.2.2.2.2.2.2.2.2.1)
    have HS17_ := (hb.cell (World.block_lt_of_cell? _ _ (hHeld.2.2.2.2.2.2.2.2.2.2.2.2.2.2.2.2.2))).trans (hHeld.2.2.2.2.2.2.2.2.2.2.2.2.2.2.2.2.2)
    refine ⟨_, rfl, ?_⟩
    have n0_ := Aside0.mk (Kd.R_below (by (with_reducible repeat (first | apply Kd.R_alloc | apply Kd.R_drewN | apply Kd.R_drew )); exact HO289.out) hb)
    have n1_ := Aside0.mk (blk_below (g := gb285) (o := .cells #[.bool true, .bool t282, .int .i64 t283, .int .i64 t284] 25 (0, 0)) (by (with_reducible repeat (first | refine blk_drewN ?_ _ | refine blk_drew ?_ | refine blk_alloc ?_ _ )); exact BK285.out) hb)
    have n2_ := Aside0.mk (blk_below (g := gb296) (o := .cells #[.bool t292, .bool t293, .int .i64 t294, .int .i64 t295] 25 (0, 0)) (by (with_reducible repeat (first | refine blk_drewN ?_ _ | refine blk_drew ?_ | refine blk_alloc ?_ _ )); exact BK296.out) hb)
    have n3_ := Aside0.mk (blk_below (g := gb305) (o := .cells #[.bool t301, .bool t302, .int .i64 t303, .int .i64 t304] 25 (0, 0)) (by (with_reducible repeat (first | refine blk_drewN ?_ _ | refine blk_drew ?_ | refine blk_alloc ?_ _ )); exact BK305.out) hb)
    have n4_ := Aside0.mk (blk_below (g := gb312) (o := .cells #[.bool t308, .bool t309, .int .i64 t310, .int .i64 t311] 25 (0, 0)) (by (with_reducible repeat (first | refine blk_drewN ?_ _ | refine blk_drew ?_ | refine blk_alloc ?_ _ )); exact BK312.out) hb)
    have n5_ := Aside0.mk (below_step (by repeat ((with_reducible exact HB.out))) hb)
    clear HO289
    clear BK285
    clear BK296
    clear BK305
    clear BK312
    clear HB
    have HO289 := n0_
    have BK285 := n1_
    have BK296 := n2_
    have BK305 := n3_
    have BK312 := n4_
    have HB := n5_
    clear n0_ n1_ n2_ n3_ n4_ n5_
    (try clear hb)
    (try clear hb2)
    (try clear hk)
    (try clear hi)
    refine hK.out _ _ ⟨(blk_cell BK285.out 0).trans rfl, (blk_cell BK285.out 1).trans rfl, (blk_cell BK285.out 2).trans rfl, (blk_cell BK285.out 3).trans rfl, (blk_cell BK296.out 0).trans rfl, (blk_cell BK296.out 1).trans rfl, (blk_cell BK296.out 2).trans rfl, (blk_cell BK296.out 3).trans rfl, (blk_cell BK305.out 0).trans rfl, (blk_cell BK305.out 1).trans rfl, (blk_cell BK305.out 2).trans rfl, (blk_cell BK305.out 3).trans rfl, (blk_cell BK312.out 0).trans rfl, (blk_cell BK312.out 1).trans rfl, (blk_cell BK312.out 2).trans rfl, (blk_cell BK312.out 3).trans rfl, HS16_, HS17_⟩ (fun hHeld => ?_)
    clear hK K
    refine norm_ (a' := ?_) ?_ ?_
    rotate_left
    · show Act.put _ (some 65) _ = _
      simp only [Act.put, List.setIfInBounds_toArray, List.set_cons_zero, List.set_cons_succ, i64_w, i32_w]
      rfl
    refine pure_ (i := 28) (N := some 69) (v := ?_) (a' := ?_) #[true, true, true, true, true, true, true, true, true, true, true, true, true, true, true, true, true, true, true, true, true, true, true, true, true, true, true, true, true, false, false, false, false, false, false, false, false, false, false, false, false, false, false, false] rfl rfl (any_of HT_.out (by kernel_rfl)) (fun _ _ _ h => h) (Or.inl ⟨by rfl, ?_⟩) ?_ ?_
    rotate_left
    · intro w'
      go_simp
      with_reducible rfl
    rotate_left
    · simp only [Act.put, List.setIfInBounds_toArray, List.set_cons_zero, List.set_cons_succ, i64_w, i32_w]
      rfl
    refine pure_ (i := 29) (N := some 70) (v := ?_) (a' := ?_) #[true, true, true, true, true, true, true, true, true, true, true, true, true, true, true, true, true, true, true, true, true, true, true, true, true, true, true, true, true, true, false, false, false, false, false, false, false, false, false, false, false, false, false, false] rfl rfl (any_of HT_.out (by kernel_rfl)) (fun _ _ _ h => h) (Or.inl ⟨by rfl, ?_⟩) ?_ ?_
    rotate_left
    · intro w'
      go_simp
      with_reducible rfl
    rotate_left
    · simp only [Act.put, List.setIfInBounds_toArray, List.set_cons_zero, List.set_cons_succ, i64_w, i32_w]
      rfl
    refine pure_ (i := 30) (N := some 71) (v := ?_) (a' := ?_) #[true, true, true, true, true, true, true, true, true, true, true, true, true, true, true, true, true, true, true, true, true, true, true, true, true, true, true, true, true, true, true, false, false, false, false, false, false, false, false, false, false, false, false, false] rfl rfl (any_of HT_.out (by kernel_rfl)) (fun _ _ _ h => h) (Or.inl ⟨by rfl, ?_⟩) ?_ ?_
    rotate_left
    · intro w'
      go_simp
      with_reducible rfl
    rotate_left
    · simp only [Act.put, List.setIfInBounds_toArray, List.set_cons_zero, List.set_cons_succ, i64_w, i32_w]
      rfl
    refine pure_ (i := 33) (N := some 74) (v := ?_) (a' := ?_) #[true, true, true, true, true, true, true, true, true, true, true, true, true, true, true, true, true, true, true, true, true, true, true, true, true, true, true, true, true, true, true, false, false, true, false, false, false, false, false, false, false, false, false, false] rfl rfl (any_of HT_.out (by kernel_rfl)) (fun _ _ _ h => h) (Or.inl ⟨by rfl, ?_⟩) ?_ ?_
    rotate_left
    · intro w'
      go_simp
      with_reducible rfl
    rotate_left
    · simp only [Act.put, List.setIfInBounds_toArray, List.set_cons_zero, List.set_cons_succ, i64_w, i32_w]
      rfl
    refine pure_ (i := 34) (N := some 75) (v := ?_) (a' := ?_) #[true, true, true, true, true, true, true, true, true, true, true, true, true, true, true, true, true, true, true, true, true, true, true, true, true, true, true, true, true, true, true, false, false, true, true, false, false, false, false, false, false, false, false, false] rfl rfl (any_of HT_.out (by kernel_rfl)) (fun _ _ _ h => h) (Or.inl ⟨by rfl, ?_⟩) ?_ ?_
    rotate_left
    · intro w'
      go_simp
      with_reducible rfl
    rotate_left
    · simp only [Act.put, List.setIfInBounds_toArray, List.set_cons_zero, List.set_cons_succ, i64_w, i32_w]
      rfl
    refine take_ (i := 31) (N := some 72) (v := ?_) (a' := ?_) #[true, true, true, true, true, true, true, true, true, true, true, true, true, true, true, true, true, true, true, true, true, true, true, true, true, true, true, true, true, true, true, true, false, true, true, false, false, false, false, false, false, false, false, false] rfl rfl (take_ofW HT_.out HW_.out (by kernel_rfl)) (fun _ _ _ h => h) (Or.inl ⟨by rfl, ?_⟩) hHeld ?_ ?_
    rotate_left
    · rintro w' ⟨s0, s1, s2, s3, s4, s5, s6, s7, s8, s9, s10, s11, s12, s13, s14, s15, s16, s17⟩
      go_simp
      with_reducible rfl
    rotate_left
    · simp only [Act.put, List.setIfInBounds_toArray, List.set_cons_zero, List.set_cons_succ, i64_w, i32_w]
      rfl
    refine take_ (i := 35) (N := some 76) (v := ?_) (a' := ?_) #[true, true, true, true, true, true, true, true, true, true, true, true, true, true, true, true, true, true, true, true, true, true, true, true, true, true, true, true, true, true, true, true, false, true, true, true, false, false, false, false, false, false, false, false] rfl rfl (take_ofW HT_.out HW_.out (by kernel_rfl)) (fun _ _ _ h => h) (Or.inl ⟨by rfl, ?_⟩) hHeld ?_ ?_
    rotate_left
    · rintro w' ⟨s0, s1, s2, s3, s4, s5, s6, s7, s8, s9, s10, s11, s12, s13, s14, s15, s16, s17⟩
      go_simp
      with_reducible rfl
    rotate_left
    · simp only [Act.put, List.setIfInBounds_toArray, List.set_cons_zero, List.set_cons_succ, i64_w, i32_w]
      rfl
    refine one_ (i := 32) (N := some 73) #[true, true, true, true, true, true, true, true, true, true, true, true, true, true, true, true, true, true, true, true, true, true, true, true, true, true, true, true, true, true, true, true, true, true, true, true, false, false, false, false, false, false, false, false] rfl rfl (one_of HT_.out (by kernel_rfl)) (by decide) (fun K hK => ?_)
    refine goes_ Tryd.func16 (by kernel_rfl) rfl #[.agg #[.bool t301, .bool t302, .int .i64 t303, .int .i64 t304]] (by rfl) rfl rfl (by (try simp only [List.map_toArray, List.map_cons, List.map_nil]); rfl) ?_
    with_reducible refine (impl_Lifetime.calls k t301 t302 t303 t304 t316 _ A59.out).mono ?_
    rintro e w66 ⟨rfl, hb⟩
    have HS16_ := (hb.cell (World.block_lt_of_cell? _ _ (hHeld.2.2.2.2.2.2.2.2.2.2.2.2.2.2.2.2.1))).trans (hHeld.2.2.2.2.2.2.2.2.2.2.2.2.2.2.2.2.1)
    have HS17_ := (hb.cell (World.block_lt_of_cell? _ _ (hHeld.2.2.2.2.2.2.2.2.2.2.2.2.2.2.2.2.2))).trans (hHeld.2.2.2.2.2.2.2.2.2.2.2.2.2.2.2.2.2)
    refine ⟨_, rfl, ?_⟩
    have n0_ := Aside0.mk (Kd.R_below (by (with_reducible repeat (first | apply Kd.R_alloc | apply Kd.R_drewN | apply Kd.R_drew )); exact HO289.out) hb)
    have n1_ := Aside0.mk (blk_below (g := gb285) (o := .cells #[.bool true, .bool t282, .int .i64 t283, .int .i64 t284] 25 (0, 0)) (by (with_reducible repeat (first | refine blk_drewN ?_ _ | refine blk_drew ?_ | refine blk_alloc ?_ _ )); exact BK285.out) hb)
    have n2_ := Aside0.mk (blk_below (g := gb296) (o := .cells #[.bool t292, .bool t293, .int .i64 t294, .int .i64 t295] 25 (0, 0)) (by (with_reducible repeat (first | refine blk_drewN ?_ _ | refine blk_drew ?_ | refine blk_alloc ?_ _ )); exact BK296.out) hb)
    have n3_ := Aside0.mk (blk_below (g := gb305) (o := .cells #[.bool t301, .bool t302, .int .i64 t303, .int .i64 t304] 25 (0, 0)) (by (with_reducible repeat (first | refine blk_drewN ?_ _ | refine blk_drew ?_ | refine blk_alloc ?_ _ )); exact BK305.out) hb)
    have n4_ := Aside0.mk (blk_below (g := gb312) (o := .cells #[.bool t308, .bool t309, .int .i64 t310, .int .i64 t311] 25 (0, 0)) (by (with_reducible repeat (first | refine blk_drewN ?_ _ | refine blk_drew ?_ | refine blk_alloc ?_ _ )); exact BK312.out) hb)
    have n5_ := Aside0.mk (below_step (by repeat ((with_reducible exact HB.out))) hb)
    clear HO289
    clear BK285
    clear BK296
    clear BK305
    clear BK312
    clear HB
    have HO289 := n0_
    have BK285 := n1_
    have BK296 := n2_
    have BK305 := n3_
    have BK312 := n4_
    have HB := n5_
    clear n0_ n1_ n2_ n3_ n4_ n5_
    (try clear hb)
    (try clear hb2)
    (try clear hk)
    (try clear hi)
    refine hK.out _ _ ⟨(blk_cell BK285.out 0).trans rfl, (blk_cell BK285.out 1).trans rfl, (blk_cell BK285.out 2).trans rfl, (blk_cell BK285.out 3).trans rfl, (blk_cell BK296.out 0).trans rfl, (blk_cell BK296.out 1).trans rfl, (blk_cell BK296.out 2).trans rfl, (blk_cell BK296.out 3).trans rfl, (blk_cell BK305.out 0).trans rfl, (blk_cell BK305.out 1).trans rfl, (blk_cell BK305.out 2).trans rfl, (blk_cell BK305.out 3).trans rfl, (blk_cell BK312.out 0).trans rfl, (blk_cell BK312.out 1).trans rfl, (blk_cell BK312.out 2).trans rfl, (blk_cell BK312.out 3).trans rfl, HS16_, HS17_⟩ (fun hHeld => ?_)
    clear hK K
    refine norm_ (a' := ?_) ?_ ?_
    rotate_left
    · show Act.put _ (some 73) _ = _
      simp only [Act.put, List.setIfInBounds_toArray, List.set_cons_zero, List.set_cons_succ, i64_w, i32_w]
      rfl
    refine pure_ (i := 36) (N := some 77) (v := ?_) (a' := ?_) #[true, true, true, true, true, true, true, true, true, true, true, true, true, true, true, true, true, true, true, true, true, true, true, true, true, true, true, true, true, true, true, true, true, true, true, true, true, false, false, false, false, false, false, false] rfl rfl (any_of HT_.out (by kernel_rfl)) (fun _ _ _ h => h) (Or.inl ⟨by rfl, ?_⟩) ?_ ?_
    rotate_left
    · intro w'
      go_simp
      with_reducible rfl
    rotate_left
    · simp only [Act.put, List.setIfInBounds_toArray, List.set_cons_zero, List.set_cons_succ, i64_w, i32_w]
      rfl
    refine pure_ (i := 37) (N := some 78) (v := ?_) (a' := ?_) #[true, true, true, true, true, true, true, true, true, true, true, true, true, true, true, true, true, true, true, true, true, true, true, true, true, true, true, true, true, true, true, true, true, true, true, true, true, true, false, false, false, false, false, false] rfl rfl (any_of HT_.out (by kernel_rfl)) (fun _ _ _ h => h) (Or.inl ⟨by rfl, ?_⟩) ?_ ?_
    rotate_left
    · intro w'
      go_simp
      with_reducible rfl
    rotate_left
    · simp only [Act.put, List.setIfInBounds_toArray, List.set_cons_zero, List.set_cons_succ, i64_w, i32_w]
      rfl
    refine pure_ (i := 38) (N := some 79) (v := ?_) (a' := ?_) #[true, true, true, true, true, true, true, true, true, true, true, true, true, true, true, true, true, true, true, true, true, true, true, true, true, true, true, true, true, true, true, true, true, true, true, true, true, true, true, false, false, false, false, false] rfl rfl (any_of HT_.out (by kernel_rfl)) (fun _ _ _ h => h) (Or.inl ⟨by rfl, ?_⟩) ?_ ?_
    rotate_left
    · intro w'
      go_simp
      with_reducible rfl
    rotate_left
    · simp only [Act.put, List.setIfInBounds_toArray, List.set_cons_zero, List.set_cons_succ, i64_w, i32_w]
      rfl
    refine take_ (i := 39) (N := some 80) (v := ?_) (a' := ?_) #[true, true, true, true, true, true, true, true, true, true, true, true, true, true, true, true, true, true, true, true, true, true, true, true, true, true, true, true, true, true, true, true, true, true, true, true, true, true, true, true, false, false, false, false] rfl rfl (take_ofW HT_.out HW_.out (by kernel_rfl)) (fun _ _ _ h => h) (Or.inl ⟨by rfl, ?_⟩) hHeld ?_ ?_
    rotate_left
    · rintro w' ⟨s0, s1, s2, s3, s4, s5, s6, s7, s8, s9, s10, s11, s12, s13, s14, s15, s16, s17⟩
      go_simp
      with_reducible rfl
    rotate_left
    · simp only [Act.put, List.setIfInBounds_toArray, List.set_cons_zero, List.set_cons_succ, i64_w, i32_w]
      rfl
    refine one_ (i := 40) (N := some 81) #[true, true, true, true, true, true, true, true, true, true, true, true, true, true, true, true, true, true, true, true, true, true, true, true, true, true, true, true, true, true, true, true, true, true, true, true, true, true, true, true, true, false, false, false] rfl rfl (one_of HT_.out (by kernel_rfl)) (by decide) (fun K hK => ?_)
    refine goes_ Tryd.func16 (by kernel_rfl) rfl #[.agg #[.bool t308, .bool t309, .int .i64 t310, .int .i64 t311]] (by rfl) rfl rfl (by (try simp only [List.map_toArray, List.map_cons, List.map_nil]); rfl) ?_
    with_reducible refine (impl_Lifetime.calls k t308 t309 t310 t311 t318 _ A61.out).mono ?_
    rintro e w67 ⟨rfl, hb⟩
    have HS16_ := (hb.cell (World.block_lt_of_cell? _ _ (hHeld.2.2.2.2.2.2.2.2.2.2.2.2.2.2.2.2.1))).trans (hHeld.2.2.2.2.2.2.2.2.2.2.2.2.2.2.2.2.1)
    have HS17_ := (hb.cell (World.block_lt_of_cell? _ _ (hHeld.2.2.2.2.2.2.2.2.2.2.2.2.2.2.2.2.2))).trans (hHeld.2.2.2.2.2.2.2.2.2.2.2.2.2.2.2.2.2)
    refine ⟨_, rfl, ?_⟩
    have n0_ := Aside0.mk (Kd.R_below (by (with_reducible repeat (first | apply Kd.R_alloc | apply Kd.R_drewN | apply Kd.R_drew )); exact HO289.out) hb)
    have n1_ := Aside0.mk (blk_below (g := gb285) (o := .cells #[.bool true, .bool t282, .int .i64 t283, .int .i64 t284] 25 (0, 0)) (by (with_reducible repeat (first | refine blk_drewN ?_ _ | refine blk_drew ?_ | refine blk_alloc ?_ _ )); exact BK285.out) hb)
    have n2_ := Aside0.mk (blk_below (g := gb296) (o := .cells #[.bool t292, .bool t293, .int .i64 t294, .int .i64 t295] 25 (0, 0)) (by (with_reducible repeat (first | refine blk_drewN ?_ _ | refine blk_drew ?_ | refine blk_alloc ?_ _ )); exact BK296.out) hb)
    have n3_ := Aside0.mk (blk_below (g := gb305) (o := .cells #[.bool t301, .bool t302, .int .i64 t303, .int .i64 t304] 25 (0, 0)) (by (with_reducible repeat (first | refine blk_drewN ?_ _ | refine blk_drew ?_ | refine blk_alloc ?_ _ )); exact BK305.out) hb)
    have n4_ := Aside0.mk (blk_below (g := gb312) (o := .cells #[.bool t308, .bool t309, .int .i64 t310, .int .i64 t311] 25 (0, 0)) (by (with_reducible repeat (first | refine blk_drewN ?_ _ | refine blk_drew ?_ | refine blk_alloc ?_ _ )); exact BK312.out) hb)
    have n5_ := Aside0.mk (below_step (by repeat ((with_reducible exact HB.out))) hb)
    clear HO289
    clear BK285
    clear BK296
    clear BK305
    clear BK312
    clear HB
    have HO289 := n0_
    have BK285 := n1_
    have BK296 := n2_
    have BK305 := n3_
    have BK312 := n4_
    have HB := n5_
    clear n0_ n1_ n2_ n3_ n4_ n5_
    (try clear hb)
    (try clear hb2)
    (try clear hk)
    (try clear hi)
    refine hK.out _ _ ⟨(blk_cell BK285.out 0).trans rfl, (blk_cell BK285.out 1).trans rfl, (blk_cell BK285.out 2).trans rfl, (blk_cell BK285.out 3).trans rfl, (blk_cell BK296.out 0).trans rfl, (blk_cell BK296.out 1).trans rfl, (blk_cell BK296.out 2).trans rfl, (blk_cell BK296.out 3).trans rfl, (blk_cell BK305.out 0).trans rfl, (blk_cell BK305.out 1).trans rfl, (blk_cell BK305.out 2).trans rfl, (blk_cell BK305.out 3).trans rfl, (blk_cell BK312.out 0).trans rfl, (blk_cell BK312.out 1).trans rfl, (blk_cell BK312.out 2).trans rfl, (blk_cell BK312.out 3).trans rfl, HS16_, HS17_⟩ (fun hHeld => ?_)
    clear hK K
    refine norm_ (a' := ?_) ?_ ?_
    rotate_left
    · show Act.put _ (some 81) _ = _
      simp only [Act.put, List.setIfInBounds_toArray, List.set_cons_zero, List.set_cons_succ, i64_w, i32_w]
      rfl
    refine pure_ (i := 41) (N := some 82) (v := ?_) (a' := ?_) #[true, true, true, true, true, true, true, true, true, true, true, true, true, true, true, true, true, true, true, true, true, true, true, true, true, true, true, true, true, true, true, true, true, true, true, true, true, true, true, true, true, true, false, false] rfl rfl (any_of HT_.out (by kernel_rfl)) (fun _ _ _ h => h) (Or.inl ⟨by rfl, ?_⟩) ?_ ?_
    rotate_left
    · intro w'
      go_simp
      with_reducible rfl
    rotate_left
    · simp only [Act.put, List.setIfInBounds_toArray, List.set_cons_zero, List.set_cons_succ, i64_w, i32_w]
      rfl
    refine pure_ (i := 42) (N := some 83) (v := ?_) (a' := ?_) #[true, true, true, true, true, true, true, true, true, true, true, true, true, true, true, true, true, true, true, true, true, true, true, true, true, true, true, true, true, true, true, true, true, true, true, true, true, true, true, true, true, true, true, false] rfl rfl (any_of HT_.out (by kernel_rfl)) (fun _ _ _ h => h) (Or.inl ⟨by rfl, ?_⟩) ?_ ?_
    rotate_left
    · intro w'
      go_simp
      with_reducible rfl
    rotate_left
    · simp only [Act.put, List.setIfInBounds_toArray, List.set_cons_zero, List.set_cons_succ, i64_w, i32_w]
      rfl
    refine pure_ (i := 43) (N := some 2) (v := ?_) (a' := ?_) #[true, true, true, true, true, true, true, true, true, true, true, true, true, true, true, true, true, true, true, true, true, true, true, true, true, true, true, true, true, true, true, true, true, true, true, true, true, true, true, true, true, true, true, true] rfl rfl (any_of HT_.out (by kernel_rfl)) (fun _ _ _ h => h) (Or.inl ⟨by rfl, ?_⟩) ?_ ?_
    rotate_left
    · intro w'
      go_simp
      with_reducible rfl
    rotate_left
    · simp only [Act.put, List.setIfInBounds_toArray, List.set_cons_zero, List.set_cons_succ, i64_w, i32_w]
      rfl
    refine done_ (done_of HT_.out (by kernel_rfl)) ?_
    go_wp2
    go_ret
    exact ⟨by rfl, by repeat ((with_reducible exact HB.out))⟩
  · replace c55 := Bool.eq_false_iff.mpr c55
    subst c55
    have H1 : (if t282 = true then (if t286 = 0 then ((impl_Lifetime.f k t292 t293 t294 t295).bind fun t319 => (if t319 = (rd t287 0) then ((impl_Lifetime.f k t301 t302 t303 t304).bind fun t321 => (if t321 = (rd t287 1) then ((impl_Lifetime.f k t308 t309 t310 t311).bind fun t323 => (some (t323 == 0))) else (none))) else (none))) else (none)) else ((impl_Lifetime.f k t292 t293 t294 t295).bind fun t324 => (if t324 = (rd t287 0) then ((impl_Lifetime.f k t301 t302 t303 t304).bind fun t326 => (if t326 = (rd t287 1) then ((impl_Lifetime.f k t308 t309 t310 t311).bind fun t328 => (some (t328 == 0))) else (none))) else (none)))) = some r := by rw [if_neg (show ¬ (false = true) by decide)] at H; exact H
    clear H
    have H := H1
    clear H1
    by_cases c68 : t282 = true
    · subst c68
      have H1 : (if t286 = 0 then ((impl_Lifetime.f k t292 t293 t294 t295).bind fun t319 => (if t319 = (rd t287 0) then ((impl_Lifetime.f k t301 t302 t303 t304).bind fun t321 => (if t321 = (rd t287 1) then ((impl_Lifetime.f k t308 t309 t310 t311).bind fun t323 => (some (t323 == 0))) else (none))) else (none))) else (none)) = some r := by rw [if_pos rfl] at H; exact H
      clear H
      have H := H1
      clear H1
      by_cases c69 : t286 = 0
      rotate_left
      · rw [if_neg c69] at H
        have c69b0 : (t286 == 0) = false := beq_eq_false_iff_ne.mpr c69
        have c69b1 : (t286 != 0) = true := bne_iff_ne.mpr c69
        exact absurd H (by simp)
      rw [if_pos c69] at H
      have c69b0 : (t286 == 0) = true := beq_iff_eq.mpr c69
      have c69b1 : (t286 != 0) = false := bne_eq_false_iff_eq.mpr c69
      clear c69
      replace H := Option.bind_eq_some_iff.mp H
      obtain ⟨t319, A700, H⟩ := H
      replace H : (if t319 = (rd t287 0) then ((impl_Lifetime.f k t301 t302 t303 t304).bind fun t321 => (if t321 = (rd t287 1) then ((impl_Lifetime.f k t308 t309 t310 t311).bind fun t323 => (some (t323 == 0))) else (none))) else (none)) = some r := H
      have A70 := Aside0.mk A700
      clear A700
      by_cases c71 : t319 = (rd t287 0)
      rotate_left
      · rw [if_neg c71] at H
        have c71b0 : (t319 == (rd t287 0)) = false := beq_eq_false_iff_ne.mpr c71
        have c71b1 : (t319 != (rd t287 0)) = true := bne_iff_ne.mpr c71
        exact absurd H (by simp)
      rw [if_pos c71] at H
      have c71b0 : (t319 == (rd t287 0)) = true := beq_iff_eq.mpr c71
      have c71b1 : (t319 != (rd t287 0)) = false := bne_eq_false_iff_eq.mpr c71
      clear c71
      replace H := Option.bind_eq_some_iff.mp H
      obtain ⟨t321, A720, H⟩ := H
      replace H : (if t321 = (rd t287 1) then ((impl_Lifetime.f k t308 t309 t310 t311).bind fun t323 => (some (t323 == 0))) else (none)) = some r := H
      have A72 := Aside0.mk A720
      clear A720
      by_cases c73 : t321 = (rd t287 1)
      rotate_left
      · rw [if_neg c73] at H
        have c73b0 : (t321 == (rd t287 1)) = false := beq_eq_false_iff_ne.mpr c73
        have c73b1 : (t321 != (rd t287 1)) = true := bne_iff_ne.mpr c73
        exact absurd H (by simp)
      rw [if_pos c73] at H
      have c73b0 : (t321 == (rd t287 1)) = true := beq_iff_eq.mpr c73
      have c73b1 : (t321 != (rd t287 1)) = false := bne_eq_false_iff_eq.mpr c73
      clear c73
      replace H := Option.bind_eq_some_iff.mp H
      obtain ⟨t323, A740, H⟩ := H
      replace H : (some (t323 == 0)) = some r := H
      have A74 := Aside0.mk A740
      clear A740
      obtain rfl := Option.some.inj H
      go_wp2
      have n0_ : Aside0 (Kd.R (Kd.int .i64) 3 ((((w47.setCell ⟨gb312, 0, none⟩ (.bool t308)).setCell ⟨gb312, 1, none⟩ (.bool t309)).setCell ⟨gb312, 2, none⟩ (.int .i64 t310)).setCell ⟨gb312, 3, none⟩ (.int .i64 t311)) w.heap.size (fun _ => True) (.slice (some ad290) t287.length co28) t287) := ⟨by (with_reducible repeat (first | apply Kd.R_alloc | apply Kd.R_drewN | apply Kd.R_drew )); exact Kd.R_mono (Kd.R_far (p := ⟨gb312, 3, none⟩) (Kd.R_far (p := ⟨gb312, 2, none⟩) (Kd.R_far (p := ⟨gb312, 1, none⟩) (Kd.R_far (p := ⟨gb312, 0, none⟩) (Kd.R_types HO289.out BK312.out (by decide)) (fun _ hk => hk.2) (.bool t308)) (fun _ hk => hk.2) (.bool t309)) (fun _ hk => hk.2) (.int .i64 t310)) (fun _ hk => hk.2) (.int .i64 t311)) (fun _ hk => trivial)⟩
      have n1_ : Aside0 (((((w47.setCell ⟨gb312, 0, none⟩ (.bool t308)).setCell ⟨gb312, 1, none⟩ (.bool t309)).setCell ⟨gb312, 2, none⟩ (.int .i64 t310)).setCell ⟨gb312, 3, none⟩ (.int .i64 t311)).heap[gb285]? = some (.cells #[.bool false, .bool true, .int .i64 t283, .int .i64 t284] 25 (0, 0))) := ⟨by (with_reducible repeat (first | refine blk_drewN ?_ _ | refine blk_drew ?_ | refine blk_alloc ?_ _ )); refine blk_far ?_ NB285_312.out _; (with_reducible repeat (first | refine blk_drewN ?_ _ | refine blk_drew ?_ | refine blk_alloc ?_ _ )); refine blk_far ?_ NB285_312.out _; (with_reducible repeat (first | refine blk_drewN ?_ _ | refine blk_drew ?_ | refine blk_alloc ?_ _ )); refine blk_far ?_ NB285_312.out _; (with_reducible repeat (first | refine blk_drewN ?_ _ | refine blk_drew ?_ | refine blk_alloc ?_ _ )); refine blk_far ?_ NB285_312.out _; (with_reducible repeat (first | refine blk_drewN ?_ _ | refine blk_drew ?_ | refine blk_alloc ?_ _ )); exact BK285.out⟩
      have n2_ : Aside0 (((((w47.setCell ⟨gb312, 0, none⟩ (.bool t308)).setCell ⟨gb312, 1, none⟩ (.bool t309)).setCell ⟨gb312, 2, none⟩ (.int .i64 t310)).setCell ⟨gb312, 3, none⟩ (.int .i64 t311)).heap[gb296]? = some (.cells #[.bool t292, .bool t293, .int .i64 t294, .int .i64 t295] 25 (0, 0))) := ⟨by (with_reducible repeat (first | refine blk_drewN ?_ _ | refine blk_drew ?_ | refine blk_alloc ?_ _ )); refine blk_far ?_ NB296_312.out _; (with_reducible repeat (first | refine blk_drewN ?_ _ | refine blk_drew ?_ | refine blk_alloc ?_ _ )); refine blk_far ?_ NB296_312.out _; (with_reducible repeat (first | refine blk_drewN ?_ _ | refine blk_drew ?_ | refine blk_alloc ?_ _ )); refine blk_far ?_ NB296_312.out _; (with_reducible repeat (first | refine blk_drewN ?_ _ | refine blk_drew ?_ | refine blk_alloc ?_ _ )); refine blk_far ?_ NB296_312.out _; (with_reducible repeat (first | refine blk_drewN ?_ _ | refine blk_drew ?_ | refine blk_alloc ?_ _ )); exact BK296.out⟩
      have n3_ : Aside0 (((((w47.setCell ⟨gb312, 0, none⟩ (.bool t308)).setCell ⟨gb312, 1, none⟩ (.bool t309)).setCell ⟨gb312, 2, none⟩ (.int .i64 t310)).setCell ⟨gb312, 3, none⟩ (.int .i64 t311)).heap[gb305]? = some (.cells #[.bool t301, .bool t302, .int .i64 t303, .int .i64 t304] 25 (0, 0))) := ⟨by (with_reducible repeat (first | refine blk_drewN ?_ _ | refine blk_drew ?_ | refine blk_alloc ?_ _ )); refine blk_far ?_ NB305_312.out _; (with_reducible repeat (first | refine blk_drewN ?_ _ | refine blk_drew ?_ | refine blk_alloc ?_ _ )); refine blk_far ?_ NB305_312.out _; (with_reducible repeat (first | refine blk_drewN ?_ _ | refine blk_drew ?_ | refine blk_alloc ?_ _ )); refine blk_far ?_ NB305_312.out _; (with_reducible repeat (first | refine blk_drewN ?_ _ | refine blk_drew ?_ | refine blk_alloc ?_ _ )); refine blk_far ?_ NB305_312.out _; (with_reducible repeat (first | refine blk_drewN ?_ _ | refine blk_drew ?_ | refine blk_alloc ?_ _ )); exact BK305.out⟩
      have n4_ : Aside0 (((((w47.setCell ⟨gb312, 0, none⟩ (.bool t308)).setCell ⟨gb312, 1, none⟩ (.bool t309)).setCell ⟨gb312, 2, none⟩ (.int .i64 t310)).setCell ⟨gb312, 3, none⟩ (.int .i64 t311)).heap[gb312]? = some (.cells #[.bool t308, .bool t309, .int .i64 t310, .int .i64 t311] 25 (0, 0))) := ⟨by (with_reducible repeat (first | refine blk_drewN ?_ _ | refine blk_drew ?_ | refine blk_alloc ?_ _ )); refine blk_put (cs := #[.bool t308, .bool t309, .int .i64 t310, .int .i64 0]) ?_ 3 _ rfl; (with_reducible repeat (first | refine blk_drewN ?_ _ | refine blk_drew ?_ | refine blk_alloc ?_ _ )); refine blk_put (cs := #[.bool t308, .bool t309, .int .i64 0, .int .i64 0]) ?_ 2 _ rfl; (with_reducible repeat (first | refine blk_drewN ?_ _ | refine blk_drew ?_ | refine blk_alloc ?_ _ )); refine blk_put (cs := #[.bool t308, .bool false, .int .i64 0, .int .i64 0]) ?_ 1 _ rfl; (with_reducible repeat (first | refine blk_drewN ?_ _ | refine blk_drew ?_ | refine blk_alloc ?_ _ )); refine blk_put (cs := #[.bool false, .bool false, .int .i64 0, .int .i64 0]) ?_ 0 _ rfl; (with_reducible repeat (first | refine blk_drewN ?_ _ | refine blk_drew ?_ | refine blk_alloc ?_ _ )); exact BK312.out⟩
      have n5_ : Aside0 (Below w.heap.size w ((((w47.setCell ⟨gb312, 0, none⟩ (.bool t308)).setCell ⟨gb312, 1, none⟩ (.bool t309)).setCell ⟨gb312, 2, none⟩ (.int .i64 t310)).setCell ⟨gb312, 3, none⟩ (.int .i64 t311))) := ⟨by repeat ((with_reducible first | exact HB.out | refine below_set ?_ GE312.out))⟩
      (try clear HO289)
      (try clear BK285)
      (try clear BK296)
      (try clear BK305)
      (try clear BK312)
      (try clear HB)
      generalize ((((w47.setCell ⟨gb312, 0, none⟩ (.bool t308)).setCell ⟨gb312, 1, none⟩ (.bool t309)).setCell ⟨gb312, 2, none⟩ (.int .i64 t310)).setCell ⟨gb312, 3, none⟩ (.int .i64 t311)) = w75 at n0_ n1_ n2_ n3_ n4_ n5_ ⊢
      have HO289 := n0_
      have BK285 := n1_
      have BK296 := n2_
      have BK305 := n3_
      have BK312 := n4_
      have HB := n5_
      clear n0_ n1_ n2_ n3_ n4_ n5_
      have n0_ := Aside0.mk (Kd.R_drew HO289.out)
      have n1_ := Aside0.mk (blk_drew BK285.out)
      have n2_ := Aside0.mk (blk_drew BK296.out)
      have n3_ := Aside0.mk (blk_drew BK305.out)
      have n4_ := Aside0.mk (blk_drew BK312.out)
      have n5_ := Aside0.mk (below_drew1 HB.out)
      clear HO289
      clear BK285
      clear BK296
      clear BK305
      clear BK312
      clear HB
      have HO289 := n0_
      have BK285 := n1_
      have BK296 := n2_
      have BK305 := n3_
      have BK312 := n4_
      have HB := n5_
      clear n0_ n1_ n2_ n3_ n4_ n5_
      have p320 : 0 ≤ (0 : Int) := (by omega)
      have q320 : 0 < (t287.length : Int) := of_decide_eq_true (by (with_reducible assumption))
      obtain ⟨ad320, e320, hx320_0⟩ := Kd.at_int (Kd.R_reads' HO289.out).2.2 0 p320 q320
      obtain rfl : ad290 = ad320 := (by injection e320)
      have qi320 : (0 < t287.length) = True := eq_true (by omega)
      (try rw [show ((0 : Int)).toNat = 0 from rfl] at hx320_0)
      (try rw [Addr.add_zero'] at hx320_0)
      replace p320 := eq_true p320
      replace q320 := eq_true q320
      have p322 : 0 ≤ (1 : Int) := (by omega)
      have q322 : 1 < (t287.length : Int) := of_decide_eq_true (by (with_reducible assumption))
      obtain ⟨ad322, e322, hx322_0⟩ := Kd.at_int (Kd.R_reads' HO289.out).2.2 1 p322 q322
      obtain rfl : ad290 = ad322 := (by injection e322)
      (try simp only [show (1 : Int).toNat = 1 from rfl, Nat.reduceMul, Nat.reduceEqDiff, Go.Addr.add, ↓reduceIte] at hx322_0)
      have qi322 : (1 < t287.length) = True := eq_true (by omega)
      (try rw [show ((1 : Int)).toNat = 1 from rfl] at hx322_0)
      replace p322 := eq_true p322
      replace q322 := eq_true q322
      refine start_ (n := 44) (S := fun w' => w'.cell? ⟨gb285, 0, none⟩ = some (.bool false) ∧ w'.cell? ⟨gb285, 1, none⟩ = some (.bool true) ∧ w'.cell? ⟨gb285, 2, none⟩ = some (.int .i64 t283) ∧ w'.cell? ⟨gb285, 3, none⟩ = some (.int .i64 t284) ∧ w'.cell? ⟨gb296, 0, none⟩ = some (.bool t292) ∧ w'.cell? ⟨gb296, 1, none⟩ = some (.bool t293) ∧ w'.cell? ⟨gb296, 2, none⟩ = some (.int .i64 t294) ∧ w'.cell? ⟨gb296, 3, none⟩ = some (.int .i64 t295) ∧ w'.cell? ⟨gb305, 0, none⟩ = some (.bool t301) ∧ w'.cell? ⟨gb305, 1, none⟩ = some (.bool t302) ∧ w'.cell? ⟨gb305, 2, none⟩ = some (.int .i64 t303) ∧ w'.cell? ⟨gb305, 3, none⟩ = some (.int .i64 t304) ∧ w'.cell? ⟨gb312, 0, none⟩ = some (.bool t308) ∧ w'.cell? ⟨gb312, 1, none⟩ = some (.bool t309) ∧ w'.cell? ⟨gb312, 2, none⟩ = some (.int .i64 t310) ∧ w'.cell? ⟨gb312, 3, none⟩ = some (.int .i64 t311) ∧ w'.cell? ad290 = some (.int .i64 (rd t287 0)) ∧ w'.cell? ⟨ad290.block, ad290.off + 1, none⟩ = some (.int .i64 (rd t287 1))) (ds := []) #[false, false, false, false, false, false, false, false, false, false, false, false, false, false, false, false, false, false, false, false, false, false, false, false, false, false, false, false, false, false, false, false, false, false, false, false, false, false, false, false, false, false, false, false] (by kernel_rfl) rfl rfl ⟨(blk_cell BK285.out 0).trans rfl, (blk_cell BK285.out 1).trans rfl, (blk_cell BK285.out 2).trans rfl, (blk_cell BK285.out 3).trans rfl, (blk_cell BK296.out 0).trans rfl, (blk_cell BK296.out 1).trans rfl, (blk_cell BK296.out 2).trans rfl, (blk_cell BK296.out 3).trans rfl, (blk_cell BK305.out 0).trans rfl, (blk_cell BK305.out 1).trans rfl, (blk_cell BK305.out 2).trans rfl, (blk_cell BK305.out 3).trans rfl, (blk_cell BK312.out 0).trans rfl, (blk_cell BK312.out 1).trans rfl, (blk_cell BK312.out 2).trans rfl, (blk_cell BK312.out 3).trans rfl, hx320_0, hx322_0⟩ (fun hHeld => ?_); refine with_tabW laws_FnLifetimes.tab9 laws_FnLifetimes.bits9 (fun HT_ HW_ => ?_)
      generalize w75.drew = w76 at HO289 BK285 BK296 BK305 BK312 HB hx320_0 hx322_0 hHeld ⊢
      refine pure_ (i := 0) (N := some 41) (v := ?_) (a' := ?_) #[true, false, false, false, false, false, false, false, false, false, false, false, false, false, false, false, false, false, false, false, false, false, false, false, false, false, false, false, false, false, false, false, false, false, false, false, false, false, false, false, false, false, false, false] rfl rfl (any_of HT_.out (by kernel_rfl)) (fun _ _ _ h => h) (Or.inl ⟨by rfl, ?_⟩) ?_ ?_
      rotate_left
      · intro w'
        go_simp
        with_reducible rfl
      rotate_left
      · simp only [Act.put, List.setIfInBounds_toArray, List.set_cons_zero, List.set_cons_succ, i64_w, i32_w]
        rfl
      refine take_ (i := 1) (N := some 42) (v := ?_) (a' := ?_) #[true, true, false, false, false, false, false, false, false, false, false, false, false, false, false, false, false, false, false, false, false, false, false, false, false, false, false, false, false, false, false, false, false, false, false, false, false, false, false, false, false, false, false, false] rfl rfl (take_ofW HT_.out HW_.out (by kernel_rfl)) (fun _ _ _ h => h) (Or.inl ⟨by rfl, ?_⟩) hHeld ?_ ?_
      rotate_left
      · rintro w' ⟨s0, s1, s2, s3, s4, s5, s6, s7, s8, s9, s10, s11, s12, s13, s14, s15, s16, s17⟩
        go_simp
        with_reducible rfl
      rotate_left
      · simp only [Act.put, List.setIfInBounds_toArray, List.set_cons_zero, List.set_cons_succ, i64_w, i32_w]
        rfl
      refine one_ (i := 2) (N := some 43) #[true, true, true, false, false, false, false, false, false, false, false, false, false, false, false, false, false, false, false, false, false, false, false, false, false, false, false, false, false, false, false, false, false, false, false, false, false, false, false, false, false, false, false, false] rfl rfl (one_of HT_.out (by kernel_rfl)) (by decide) (fun K hK => ?_)
      refine goes_ Tryd.func19 (by kernel_rfl) rfl #[.agg #[.bool false, .bool true, .int .i64 t283, .int .i64 t284]] (by rfl) rfl rfl (by (try simp only [List.map_toArray, List.map_cons, List.map_nil]); rfl) ?_
      with_reducible refine (spec_Lifetime.calls k false true t283 t284 t313 _ A52.out).mono ?_
      rintro e w77 ⟨rfl, hb⟩
      have HS16_ := (hb.cell (World.block_lt_of_cell? _ _ (hHeld.2.2.2.2.2.2.2.2.2.2.2.2.2.2.2.2.1))).trans (hHeld.2.2.2.2.2.2.2.2.2.2.2.2.2.2.2.2.1)
      have HS17_ := (hb.cell (World.block_lt_of_cell? _ _ (hHeld.2.2.2.2.2.2.2.2.2.2.2.2.2.2.2.2.2))).trans (hHeld.2.2.2.2.2.2.2.2.2.2.2.2.2.2.2.2.2)
      refine ⟨_, rfl, ?_⟩
      have n0_ := Aside0.mk (Kd.R_below (by (with_reducible repeat (first | apply Kd.R_alloc | apply Kd.R_drewN | apply Kd.R_drew )); exact HO289.out) hb)
      have n1_ := Aside0.mk (blk_below (g := gb285) (o := .cells #[.bool false, .bool true, .int .i64 t283, .int .i64 t284] 25 (0, 0)) (by (with_reducible repeat (first | refine blk_drewN ?_ _ | refine blk_drew ?_ | refine blk_alloc ?_ _ )); exact BK285.out) hb)
      have n2_ := Aside0.mk (blk_below (g := gb296) (o := .cells #[.bool t292, .bool t293, .int .i64 t294, .int .i64 t295] 25 (0, 0)) (by (with_reducible repeat (first | refine blk_drewN ?_ _ | refine blk_drew ?_ | refine blk_alloc ?_ _ )); exact BK296.out) hb)
      have n3_ := Aside0.mk (blk_below (g := gb305) (o := .cells #[.bool t301, .bool t302, .int .i64 t303, .int .i64 t304] 25 (0, 0)) (by (with_reducible repeat (first | refine blk_drewN ?_ _ | refine blk_drew ?_ | refine blk_alloc ?_ _ )); exact BK305.out) hb)
      have n4_ := Aside0.mk (blk_below (g := gb312) (o := .cells #[.bool t308, .bool t309, .int .i64 t310, .int .i64 t311] 25 (0, 0)) (by (with_reducible repeat (first | refine blk_drewN ?_ _ | refine blk_drew ?_ | refine blk_alloc ?_ _ )); exact BK312.out) hb)
      have n5_ := Aside0.mk (below_step (by repeat ((with_reducible exact HB.out))) hb)
      clear HO289
      clear BK285
      clear BK296
      clear BK305
      clear BK312
      clear HB
      have HO289 := n0_
      have BK285 := n1_
      have BK296 := n2_
      have BK305 := n3_
      have BK312 := n4_
      have HB := n5_
      clear n0_ n1_ n2_ n3_ n4_ n5_
      (try clear hb)
      (try clear hb2)
      (try clear hk)
      (try clear hi)
      refine hK.out _ _ ⟨(blk_cell BK285.out 0).trans rfl, (blk_cell BK285.out 1).trans rfl, (blk_cell BK285.out 2).trans rfl, (blk_cell BK285.out 3).trans rfl, (blk_cell BK296.out 0).trans rfl, (blk_cell BK296.out 1).trans rfl, (blk_cell BK296.out 2).trans rfl, (blk_cell BK296.out 3).trans rfl, (blk_cell BK305.out 0).trans rfl, (blk_cell BK305.out 1).trans rfl, (blk_cell BK305.out 2).trans rfl, (blk_cell BK305.out 3).trans rfl, (blk_cell BK312.out 0).trans rfl, (blk_cell BK312.out 1).trans rfl, (blk_cell BK312.out 2).trans rfl, (blk_cell BK312.out 3).trans rfl, HS16_, HS17_⟩ (fun hHeld => ?_)
      clear hK K
      refine norm_ (a' := ?_) ?_ ?_
      rotate_left
      · show Act.put _ (some 43) _ = _
        simp only [Act.put, List.setIfInBounds_toArray, List.set_cons_zero, List.set_cons_succ, i64_w, i32_w]
        rfl
      refine pure_ (i := 3) (N := some 44) (v := ?_) (a' := ?_) #[true, true, true, true, false, false, false, false, false, false, false, false, false, false, false, false, false, false, false, false, false, false, false, false, false, false, false, false, false, false, false, false, false, false, false, false, false, false, false, false, false, false, false, false] rfl rfl (any_of HT_.out (by kernel_rfl)) (fun _ _ _ h => h) (Or.inl ⟨by rfl, ?_⟩) ?_ ?_
      rotate_left
      · intro w'
        go_simp
        with_reducible rfl
      rotate_left
      · simp only [Act.put, List.setIfInBounds_toArray, List.set_cons_zero, List.set_cons_succ, i64_w, i32_w]
        rfl
      refine pure_ (i := 4) (N := some 45) (v := ?_) (a' := ?_) #[true, true, true, true, true, false, false, false, false, false, false, false, false, false, false, false, false, false, false, false, false, false, false, false, false, false, false, false, false, false, false, false, false, false, false, false, false, false, false, false, false, false, false, false] rfl rfl (any_of HT_.out (by kernel_rfl)) (fun _ _ _ h => h) (Or.inl ⟨by rfl, ?_⟩) ?_ ?_
      rotate_left
      · intro w'
        go_simp
        with_reducible rfl
      rotate_left
      · simp only [Act.put, List.setIfInBounds_toArray, List.set_cons_zero, List.set_cons_succ, i64_w, i32_w]
        rfl
      refine pure_ (i := 5) (N := some 46) (v := ?_) (a' := ?_) #[true, true, true, true, true, true, false, false, false, false, false, false, false, false, false, false, false, false, false, false, false, false, false, false, false, false, false, false, false, false, false, false, false, false, false, false, false, false, false, false, false, false, false, false] rfl rfl (any_of HT_.out (by kernel_rfl)) (fun _ _ _ h => h) (Or.inl ⟨by rfl, ?_⟩) ?_ ?_
      rotate_left
      · intro w'
        go_simp
        with_reducible rfl
      rotate_left
      · simp only [Act.put, List.setIfInBounds_toArray, List.set_cons_zero, List.set_cons_succ, i64_w, i32_w]
        rfl
      refine pure_ (i := 6) (N := some 47) (v := ?_) (a' := ?_) #[true, true, true, true, true, true, true, false, false, false, false, false, false, false, false, false, false, false, false, false, false, false, false, false, false, false, false, false, false, false, false, false, false, false, false, false, false, false, false, false, false, false, false, false] rfl rfl (any_of HT_.out (by kernel_rfl)) (fun _ _ _ h => h) (Or.inl ⟨by rfl, ?_⟩) ?_ ?_
      rotate_left
      · intro w'
        go_simp
        with_reducible rfl
      rotate_left
      · simp only [Act.put, List.setIfInBounds_toArray, List.set_cons_zero, List.set_cons_succ, i64_w, i32_w]
        rfl
      refine pure_ (i := 7) (N := some 48) (v := ?_) (a' := ?_) #[true, true, true, true, true, true, true, true, false, false, false, false, false, false, false, false, false, false, false, false, false, false, false, false, false, false, false, false, false, false, false, false, false, false, false, false, false, false, false, false, false, false, false, false] rfl rfl (any_of HT_.out (by kernel_rfl)) (fun _ _ _ h => h) (Or.inl ⟨by rfl, ?_⟩) ?_ ?_
      rotate_left
      · intro w'
        go_simp
        with_reducible rfl
      rotate_left
      · simp only [Act.put, List.setIfInBounds_toArray, List.set_cons_zero, List.set_cons_succ, i64_w, i32_w]
        rfl
      refine pure_ (i := 8) (N := some 49) (v := ?_) (a' := ?_) #[true, true, true, true, true, true, true, true, true, false, false, false, false, false, false, false, false, false, false, false, false, false, false, false, false, false, false, false, false, false, false, false, false, false, false, false, false, false, false, false, false, false, false, false] rfl rfl (any_of HT_.out (by kernel_rfl)) (fun _ _ _ h => h) (Or.inl ⟨by rfl, ?_⟩) ?_ ?_
      rotate_left
      · intro w'
        go_simp
        with_reducible rfl
      rotate_left
      · simp only [Act.put, List.setIfInBounds_toArray, List.set_cons_zero, List.set_cons_succ, i64_w, i32_w]
        rfl
      refine pure_ (i := 9) (N := some 50) (v := ?_) (a' := ?_) #[true, true, true, true, true, true, true, true, true, true, false, false, false, false, false, false, false, false, false, false, false, false, false, false, false, false, false, false, false, false, false, false, false, false, false, false, false, false, false, false, false, false, false, false] rfl rfl (any_of HT_.out (by kernel_rfl)) (fun _ _ _ h => h) (Or.inl ⟨by rfl, ?_⟩) ?_ ?_
      rotate_left
      · intro w'
        go_simp
        with_reducible rfl
      rotate_left
      · simp only [Act.put, List.setIfInBounds_toArray, List.set_cons_zero, List.set_cons_succ, i64_w, i32_w]
        rfl
      refine take_ (i := 10) (N := some 51) (v := ?_) (a' := ?_) #[true, true, true, true, true, true, true, true, true, true, true, false, false, false, false, false, false, false, false, false, false, false, false, false, false, false, false, false, false, false, false, false, false, false, false, false, false, false, false, false, false, false, false, false] rfl rfl (take_ofW HT_.out HW_.out (by kernel_rfl)) (fun _ _ _ h => h) (Or.inl ⟨by rfl, ?_⟩) hHeld ?_ ?_
      rotate_left
      · rintro w' ⟨s0, s1, s2, s3, s4, s5, s6, s7, s8, s9, s10, s11, s12, s13, s14, s15, s16, s17⟩
        go_simp
        with_reducible rfl
      rotate_left
      · simp only [Act.put, List.setIfInBounds_toArray, List.set_cons_zero, List.set_cons_succ, i64_w, i32_w]
        rfl
      refine pure_ (i := 11) (N := some 52) (v := ?_) (a' := ?_) #[true, true, true, true, true, true, true, true, true, true, true, true, false, false, false, false, false, false, false, false, false, false, false, false, false, false, false, false, false, false, false, false, false, false, false, false, false, false, false, false, false, false, false, false] rfl rfl (any_of HT_.out (by kernel_rfl)) (fun _ _ _ h => h) (Or.inl ⟨by rfl, ?_⟩) ?_ ?_
      rotate_left
      · intro w'
        go_simp
        with_reducible rfl
      rotate_left
      · simp only [Act.put, List.setIfInBounds_toArray, List.set_cons_zero, List.set_cons_succ, i64_w, i32_w]
        rfl
      refine pure_ (i := 12) (N := some 53) (v := ?_) (a' := ?_) #[true, true, true, true, true, true, true, true, true, true, true, true, true, false, false, false, false, false, false, false, false, false, false, false, false, false, false, false, false, false, false, false, false, false, false, false, false, false, false, false, false, false, false, false] rfl rfl (any_of HT_.out (by kernel_rfl)) (fun _ _ _ h => h) (Or.inl ⟨by rfl, ?_⟩) ?_ ?_
      rotate_left
      · intro w'
        go_simp
        with_reducible rfl
      rotate_left
      · simp only [Act.put, List.setIfInBounds_toArray, List.set_cons_zero, List.set_cons_succ, i64_w, i32_w]
        rfl
      refine pure_ (i := 13) (N := some 54) (v := ?_) (a' := ?_) #[true, true, true, true, true, true, true, true, true, true, true, true, true, true, false, false, false, false, false, false, false, false, false, false, false, false, false, false, false, false, false, false, false, false, false, false, false, false, false, false, false, false, false, false] rfl rfl (any_of HT_.out (by kernel_rfl)) (fun _ _ _ h => h) (Or.inl ⟨by rfl, ?_⟩) ?_ ?_
      rotate_left
      · intro w'
        go_simp
        with_reducible rfl
      rotate_left
      · simp only [Act.put, List.setIfInBounds_toArray, List.set_cons_zero, List.set_cons_succ, i64_w, i32_w]
        rfl
      refine take_ (i := 14) (N := some 55) (v := ?_) (a' := ?_) #[true, true, true, true, true, true, true, true, true, true, true, true, true, true, true, false, false, false, false, false, false, false, false, false, false, false, false, false, false, false, false, false, false, false, false, false, false, false, false, false, false, false, false, false] rfl rfl (take_ofW HT_.out HW_.out (by kernel_rfl)) (fun _ _ _ h => h) (Or.inl ⟨by rfl, ?_⟩) hHeld ?_ ?_
      rotate_left
      · rintro w' ⟨s0, s1, s2, s3, s4, s5, s6, s7, s8, s9, s10, s11, s12, s13, s14, s15, s16, s17⟩
        go_simp
        with_reducible rfl
      rotate_left
      · simp only [Act.put, List.setIfInBounds_toArray, List.set_cons_zero, List.set_cons_succ, i64_w, i32_w]
        rfl
      refine pure_ (i := 15) (N := some 56) (v := ?_) (a' := ?_) #[true, true, true, true, true, true, true, true, true, true, true, true, true, true, true, true, false, false, false, false, false, false, false, false, false, false, false, false, false, false, false, false, false, false, false, false, false, false, false, false, false, false, false, false] rfl rfl (any_of HT_.out (by kernel_rfl)) (fun _ _ _ h => h) (Or.inl ⟨by rfl, ?_⟩) ?_ ?_
      rotate_left
      · intro w'
        go_simp
        with_reducible rfl
      rotate_left
      · simp only [Act.put, List.setIfInBounds_toArray, List.set_cons_zero, List.set_cons_succ, i64_w, i32_w]
        rfl
      refine pure_ (i := 16) (N := some 57) (v := ?_) (a' := ?_) #[true, true, true, true, true, true, true, true, true, true, true, true, true, true, true, true, true, false, false, false, false, false, false, false, false, false, false, false, false, false, false, false, false, false, false, false, false, false, false, false, false, false, false, false] rfl rfl (any_of HT_.out (by kernel_rfl)) (fun _ _ _ h => h) (Or.inl ⟨by rfl, ?_⟩) ?_ ?_
      rotate_left
      · intro w'
        go_simp
        with_reducible rfl
      rotate_left
      · simp only [Act.put, List.setIfInBounds_toArray, List.set_cons_zero, List.set_cons_succ, i64_w, i32_w]
        rfl
      refine pure_ (i := 17) (N := some 58) (v := ?_) (a' := ?_) #[true, true, true, true, true, true, true, true, true, true, true, true, true, true, true, true, true, true, false, false, false, false, false, false, false, false, false, false, false, false, false, false, false, false, false, false, false, false, false, false, false, false, false, false] rfl rfl (any_of HT_.out (by kernel_rfl)) (fun _ _ _ h => h) (Or.inl ⟨by rfl, ?_⟩) ?_ ?_
      rotate_left
      · intro w'
        go_simp
        with_reducible rfl
      rotate_left
      · simp only [Act.put, List.setIfInBounds_toArray, List.set_cons_zero, List.set_cons_succ, i64_w, i32_w]
        rfl
      refine pure_ (i := 18) (N := some 59) (v := ?_) (a' := ?_) #[true, true, true, true, true, true, true, true, true, true, true, true, true, true, true, true, true, true, true, false, false, false, false, false, false, false, false, false, false, false, false, false, false, false, false, false, false, false, false, false, false, false, false, false] rfl rfl (any_of HT_.out (by kernel_rfl)) (fun _ _ _ h => h) (Or.inl ⟨by rfl, ?_⟩) ?_ ?_
      rotate_left
      · intro w'
        go_simp
        with_reducible rfl
      rotate_left
      · simp only [Act.put, List.setIfInBounds_toArray, List.set_cons_zero, List.set_cons_succ, i64_w, i32_w]
        rfl
      refine pure_ (i := 19) (N := some 60) (v := ?_) (a' := ?_) #[true, true, true, true, true, true, true, true, true, true, true, true, true, true, true, true, true, true, true, true, false, false, false, false, false, false, false, false, false, false, false, false, false, false, false, false, false, false, false, false, false, false, false, false] rfl rfl (any_of HT_.out (by kernel_rfl)) (fun _ _ _ h => h) (Or.inl ⟨by rfl, ?_⟩) ?_ ?_
      rotate_left
      · intro w'
        go_simp
        with_reducible rfl
      rotate_left
      · simp only [Act.put, List.setIfInBounds_toArray, List.set_cons_zero, List.set_cons_succ, i64_w, i32_w]
        rfl
      refine pure_ (i := 20) (N := some 61) (v := ?_) (a' := ?_) #[true, true, true, true, true, true, true, true, true, true, true, true, true, true, true, true, true, true, true, true, true, false, false, false, false, false, false, false, false, false, false, false, false, false, false, false, false, false, false, false, false, false, false, false] rfl rfl (any_of HT_.out (by kernel_rfl)) (fun _ _ _ h => h) (Or.inl ⟨by rfl, ?_⟩) ?_ ?_
      rotate_left
      · intro w'
        go_simp
        with_reducible rfl
      rotate_left
      · simp only [Act.put, List.setIfInBounds_toArray, List.set_cons_zero, List.set_cons_succ, i64_w, i32_w]
        rfl
      refine pure_ (i := 21) (N := some 62) (v := ?_) (a' := ?_) #[true, true, true, true, true, true, true, true, true, true, true, true, true, true, true, true, true, true, true, true, true, true, false, false, false, false, false, false, false, false, false, false, false, false, false, false, false, false, false, false, false, false, false, false] rfl rfl (any_of HT_.out (by kernel_rfl)) (fun _ _ _ h => h) (Or.inl ⟨by rfl, ?_⟩) ?_ ?_
      rotate_left
      · intro w'
        go_simp
        with_reducible rfl
      rotate_left
      · simp only [Act.put, List.setIfInBounds_toArray, List.set_cons_zero, List.set_cons_succ, i64_w, i32_w]
        rfl
      refine pure_ (i := 22) (N := some 63) (v := ?_) (a' := ?_) #[true, true, true, true, true, true, true, true, true, true, true, true, true, true, true, true, true, true, true, true, true, true, true, false, false, false, false, false, false, false, false, false, false, false, false, false, false, false, false, false, false, false, false, false] rfl rfl (any_of HT_.out (by kernel_rfl)) (fun _ _ _ h => h) (Or.inl ⟨by rfl, ?_⟩) ?_ ?_
      rotate_left
      · intro w'
        go_simp
        with_reducible rfl
      rotate_left
      · simp only [Act.put, List.setIfInBounds_toArray, List.set_cons_zero, List.set_cons_succ, i64_w, i32_w]
        rfl
      refine pure_ (i := 25) (N := some 66) (v := ?_) (a' := ?_) #[true, true, true, true, true, true, true, true, true, true, true, true, true, true, true, true, true, true, true, true, true, true, true, false, false, true, false, false, false, false, false, false, false, false, false, false, false, false, false, false, false, false, false, false] rfl rfl (any_of HT_.out (by kernel_rfl)) (fun _ _ _ h => h) (Or.inl ⟨by rfl, ?_⟩) ?_ ?_
      rotate_left
      · intro w'
        go_simp
        with_reducible rfl
      rotate_left
      · simp only [Act.put, List.setIfInBounds_toArray, List.set_cons_zero, List.set_cons_succ, i64_w, i32_w]
        rfl
      refine pure_ (i := 26) (N := some 67) (v := ?_) (a' := ?_) #[true, true, true, true, true, true, true, true, true, true, true, true, true, true, true, true, true, true, true, true, true, true, true, false, false, true, true, false, false, false, false, false, false, false, false, false, false, false, false, false, false, false, false, false] rfl rfl (any_of HT_.out (by kernel_rfl)) (fun _ _ _ h => h) (Or.inl ⟨by rfl, ?_⟩) ?_ ?_
      rotate_left
      · intro w'
        go_simp
        with_reducible rfl
      rotate_left
      · simp only [Act.put, List.setIfInBounds_toArray, List.set_cons_zero, List.set_cons_succ, i64_w, i32_w]
        rfl
      refine take_ (i := 23) (N := some 64) (v := ?_) (a' := ?_) #[true, true, true, true, true, true, true, true, true, true, true, true, true, true, true, true, true, true, true, true, true, true, true, true, false, true, true, false, false, false, false, false, false, false, false, false, false, false, false, false, false, false, false, false] rfl rfl (take_ofW HT_.out HW_.out (by kernel_rfl)) (fun _ _ _ h => h) (Or.inl ⟨by rfl, ?_⟩) hHeld ?_ ?_
      rotate_left
      · rintro w' ⟨s0, s1, s2, s3, s4, s5, s6, s7, s8, s9, s10, s11, s12, s13, s14, s15, s16, s17⟩
        go_simp
        with_reducible rfl
      rotate_left
      · simp only [Act.put, List.setIfInBounds_toArray, List.set_cons_zero, List.set_cons_succ, i64_w, i32_w]
        rfl
      refine take_ (i := 27) (N := some 68) (v := ?_) (a' := ?_) #[true, true, true, true, true, true, true, true, true, true, true, true, true, true, true, true, true, true, true, true, true, true, true, true, false, true, true, true, false, false, false, false, false, false, false, false, false, false, false, false, false, false, false, false] rfl rfl (take_ofW HT_.out HW_.out (by kernel_rfl)) (fun _ _ _ h => h) (Or.inl ⟨by rfl, ?_⟩) hHeld ?_ ?_
      rotate_left
      · rintro w' ⟨s0, s1, s2, s3, s4, s5, s6, s7, s8, s9, s10, s11, s12, s13, s14, s15, s16, s17⟩
        go_simp
        with_reducible rfl
      rotate_left
      · simp only [Act.put, List.setIfInBounds_toArray, List.set_cons_zero, List.set_cons_succ, i64_w, i32_w]
        rfl
      refine one_ (i := 24) (N := some 65) #[true, true, true, true, true, true, true, true, true, true, true, true, true, true, true, true, true, true, true, true, true, true, true, true, true, true, true, true, false, false, false, false, false, false, false, false, false, false, false, false, false, false, false, false] rfl rfl (one_of HT_.out (by kernel_rfl)) (by decide) (fun K hK => ?_)
      refine goes_ Tryd.func16 (by kernel_rfl) rfl #[.agg #[.bool t292, .bool t293, .int .i64 t294, .int .i64 t295]] (by rfl) rfl rfl (by (try simp only [List.map_toArray, List.map_cons, List.map_nil]); rfl) ?_
      with_reducible refine (impl_Lifetime.calls k t292 t293 t294 t295 t319 _ A70.out).mono ?_
      rintro e w78 ⟨rfl, hb⟩
      have HS16_ := (hb.cell (World.block_lt_of_cell? _ _ (hHeld.2.2.2.2.2.2.2.2.2.2.2.2.2.2.2.2.1))).trans (hHeld.2.2.2.2.2.2.2.2.2.2.2.2.2.2.2.2.1)
      have HS17_ := (hb.cell (World.block_lt_of_cell? _ _ (hHeld.2.2.2.2.2.2.2.2.2.2.2.2.2.2.2.2.2))).trans (hHeld.2.2.2.2.2.2.2.2.2.2.2.2.2.2.2.2.2)
      refine ⟨_, rfl, ?_⟩
      have n0_ := Aside0.mk (Kd.R_below (by (with_reducible repeat (first | apply Kd.R_alloc | apply Kd.R_drewN | apply Kd.R_drew )); exact HO289.out) hb)
      have n1_ := Aside0.mk (blk_below (g := gb285) (o := .cells #[.bool false, .bool true, .int .i64 t283, .int .i64 t284] 25 (0, 0)) (by (with_reducible repeat (first | refine blk_drewN ?_ _ | refine blk_drew ?_ | refine blk_alloc ?_ _ )); exact BK285.out) hb)
      have n2_ := Aside0.mk (blk_below (g := gb296) (o := .cells #[.bool t292, .bool t293, .int .i64 t294, .int .i64 t295] 25 (0, 0)) (by (with_reducible repeat (first | refine blk_drewN ?_ _ | refine blk_drew ?_ | refine blk_alloc ?_ _ )); exact BK296.out) hb)
      have n3_ := Aside0.mk (blk_below (g := gb305) (o := .cells #[.bool t301, .bool t302, .int .i64 t303, .int .i64 t304] 25 (0, 0)) (by (with_reducible repeat (first | refine blk_drewN ?_ _ | refine blk_drew ?_ | refine blk_alloc ?_ _ )); exact BK305.out) hb)
      have n4_ := Aside0.mk (blk_below (g := gb312) (o := .cells #[.bool t308, .bool t309, .int .i64 t310, .int .i64 t311] 25 (0, 0)) (by (with_reducible repeat (first | refine blk_drewN ?_ _ | refine blk_drew ?_ | refine blk_alloc ?_ _ )); exact BK312.out) hb)
      have n5_ := Aside0.mk (below_step (by repeat ((with_reducible exact HB.out))) hb)
      clear HO289
      clear BK285
      clear BK296
      clear BK305
      clear BK312
      clear HB
      have HO289 := n0_
      have BK285 := n1_
      have BK296 := n2_
      have BK305 := n3_
      have BK312 := n4_
      have HB := n5_
      clear n0_ n1_ n2_ n3_ n4_ n5_
      (try clear hb)
      (try clear hb2)
      (try clear hk)
      (try clear hi)
      refine hK.out _ _ ⟨(blk_cell BK285.out 0).trans rfl, (blk_cell BK285.out 1).trans rfl, (blk_cell BK285.out 2).trans rfl, (blk_cell BK285.out 3).trans rfl, (blk_cell BK296.out 0).trans rfl, (blk_cell BK296.out 1).trans rfl, (blk_cell BK296.out 2).trans rfl, (blk_cell BK296.out 3).trans rfl, (blk_cell BK305.out 0).trans rfl, (blk_cell BK305.out 1).trans rfl, (blk_cell BK305.out 2).trans rfl, (blk_cell BK305.out 3).trans rfl, (blk_cell BK312.out 0).trans rfl, (blk_cell BK312.out 1).trans rfl, (blk_cell BK312.out 2).trans rfl, (blk_cell BK312.out 3).trans rfl, HS16_, HS17_⟩ (fun hHeld => ?_)
      clear hK K
      refine norm_ (a' := ?_) ?_ ?_
      rotate_left
      · show Act.put _ (some 65) _ = _
        simp only [Act.put, List.setIfInBounds_toArray, List.set_cons_zero, List.set_cons_succ, i64_w, i32_w]
        rfl
      refine pure_ (i := 28) (N := some 69) (v := ?_) (a' := ?_) #[true, true, true, true, true, true, true, true, true, true, true, true, true, true, true, true, true, true, true, true, true, true, true, true, true, true, true, true, true, false, false, false, false, false, false, false, false, false, false, false, false, false, false, false] rfl rfl (any_of HT_.out (by kernel_rfl)) (fun _ _ _ h => h) (Or.inl ⟨by rfl, ?_⟩) ?_ ?_
      rotate_left
      · intro w'
        go_simp
        with_reducible rfl
      rotate_left
      · simp only [Act.put, List.setIfInBounds_toArray, List.set_cons_zero, List.set_cons_succ, i64_w, i32_w]
        rfl
      refine pure_ (i := 29) (N := some 70) (v := ?_) (a' := ?_) #[true, true, true, true, true, true, true, true, true, true, true, true, true, true, true, true, true, true, true, true, true, true, true, true, true, true, true, true, true, true, false, false, false, false, false, false, false, false, false, false, false, false, false, false] rfl rfl (any_of HT_.out (by kernel_rfl)) (fun _ _ _ h => h) (Or.inl ⟨by rfl, ?_⟩) ?_ ?_
      rotate_left
      · intro w'
        go_simp
        with_reducible rfl
      rotate_left
      · simp only [Act.put, List.setIfInBounds_toArray, List.set_cons_zero, List.set_cons_succ, i64_w, i32_w]
        rfl
      refine pure_ (i := 30) (N := some 71) (v := ?_) (a' := ?_) #[true, true, true, true, true, true, true, true, true, true, true, true, true, true, true, true, true, true, true, true, true, true, true, true, true, true, true, true, true, true, true, false, false, false, false, false, false, false, false, false, false, false, false, false] rfl rfl (any_of HT_.out (by kernel_rfl)) (fun _ _ _ h => h) (Or.inl ⟨by rfl, ?_⟩) ?_ ?_
      rotate_left
      · intro w'
        go_simp
        with_reducible rfl
      rotate_left
      · simp only [Act.put, List.setIfInBounds_toArray, List.set_cons_zero, List.set_cons_succ, i64_w, i32_w]
        rfl
      refine pure_ (i := 33) (N := some 74) (v := ?_) (a' := ?_) #[true, true, true, true, true, true, true, true, true, true, true, true, true, true, true, true, true, true, true, true, true, true, true, true, true, true, true, true, true, true, true, false, false, true, false, false, false, false, false, false, false, false, false, false] rfl rfl (any_of HT_.out (by kernel_rfl)) (fun _ _ _ h => h) (Or.inl ⟨by rfl, ?_⟩) ?_ ?_
      rotate_left
      · intro w'
        go_simp
        with_reducible rfl
      rotate_left
      · simp only [Act.put, List.setIfInBounds_toArray, List.set_cons_zero, List.set_cons_succ, i64_w, i32_w]
        rfl
      refine pure_ (i := 34) (N := some 75) (v := ?_) (a' := ?_) #[true, true, true, true, true, true, true, true, true, true, true, true, true, true, true, true, true, true, true, true, true, true, true, true, true, true, true, true, true, true, true, false, false, true, true, false, false, false, false, false, false, false, false, false] rfl rfl (any_of HT_.out (by kernel_rfl)) (fun _ _ _ h => h) (Or.inl ⟨by rfl, ?_⟩) ?_ ?_
      rotate_left
      · intro w'
        go_simp
        with_reducible rfl
      rotate_left
      · simp only [Act.put, List.setIfInBounds_toArray, List.set_cons_zero, List.set_cons_succ, i64_w, i32_w]
        rfl
      refine take_ (i := 31) (N := some 72) (v := ?_) (a' := ?_) #[true, true, true, true, true, true, true, true, true, true, true, true, true, true, true, true, true, true, true, true, true, true, true, true, true, true, true, true, true, true, true, true, false, true, true, false, false, false, false, false, false, false, false, false] rfl rfl (take_ofW HT_.out HW_.out (by kernel_rfl)) (fun _ _ _ h => h) (Or.inl ⟨by rfl, ?_⟩) hHeld ?_ ?_
      rotate_left
      · rintro w' ⟨s0, s1, s2, s3, s4, s5, s6, s7, s8, s9, s10, s11, s12, s13, s14, s15, s16, s17⟩
        go_simp
        with_reducible rfl
      rotate_left
      · simp only [Act.put, List.setIfInBounds_toArray, List.set_cons_zero, List.set_cons_succ, i64_w, i32_w]
        rfl
      refine take_ (i := 35) (N := some 76) (v := ?_) (a' := ?_) #[true, true, true, true, true, true, true, true, true, true, true, true, true, true, true, true, true, true, true, true, true, true, true, true, true, true, true, true, true, true, true, true, false, true, true, true, false, false, false, false, false, false, false, false] rfl rfl (take_ofW HT_.out HW_.out (by kernel_rfl)) (fun _ _ _ h => h) (Or.inl ⟨by rfl, ?_⟩) hHeld ?_ ?_
      rotate_left
      · rintro w' ⟨s0, s1, s2, s3, s4, s5, s6, s7, s8, s9, s10, s11, s12, s13, s14, s15, s16, s17⟩
        go_simp
        with_reducible rfl
      rotate_left
      · simp only [Act.put, List.setIfInBounds_toArray, List.set_cons_zero, List.set_cons_succ, i64_w, i32_w]
        rfl
      refine one_ (i := 32) (N := some 73) #[true, true, true, true, true, true, true, true, true, true, true, true, true, true, true, true, true, true, true, true, true, true, true, true, true, true, true, true, true, true, true, true, true, true, true, true, false, false, false, false, false, false, false, false] rfl rfl (one_of HT_.out (by kernel_rfl)) (by decide) (fun K hK => ?_)
      refine goes_ Tryd.func16 (by kernel_rfl) rfl #[.agg #[.bool t301, .bool t302, .int .i64 t303, .int .i64 t304]] (by rfl) rfl rfl (by (try simp only [List.map_toArray, List.map_cons, List.map_nil]); rfl) ?_
      with_reducible refine (impl_Lifetime.calls k t301 t302 t303 t304 t321 _ A72.out).mono ?_
      rintro e w79 ⟨rfl, hb⟩
      have HS16_ := (hb.cell (World.block_lt_of_cell? _ _ (hHeld.2.2.2.2.2.2.2.2.2.2.2.2.2.2.2.2.1))).trans (hHeld.2.2.2.2.2.2.2.2.2.2.2.2.2.2.2.2.1)
      have HS17_ := (hb.cell (World.block_lt_of_cell? _ _ (hHeld.2.2.2.2.2.2.2.2.2.2.2.2.2.2.2.2.2))).trans (hHeld.2.2.2.2.2.2.2.2.2.2.2.2.2.2.2.2.2)
      refine ⟨_, rfl, ?_⟩
      have n0_ := Aside0.mk (Kd.R_below (by (with_reducible repeat (first | apply Kd.R_alloc | apply Kd.R_drewN | apply Kd.R_drew )); exact HO289.out) hb)
      have n1_ := Aside0.mk (blk_below (g := gb285) (o := .cells #[.bool false, .bool true, .int .i64 t283, .int .i64 t284] 25 (0, 0)) (by (with_reducible repeat (first | refine blk_drewN ?_ _ | refine blk_drew ?_ | refine blk_alloc ?_ _ )); exact BK285.out) hb)
      have n2_ := Aside0.mk (blk_below (g := gb296) (o := .cells #[.bool t292, .bool t293, .int .i64 t294, .int .i64 t295] 25 (0, 0)) (by (with_reducible repeat (first | refine blk_drewN ?_ _ | refine blk_drew ?_ | refine blk_alloc ?_ _ )); exact BK296.out) hb)
      have n3_ := Aside0.mk (blk_below (g := gb305) (o := .cells #[.bool t301, .bool t302, .int .i64 t303, .int .i64 t304] 25 (0, 0)) (by (with_reducible repeat (first | refine blk_drewN ?_ _ | refine blk_drew ?_ | refine blk_alloc ?_ _ )); exact BK305.out) hb)
      have n4_ := Aside0.mk (blk_below (g := gb312) (o := .cells #[.bool t308, .bool t309, .int .i64 t310, .int .i64 t311] 25 (0, 0)) (by (with_reducible repeat (first | refine blk_drewN ?_ _ | refine blk_drew ?_ | refine blk_alloc ?_ _ )); exact BK312.out) hb)
      have n5_ := Aside0.mk (below_step (by repeat ((with_reducible exact HB.out))) hb)
      clear HO289
      clear BK285
      clear BK296
      clear BK305
      clear BK312
      clear HB
      have HO289 := n0_
      have BK285 := n1_
      have BK296 := n2_
      have BK305 := n3_
      have BK312 := n4_
      have HB := n5_
      clear n0_ n1_ n2_ n3_ n4_ n5_
      (try clear hb)
      (try clear hb2)
      (try clear hk)
      (try clear hi)
      refine hK.out _ _ ⟨(blk_cell BK285.out 0).trans rfl, (blk_cell BK285.out 1).trans rfl, (blk_cell BK285.out 2).trans rfl, (blk_cell BK285.out 3).trans rfl, (blk_cell BK296.out 0).trans rfl, (blk_cell BK296.out 1).trans rfl, (blk_cell BK296.out 2).trans rfl, (blk_cell BK296.out 3).trans rfl, (blk_cell BK305.out 0).trans rfl, (blk_cell BK305.out 1).trans rfl, (blk_cell BK305.out 2).trans rfl, (blk_cell BK305.out 3).trans rfl, (blk_cell BK312.out 0).trans rfl, (blk_cell BK312.out 1).trans rfl, (blk_cell BK312.out 2).trans rfl, (blk_cell BK312.out 3).trans rfl, HS16_, HS17_⟩ (fun hHeld => ?_)
      clear hK K
      refine norm_ (a' := ?_) ?_ ?_
      rotate_left
      · show Act.put _ (some 73) _ = _
        simp only [Act.put, List.setIfInBounds_toArray, List.set_cons_zero, List.set_cons_succ, i64_w, i32_w]
        rfl
      refine pure_ (i := 36) (N := some 77) (v := ?_) (a' := ?_) #[true, true, true, true, true, true, true, true, true, true, true, true, true, true, true, true, true, true, true, true, true, true, true, true, true, true, true, true, true, true, true, true, true, true, true, true, true, false, false, false, false, false, false, false] rfl rfl (any_of HT_.out (by kernel_rfl)) (fun _ _ _ h => h) (Or.inl ⟨by rfl, ?_⟩) ?_ ?_
      rotate_left
      · intro w'
        go_simp
        with_reducible rfl
      rotate_left
      · simp only [Act.put, List.setIfInBounds_toArray, List.set_cons_zero, List.set_cons_succ, i64_w, i32_w]
        rfl
      refine pure_ (i := 37) (N := some 78) (v := ?_) (a' := ?_) #[true, true, true, true, true, true, true, true, true, true, true, true, true, true, true, true, true, true, true, true, true, true, true, true, true, true, true, true, true, true, true, true, true, true, true, true, true, true, false, false, false, false, false, false] rfl rfl (any_of HT_.out (by kernel_rfl)) (fun _ _ _ h => h) (Or.inl ⟨by rfl, ?_⟩) ?_ ?_
      rotate_left
      · intro w'
        go_simp
        with_reducible rfl
      rotate_left
      · simp only [Act.put, List.setIfInBounds_toArray, List.set_cons_zero, List.set_cons_succ, i64_w, i32_w]
        rfl
      refine pure_ (i := 38) (N := some 79) (v := ?_) (a' := ?_) #[true, true, true, true, true, true, true, true, true, true, true, true, true, true, true, true, true, true, true, true, true, true, true, true, true, true, true, true, true, true, true, true, true, true, true, true, true, true, true, false, false, false, false, false] rfl rfl (any_of HT_.out (by kernel_rfl)) (fun _ _ _ h => h) (Or.inl ⟨by rfl, ?_⟩) ?_ ?_
      rotate_left
      · intro w'
        go_simp
        with_reducible rfl
      rotate_left
      · simp only [Act.put, List.setIfInBounds_toArray, List.set_cons_zero, List.set_cons_succ, i64_w, i32_w]
        rfl
      refine take_ (i := 39) (N := some 80) (v := ?_) (a' := ?_) #[true, true, true, true, true, true, true, true, true, true, true, true, true, true, true, true, true, true, true, true, true, true, true, true, true, true, true, true, true, true, true, true, true, true, true, true, true, true, true, true, false, false, false, false] rfl rfl (take_ofW HT_.out HW_.out (by kernel_rfl)) (fun _ _ _ h => h) (Or.inl ⟨by rfl, ?_⟩) hHeld ?_ ?_
      rotate_left
      · rintro w' ⟨s0, s1, s2, s3, s4, s5, s6, s7, s8, s9, s10, s11, s12, s13, s14, s15, s16, s17⟩
        go_simp
        with_reducible rfl
      rotate_left
      · simp only [Act.put, List.setIfInBounds_toArray, List.set_cons_zero, List.set_cons_succ, i64_w, i32_w]
        rfl
      refine one_ (i := 40) (N := some 81) #[true, true, true, true, true, true, true, true, true, true, true, true, true, true, true, true, true, true, true, true, true, true, true, true, true, true, true, true, true, true, true, true, true, true, true, true, true, true, true, true, true, false, false, false] rfl rfl (one_of HT_.out (by kernel_rfl)) (by decide) (fun K hK => ?_)
      refine goes_ Tryd.func16 (by kernel_rfl) rfl #[.agg #[.bool t308, .bool t309, .int .i64 t310, .int .i64 t311]] (by rfl) rfl rfl (by (try simp only [List.map_toArray, List.map_cons, List.map_nil]); rfl) ?_
      with_reducible refine (impl_Lifetime.calls k t308 t309 t310 t311 t323 _ A74.out).mono ?_
      rintro e w80 ⟨rfl, hb⟩
      have HS16_ := (hb.cell (World.block_lt_of_cell? _ _ (hHeld.2.2.2.2.2.2.2.2.2.2.2.2.2.2.2.2.1))).trans (hHeld.2.2.2.2.2.2.2.2.2.2.2.2.2.2.2.2.1)
      have HS17_ := (hb.cell (World.block_lt_of_cell? _ _ (hHeld.2.2.2.2.2.2.2.2.2.2.2.2.2.2.2.2.2))).trans (hHeld.2.2.2.2.2.2.2.2.2.2.2.2.2.2.2.2.2)
      refine ⟨_, rfl, ?_⟩
      have n0_ := Aside0.mk (Kd.R_below (by (with_reducible repeat (first | apply Kd.R_alloc | apply Kd.R_drewN | apply Kd.R_drew )); exact HO289.out) hb)
      have n1_ := Aside0.mk (blk_below (g := gb285) (o := .cells #[.bool false, .bool true, .int .i64 t283, .int .i64 t284] 25 (0, 0)) (by (with_reducible repeat (first | refine blk_drewN ?_ _ | refine blk_drew ?_ | refine blk_alloc ?_ _ )); exact BK285.out) hb)
      have n2_ := Aside0.mk (blk_below (g := gb296) (o := .cells #[.bool t292, .bool t293, .int .i64 t294, .int .i64 t295] 25 (0, 0)) (by (with_reducible repeat (first | refine blk_drewN ?_ _ | refine blk_drew ?_ | refine blk_alloc ?_ _ )); exact BK296.out) hb)
      have n3_ := Aside0.mk (blk_below (g := gb305) (o := .cells #[.bool t301, .bool t302, .int .i64 t303, .int .i64 t304] 25 (0, 0)) (by (with_reducible repeat (first | refine blk_drewN ?_ _ | refine blk_drew ?_ | refine blk_alloc ?_ _ )); exact BK305.out) hb)
      have n4_ := Aside0.mk (blk_below (g := gb312) (o := .cells #[.bool t308, .bool t309, .int .i64 t310, .int .i64 t311] 25 (0, 0)) (by (with_reducible repeat (first | refine blk_drewN ?_ _ | refine blk_drew ?_ | refine blk_alloc ?_ _ )); exact BK312.out) hb)
      have n5_ := Aside0.mk (below_step (by repeat ((with_reducible exact HB.out))) hb)
      clear HO289
      clear BK285
      clear BK296
      clear BK305
      clear BK312
      clear HB
      have HO289 := n0_
      have BK285 := n1_
      have BK296 := n2_
      have BK305 := n3_
      have BK312 := n4_
      have HB := n5_
      clear n0_ n1_ n2_ n3_ n4_ n5_
      (try clear hb)
      (try clear hb2)
      (try clear hk)
      (try clear hi)
      refine hK.out _ _ ⟨(blk_cell BK285.out 0).trans rfl, (blk_cell BK285.out 1).trans rfl, (blk_cell BK285.out 2).trans rfl, (blk_cell BK285.out 3).trans rfl, (blk_cell BK296.out 0).trans rfl, (blk_cell BK296.out 1).trans rfl, (blk_cell BK296.out 2).trans rfl, (blk_cell BK296.out 3).trans rfl, (blk_cell BK305.out 0).trans rfl, (blk_cell BK305.out 1).trans rfl, (blk_cell BK305.out 2).trans rfl, (blk_cell BK305.out 3).trans rfl, (blk_cell BK312.out 0).trans rfl, (blk_cell BK312.out 1).trans rfl, (blk_cell BK312.out 2).trans rfl, (blk_cell BK312.out 3).trans rfl, HS16_, HS17_⟩ (fun hHeld => ?_)
      clear hK K
      refine norm_ (a' := ?_) ?_ ?_
      rotate_left
      · show Act.put _ (some 81) _ = _
        simp only [Act.put, List.setIfInBounds_toArray, List.set_cons_zero, List.set_cons_succ, i64_w, i32_w]
        rfl
      refine pure_ (i := 41) (N := some 82) (v := ?_) (a' := ?_) #[true, true, true, true, true, true, true, true, true, true, true, true, true, true, true, true, true, true, true, true, true, true, true, true, true, true, true, true, true, true, true, true, true, true, true, true, true, true, true, true, true, true, false, false] rfl rfl (any_of HT_.out (by kernel_rfl)) (fun _ _ _ h => h) (Or.inl ⟨by rfl, ?_⟩) ?_ ?_
      rotate_left
      · intro w'
        go_simp
        with_reducible rfl
      rotate_left
      · simp only [Act.put, List.setIfInBounds_toArray, List.set_cons_zero, List.set_cons_succ, i64_w, i32_w]
        rfl
      refine pure_ (i := 42) (N := some 83) (v := ?_) (a' := ?_) #[true, true, true, true, true, true, true, true, true, true, true, true, true, true, true, true, true, true, true, true, true, true, true, true, true, true, true, true, true, true, true, true, true, true, true, true, true, true, true, true, true, true, true, false] rfl rfl (any_of HT_.out (by kernel_rfl)) (fun _ _ _ h => h) (Or.inl ⟨by rfl, ?_⟩) ?_ ?_
      rotate_left
      · intro w'
        go_simp
        with_reducible rfl
      rotate_left
      · simp only [Act.put, List.setIfInBounds_toArray, List.set_cons_zero, List.set_cons_succ, i64_w, i32_w]
        rfl
      refine pure_ (i := 43) (N := some 2) (v := ?_) (a' := ?_) #[true, true, true, true, true, true, true, true, true, true, true, true, true, true, true, true, true, true, true, true, true, true, true, true, true, true, true, true, true, true, true, true, true, true, true, true, true, true, true, true, true, true, true, true] rfl rfl (any_of HT_.out (by kernel_rfl)) (fun _ _ _ h => h) (Or.inl ⟨by rfl, ?_⟩) ?_ ?_
      rotate_left
      · intro w'
        go_simp
        with_reducible rfl
      rotate_left
      · simp only [Act.put, List.setIfInBounds_toArray, List.set_cons_zero, List.set_cons_succ, i64_w, i32_w]
        rfl
      refine done_ (done_of HT_.out (by kernel_rfl)) ?_
      go_wp2
      go_ret
      exact ⟨by rfl, by repeat ((with_reducible exact HB.out))⟩
    · replace c68 := Bool.eq_false_iff.mpr c68
      subst c68
      have H1 : ((impl_Lifetime.f k t292 t293 t294 t295).bind fun t324 => (if t324 = (rd t287 0) then ((impl_Lifetime.f k t301 t302 t303 t304).bind fun t326 => (if t326 = (rd t287 1) then ((impl_Lifetime.f k t308 t309 t310 t311).bind fun t328 => (some (t328 == 0))) else (none))) else (none))) = some r := by rw [if_neg (show ¬ (false = true) by decide)] at H; exact H
      clear H
      have H := H1
      clear H1
      replace H := Option.bind_eq_some_iff.mp H
      obtain ⟨t324, A810, H⟩ := H
      replace H : (if t324 = (rd t287 0) then ((impl_Lifetime.f k t301 t302 t303 t304).bind fun t326 => (if t326 = (rd t287 1) then ((impl_Lifetime.f k t308 t309 t310 t311).bind fun t328 => (some (t328 == 0))) else (none))) else (none)) = some r := H
      have A81 := Aside0.mk A810
      clear A810
      by_cases c82 : t324 = (rd t287 0)
      rotate_left
      · rw [if_neg c82] at H
        have c82b0 : (t324 == (rd t287 0)) = false := beq_eq_false_iff_ne.mpr c82
        have c82b1 : (t324 != (rd t287 0)) = true := bne_iff_ne.mpr c82
        exact absurd H (by simp)
      rw [if_pos c82] at H
      have c82b0 : (t324 == (rd t287 0)) = true := beq_iff_eq.mpr c82
      have c82b1 : (t324 != (rd t287 0)) = false := bne_eq_false_iff_eq.mpr c82
      clear c82
      replace H := Option.bind_eq_some_iff.mp H
      obtain ⟨t326, A830, H⟩ := H
      replace H : (if t326 = (rd t287 1) then ((impl_Lifetime.f k t308 t309 t310 t311).bind fun t328 => (some (t328 == 0))) else (none)) = some r := H
      have A83 := Aside0.mk A830
      clear A830
      by_cases c84 : t326 = (rd t287 1)
      rotate_left
      · rw [if_neg c84] at H
        have c84b0 : (t326 == (rd t287 1)) = false := beq_eq_false_iff_ne.mpr c84
        have c84b1 : (t326 != (rd t287 1)) = true := bne_iff_ne.mpr c84
        exact absurd H (by simp)
      rw [if_pos c84] at H
      have c84b0 : (t326 == (rd t287 1)) = true := beq_iff_eq.mpr c84
      have c84b1 : (t326 != (rd t287 1)) = false := bne_eq_false_iff_eq.mpr c84
      clear c84
      replace H := Option.bind_eq_some_iff.mp H
      obtain ⟨t328, A850, H⟩ := H
      replace H : (some (t328 == 0)) = some r := H
      have A85 := Aside0.mk A850
      clear A850
      obtain rfl := Option.some.inj H
      go_wp2
      have n0_ : Aside0 (Kd.R (Kd.int .i64) 3 ((((w47.setCell ⟨gb312, 0, none⟩ (.bool t308)).setCell ⟨gb312, 1, none⟩ (.bool t309)).setCell ⟨gb312, 2, none⟩ (.int .i64 t310)).setCell ⟨gb312, 3, none⟩ (.int .i64 t311)) w.heap.size (fun _ => True) (.slice (some ad290) t287.length co28) t287) := ⟨by (with_reducible repeat (first | apply Kd.R_alloc | apply Kd.R_drewN | apply Kd.R_drew )); exact Kd.R_mono (Kd.R_far (p := ⟨gb312, 3, none⟩) (Kd.R_far (p := ⟨gb312, 2, none⟩) (Kd.R_far (p := ⟨gb312, 1, none⟩) (Kd.R_far (p := ⟨gb312, 0, none⟩) (Kd.R_types HO289.out BK312.out (by decide)) (fun _ hk => hk.2) (.bool t308)) (fun _ hk => hk.2) (.bool t309)) (fun _ hk => hk.2) (.int .i64 t310)) (fun _ hk => hk.2) (.int .i64 t311)) (fun _ hk => trivial)⟩
      have n1_ : Aside0 (((((w47.setCell ⟨gb312, 0, none⟩ (.bool t308)).setCell ⟨gb312, 1, none⟩ (.bool t309)).setCell ⟨gb312, 2, none⟩ (.int .i64 t310)).setCell ⟨gb312, 3, none⟩ (.int .i64 t311)).heap[gb285]? = some (.cells #[.bool false, .bool false, .int .i64 t283, .int .i64 t284] 25 (0, 0))) := ⟨by (with_reducible repeat (first | refine blk_drewN ?_ _ | refine blk_drew ?_ | refine blk_alloc ?_ _ )); refine blk_far ?_ NB285_312.out _; (with_reducible repeat (first | refine blk_drewN ?_ _ | refine blk_drew ?_ | refine blk_alloc ?_ _ )); refine blk_far ?_ NB285_312.out _; (with_reducible repeat (first | refine blk_drewN ?_ _ | refine blk_drew ?_ | refine blk_alloc ?_ _ )); refine blk_far ?_ NB285_312.out _; (with_reducible repeat (first | refine blk_drewN ?_ _ | refine blk_drew ?_ | refine blk_alloc ?_ _ )); refine blk_far ?_ NB285_312.out _; (with_reducible repeat (first | refine blk_drewN ?_ _ | refine blk_drew ?_ | refine blk_alloc ?_ _ )); exact BK285.out⟩
      have n2_ : Aside0 (((((w47.setCell ⟨gb312, 0, none⟩ (.bool t308)).setCell ⟨gb312, 1, none⟩ (.bool t309)).setCell ⟨gb312, 2, none⟩ (.int .i64 t310)).setCell ⟨gb312, 3, none⟩ (.int .i64 t311)).heap[gb296]? = some (.cells #[.bool t292, .bool t293, .int .i64 t294, .int .i64 t295] 25 (0, 0))) := ⟨by (with_reducible repeat (first | refine blk_drewN ?_ _ | refine blk_drew ?_ | refine blk_alloc ?_ _ )); refine blk_far ?_ NB296_312.out _; (with_reducible repeat (first | refine blk_drewN ?_ _ | refine blk_drew ?_ | refine blk_alloc ?_ _ )); refine blk_far ?_ NB296_312.out _; (with_reducible repeat (first | refine blk_drewN ?_ _ | refine blk_drew ?_ | refine blk_alloc ?_ _ )); refine blk_far ?_ NB296_312.out _; (with_reducible repeat (first | refine blk_drewN ?_ _ | refine blk_drew ?_ | refine blk_alloc ?_ _ )); refine blk_far ?_ NB296_312.out _; (with_reducible repeat (first | refine blk_drewN ?_ _ | refine blk_drew ?_ | refine blk_alloc ?_ _ )); exact BK296.out⟩
      have n3_ : Aside0 (((((w47.setCell ⟨gb312, 0, none⟩ (.bool t308)).setCell ⟨gb312, 1, none⟩ (.bool t309)).setCell ⟨gb312, 2, none⟩ (.int .i64 t310)).setCell ⟨gb312, 3, none⟩ (.int .i64 t311)).heap[gb305]? = some (.cells #[.bool t301, .bool t302, .int .i64 t303, .int .i64 t304] 25 (0, 0))) := ⟨by (with_reducible repeat (first | refine blk_drewN ?_ _ | refine blk_drew ?_ | refine blk_alloc ?_ _ )); refine blk_far ?_ NB305_312.out _; (with_reducible repeat (first | refine blk_drewN ?_ _ | refine blk_drew ?_ | refine blk_alloc ?_ _ )); refine blk_far ?_ NB305_312.out _; (with_reducible repeat (first | refine blk_drewN ?_ _ | refine blk_drew ?_ | refine blk_alloc ?_ _ )); refine blk_far ?_ NB305_312.out _; (with_reducible repeat (first | refine blk_drewN ?_ _ | refine blk_drew ?_ | refine blk_alloc ?_ _ )); refine blk_far ?_ NB305_312.out _; (with_reducible repeat (first | refine blk_drewN ?_ _ | refine blk_drew ?_ | refine blk_alloc ?_ _ )); exact BK305.out⟩
      have n4_ : Aside0 (((((w47.setCell ⟨gb312, 0, none⟩ (.bool t308)).setCell ⟨gb312, 1, none⟩ (.bool t309)).setCell ⟨gb312, 2, none⟩ (.int .i64 t310)).setCell ⟨gb312, 3, none⟩ (.int .i64 t311)).heap[gb312]? = some (.cells #[.bool t308, .bool t309, .int .i64 t310, .int .i64 t311] 25 (0, 0))) := ⟨by (with_reducible repeat (first | refine blk_drewN ?_ _ | refine blk_drew ?_ | refine blk_alloc ?_ _ )); refine blk_put (cs := #[.bool t308, .bool t309, .int .i64 t310, .int .i64 0]) ?_ 3 _ rfl; (with_reducible repeat (first | refine blk_drewN ?_ _ | refine blk_drew ?_ | refine blk_alloc ?_ _ )); refine blk_put (cs := #[.bool t308, .bool t309, .int .i64 0, .int .i64 0]) ?_ 2 _ rfl; (with_reducible repeat (first | refine blk_drewN ?_ _ | refine blk_drew ?_ | refine blk_alloc ?_ _ )); refine blk_put (cs := #[.bool t308, .bool false, .int .i64 0, .int .i64 0]) ?_ 1 _ rfl; (with_reducible repeat (first | refine blk_drewN ?_ _ | refine blk_drew ?_ | refine blk_alloc ?_ _ )); refine blk_put (cs := #[.bool false, .bool false, .int .i64 0, .int .i64 0]) ?_ 0 _ rfl; (with_reducible repeat (first | refine blk_drewN ?_ _ | refine blk_drew ?_ | refine blk_alloc ?_ _ )); exact BK312.out⟩
      have n5_ : Aside0 (Below w.heap.size w ((((w47.setCell ⟨gb312, 0, none⟩ (.bool t308)).setCell ⟨gb312, 1, none⟩ (.bool t309)).setCell ⟨gb312, 2, none⟩ (.int .i64 t310)).setCell ⟨gb312, 3, none⟩ (.int .i64 t311))) := ⟨by repeat ((with_reducible first | exact HB.out | refine below_set ?_ GE312.out))⟩
      (try clear HO289)
      (try clear BK285)
      (try clear BK296)
      (try clear BK305)
      (try clear BK312)
      (try clear HB)
      generalize ((((w47.setCell ⟨gb312, 0, none⟩ (.bool t308)).setCell ⟨gb312, 1, none⟩ (.bool t309)).setCell ⟨gb312, 2, none⟩ (.int .i64 t310)).setCell ⟨gb312, 3, none⟩ (.int .i64 t311)) = w86 at n0_ n1_ n2_ n3_ n4_ n5_ ⊢
      have HO289 := n0_
      have BK285 := n1_
      have BK296 := n2_
      have BK305 := n3_
      have BK312 := n4_
      have HB := n5_
      clear n0_ n1_ n2_ n3_ n4_ n5_
      have n0_ := Aside0.mk (Kd.R_drew HO289.out)
      have n1_ := Aside0.mk (blk_drew BK285.out)
      have n2_ := Aside0.mk (blk_drew BK296.out)
      have n3_ := Aside0.mk (blk_drew BK305.out)
      have n4_ := Aside0.mk (blk_drew BK312.out)
      have n5_ := Aside0.mk (below_drew1 HB.out)
      clear HO289
      clear BK285
      clear BK296
      clear BK305
      clear BK312
      clear HB
      have HO289 := n0_
      have BK285 := n1_
      have BK296 := n2_
      have BK305 := n3_
      have BK312 := n4_
      have HB := n5_
      clear n0_ n1_ n2_ n3_ n4_ n5_
      have p325 : 0 ≤ (0 : Int) := (by omega)
      have q325 : 0 < (t287.length : Int) := of_decide_eq_true (by (with_reducible assumption))
      obtain ⟨ad325, e325, hx325_0⟩ := Kd.at_int (Kd.R_reads' HO289.out).2.2 0 p325 q325
      obtain rfl : ad290 = ad325 := (by injection e325)
      have qi325 : (0 < t287.length) = True := eq_true (by omega)
      (try rw [show ((0 : Int)).toNat = 0 from rfl] at hx325_0)
      (try rw [Addr.add_zero'] at hx325_0)
      replace p325 := eq_true p325
      replace q325 := eq_true q325
      have p327 : 0 ≤ (1 : Int) := (by omega)
      have q327 : 1 < (t287.length : Int) := of_decide_eq_true (by (with_reducible assumption))
      obtain ⟨ad327, e327, hx327_0⟩ := Kd.at_int (Kd.R_reads' HO289.out).2.2 1 p327 q327
      obtain rfl : ad290 = ad327 := (by injection e327)
      (try simp only [show (1 : Int).toNat = 1 from rfl, Nat.reduceMul, Nat.reduceEqDiff, Go.Addr.add, ↓reduceIte] at hx327_0)
      have qi327 : (1 < t287.length) = True := eq_true (by omega)
      (try rw [show ((1 : Int)).toNat = 1 from rfl] at hx327_0)
      replace p327 := eq_true p327
      replace q327 := eq_true q327
      refine start_ (n := 44) (S := fun w' => w'.cell? ⟨gb285, 0, none⟩ = some (.bool false) ∧ w'.cell? ⟨gb285, 1, none⟩ = some (.bool false) ∧ w'.cell? ⟨gb285, 2, none⟩ = some (.int .i64 t283) ∧ w'.cell? ⟨gb285, 3, none⟩ = some (.int .i64 t284) ∧ w'.cell? ⟨gb296, 0, none⟩ = some (.bool t292) ∧ w'.cell? ⟨gb296, 1, none⟩ = some (.bool t293) ∧ w'.cell? ⟨gb296, 2, none⟩ = some (.int .i64 t294) ∧ w'.cell? ⟨gb296, 3, none⟩ = some (.int .i64 t295) ∧ w'.cell? ⟨gb305, 0, none⟩ = some (.bool t301) ∧ w'.cell? ⟨gb305, 1, none⟩ = some (.bool t302) ∧ w'.cell? ⟨gb305, 2, none⟩ = some (.int .i64 t303) ∧ w'.cell? ⟨gb305, 3, none⟩ = some (.int .i64 t304) ∧ w'.cell? ⟨gb312, 0, none⟩ = some (.bool t308) ∧ w'.cell? ⟨gb312, 1, none⟩ = some (.bool t309) ∧ w'.cell? ⟨gb312, 2, none⟩ = some (.int .i64 t310) ∧ w'.cell? ⟨gb312, 3, none⟩ = some (.int .i64 t311) ∧ w'.cell? ad290 = some (.int .i64 (rd t287 0)) ∧ w'.cell? ⟨ad290.block, ad290.off + 1, none⟩ = some (.int .i64 (rd t287 1))) (ds := []) #[false, false, false, false, false, false, false, false, false, false, false, false, false, false, false, false, false, false, false, false, false, false, false, false, false, false, false, false, false, false, false, false, false, false, false, false, false, false, false, false, false, false, false, false] (by kernel_rfl) rfl rfl ⟨(blk_cell BK285.out 0).trans rfl, (blk_cell BK285.out 1).trans rfl, (blk_cell BK285.out 2).trans rfl, (blk_cell BK285.out 3).trans rfl, (blk_cell BK296.out 0).trans rfl, (blk_cell BK296.out 1).trans rfl, (blk_cell BK296.out 2).trans rfl, (blk_cell BK296.out 3).trans rfl, (blk_cell BK305.out 0).trans rfl, (blk_cell BK305.out 1).trans rfl, (blk_cell BK305.out 2).trans rfl, (blk_cell BK305.out 3).trans rfl, (blk_cell BK312.out 0).trans rfl, (blk_cell BK312.out 1).trans rfl, (blk_cell BK312.out 2).trans rfl, (blk_cell BK312.out 3).trans rfl, hx325_0, hx327_0⟩ (fun hHeld => ?_); refine with_tabW laws_FnLifetimes.tab9 laws_FnLifetimes.bits9 (fun HT_ HW_ => ?_)
      generalize w86.drew = w87 at HO289 BK285 BK296 BK305 BK312 HB hx325_0 hx327_0 hHeld ⊢
      refine pure_ (i := 0) (N := some 41) (v := ?_) (a' := ?_) #[true, false, false, false, false, false, false, false, false, false, false, false, false, false, false, false, false, false, false, false, false, false, false, false, false, false, false, false, false, false, false, false, false, false, false, false, false, false, false, false, false, false, false, false] rfl rfl (any_of HT_.out (by kernel_rfl)) (fun _ _ _ h => h) (Or.inl ⟨by rfl, ?_⟩) ?_ ?_
      rotate_left
      · intro w'
        go_simp
        with_reducible rfl
      rotate_left
      · simp only [Act.put, List.setIfInBounds_toArray, List.set_cons_zero, List.set_cons_succ, i64_w, i32_w]
        rfl
      refine take_ (i := 1) (N := some 42) (v := ?_) (a' := ?_) #[true, true, false, false, false, false, false, false, false, false, false, false, false, false, false, false, false, false, false, false, false, false, false, false, false, false, false, false, false, false, false, false, false, false, false, false, false, false, false, false, false, false, false, false] rfl rfl (take_ofW HT_.out HW_.out (by kernel_rfl)) (fun _ _ _ h => h) (Or.inl ⟨by rfl, ?_⟩) hHeld ?_ ?_
      rotate_left
      · rintro w' ⟨s0, s1, s2, s3, s4, s5, s6, s7, s8, s9, s10, s11, s12, s13, s14, s15, s16, s17⟩
        go_simp
        with_reducible rfl
      rotate_left
      · simp only [Act.put, List.setIfInBounds_toArray, List.set_cons_zero, List.set_cons_succ, i64_w, i32_w]
        rfl
      refine one_ (i := 2) (N := some 43) #[true, true, true, false, false, false, false, false, false, false, false, false, false, false, false, false, false, false, false, false, false, false, false, false, false, false, false, false, false, false, false, false, false, false, false, false, false, false, false, false, false, false, false, false] rfl rfl (one_of HT_.out (by kernel_rfl)) (by decide) (fun K hK => ?_)
      refine goes_ Tryd.func19 (by kernel_rfl) rfl #[.agg #[.bool false, .bool false, .int .i64 t283, .int .i64 t284]] (by rfl) rfl rfl (by (try simp only [List.map_toArray, List.map_cons, List.map_nil]); rfl) ?_
      with_reducible refine (spec_Lifetime.calls k false false t283 t284 t313 _ A52.out).mono ?_
      rintro e w88 ⟨rfl, hb⟩
      have HS16_ := (hb.cell (World.block_lt_of_cell? _ _ (hHeld.2.2.2.2.2.2.2.2.2.2.2.2.2.2.2.2.1))).trans (hHeld.2.2.2.2.2.2.2.2.2.2.2.2.2.2.2.2.1)
      have HS17_ := (hb.cell (World.block_lt_of_cell? _ _ (hHeld.2.2.2.2.2.2.2.2.2.2.2.2.2.2.2.2.2))).trans (hHeld.2.2.2.2.2.2.2.2.2.2.2.2.2.2.2.2.2)
      refine ⟨_, rfl, ?_⟩
      have n0_ := Aside0.mk (Kd.R_below (by (with_reducible repeat (first | apply Kd.R_alloc | apply Kd.R_drewN | apply Kd.R_drew )); exact HO289.out) hb)
      have n1_ := Aside0.mk (blk_below (g := gb285) (o := .cells #[.bool false, .bool false, .int .i64 t283, .int .i64 t284] 25 (0, 0)) (by (with_reducible repeat (first | refine blk_drewN ?_ _ | refine blk_drew ?_ | refine blk_alloc ?_ _ )); exact BK285.out) hb)
      have n2_ := Aside0.mk (blk_below (g := gb296) (o := .cells #[.bool t292, .bool t293, .int .i64 t294, .int .i64 t295] 25 (0, 0)) (by (with_reducible repeat (first | refine blk_drewN ?_ _ | refine blk_drew ?_ | refine blk_alloc ?_ _ )); exact BK296.out) hb)
      have n3_ := Aside0.mk (blk_below (g := gb305) (o := .cells #[.bool t301, .bool t302, .int .i64 t303, .int .i64 t304] 25 (0, 0)) (by (with_reducible repeat (first | refine blk_drewN ?_ _ | refine blk_drew ?_ | refine blk_alloc ?_ _ )); exact BK305.out) hb)
      have n4_ := Aside0.mk (blk_below (g := gb312) (o := .cells #[.bool t308, .bool t309, .int .i64 t310, .int .i64 t311] 25 (0, 0)) (by (with_reducible repeat (first | refine blk_drewN ?_ _ | refine blk_drew ?_ | refine blk_alloc ?_ _ )); exact BK312.out) hb)
      have n5_ := Aside0.mk (below_step (by repeat ((with_reducible exact HB.out))) hb)
      clear HO289
      clear BK285
      clear BK296
      clear BK305
      clear BK312
      clear HB
      have HO289 := n0_
      have BK285 := n1_
      have BK296 := n2_
      have BK305 := n3_
      have BK312 := n4_
      have HB := n5_
      clear n0_ n1_ n2_ n3_ n4_ n5_
      (try clear hb)
      (try clear hb2)
      (try clear hk)
      (try clear hi)
      refine hK.out _ _ ⟨(blk_cell BK285.out 0).trans rfl, (blk_cell BK285.out 1).trans rfl, (blk_cell BK285.out 2).trans rfl, (blk_cell BK285.out 3).trans rfl, (blk_cell BK296.out 0).trans rfl, (blk_cell BK296.out 1).trans rfl, (blk_cell BK296.out 2).trans rfl, (blk_cell BK296.out 3).trans rfl, (blk_cell BK305.out 0).trans rfl, (blk_cell BK305.out 1).trans rfl, (blk_cell BK305.out 2).trans rfl, (blk_cell BK305.out 3).trans rfl, (blk_cell BK312.out 0).trans rfl, (blk_cell BK312.out 1).trans rfl, (blk_cell BK312.out 2).trans rfl, (blk_cell BK312.out 3).trans rfl, HS16_, HS17_⟩ (fun hHeld => ?_)
      clear hK K
      refine norm_ (a' := ?_) ?_ ?_
      rotate_left
      · show Act.put _ (some 43) _ = _
        simp only [Act.put, List.setIfInBounds_toArray, List.set_cons_zero, List.set_cons_succ, i64_w, i32_w]
        rfl
      refine pure_ (i := 3) (N := some 44) (v := ?_) (a' := ?_) #[true, true, true, true, false, false, false, false, false, false, false, false, false, false, false, false, false, false, false, false, false, false, false, false, false, false, false, false, false, false, false, false, false, false, false, false, false, false, false, false, false, false, false, false] rfl rfl (any_of HT_.out (by kernel_rfl)) (fun _ _ _ h => h) (Or.inl ⟨by rfl, ?_⟩) ?_ ?_
      rotate_left
      · intro w'
        go_simp
        with_reducible rfl
      rotate_left
      · simp only [Act.put, List.setIfInBounds_toArray, List.set_cons_zero, List.set_cons_succ, i64_w, i32_w]
        rfl
      refine pure_ (i := 4) (N := some 45) (v := ?_) (a' := ?_) #[true, true, true, true, true, false, false, false, false, false, false, false, false, false, false, false, false, false, false, false, false, false, false, false, false, false, false, false, false, false, false, false, false, false, false, false, false, false, false, false, false, false, false, false] rfl rfl (any_of HT_.out (by kernel_rfl)) (fun _ _ _ h => h) (Or.inl ⟨by rfl, ?_⟩) ?_ ?_
      rotate_left
      · intro w'
        go_simp
        with_reducible rfl
      rotate_left
      · simp only [Act.put, List.setIfInBounds_toArray, List.set_cons_zero, List.set_cons_succ, i64_w, i32_w]
        rfl
      refine pure_ (i := 5) (N := some 46) (v := ?_) (a' := ?_) #[true, true, true, true, true, true, false, false, false, false, false, false, false, false, false, false, false, false, false, false, false, false, false, false, false, false, false, false, false, false, false, false, false, false, false, false, false, false, false, false, false, false, false, false] rfl rfl (any_of HT_.out (by kernel_rfl)) (fun _ _ _ h => h) (Or.inl ⟨by rfl, ?_⟩) ?_ ?_
      rotate_left
      · intro w'
        go_simp
        with_reducible rfl
      rotate_left
      · simp only [Act.put, List.setIfInBounds_toArray, List.set_cons_zero, List.set_cons_succ, i64_w, i32_w]
        rfl
      refine pure_ (i := 6) (N := some 47) (v := ?_) (a' := ?_) #[true, true, true, true, true, true, true, false, false, false, false, false, false, false, false, false, false, false, false, false, false, false, false, false, false, false, false, false, false, false, false, false, false, false, false, false, false, false, false, false, false, false, false, false] rfl rfl (any_of HT_.out (by kernel_rfl)) (fun _ _ _ h => h) (Or.inl ⟨by rfl, ?_⟩) ?_ ?_
      rotate_left
      · intro w'
        go_simp
        with_reducible rfl
      rotate_left
      · simp only [Act.put, List.setIfInBounds_toArray, List.set_cons_zero, List.set_cons_succ, i64_w, i32_w]
        rfl
      refine pure_ (i := 7) (N := some 48) (v := ?_) (a' := ?_) #[true, true, true, true, true, true, true, true, false, false, false, false, false, false, false, false, false, false, false, false, false, false, false, false, false, false, false, false, false, false, false, false, false, false, false, false, false, false, false, false, false, false, false, false] rfl rfl (any_of HT_.out (by kernel_rfl)) (fun _ _ _ h => h) (Or.inl ⟨by rfl, ?_⟩) ?_ ?_
      rotate_left
      · intro w'
        go_simp
        with_reducible rfl
      rotate_left
      · simp only [Act.put, List.setIfInBounds_toArray, List.set_cons_zero, List.set_cons_succ, i64_w, i32_w]
        rfl
      refine pure_ (i := 8) (N := some 49) (v := ?_) (a' := ?_) #[true, true, true, true, true, true, true, true, true, false, false, false, false, false, false, false, false, false, false, false, false, false, false, false, false, false, false, false, false, false, false, false, false, false, false, false, false, false, false, false, false, false, false, false] rfl rfl (any_of HT_.out (by kernel_rfl)) (fun _ _ _ h => h) (Or.inl ⟨by rfl, ?_⟩) ?_ ?_
      rotate_left
      · intro w'
        go_simp
        with_reducible rfl
      rotate_left
      · simp only [Act.put, List.setIfInBounds_toArray, List.set_cons_zero, List.set_cons_succ, i64_w, i32_w]
        rfl
      refine pure_ (i := 9) (N := some 50) (v := ?_) (a' := ?_) #[true, true, true, true, true, true, true, true, true, true, false, false, false, false, false, false, false, false, false, false, false, false, false, false, false, false, false, false, false, false, false, false, false, false, false, false, false, false, false, false, false, false, false, false] rfl rfl (any_of HT_.out (by kernel_rfl)) (fun _ _ _ h => h) (Or.inl ⟨by rfl, ?_⟩) ?_ ?_
      rotate_left
      · intro w'
        go_simp
        with_reducible rfl
      rotate_left
      · simp only [Act.put, List.setIfInBounds_toArray, List.set_cons_zero, List.set_cons_succ, i64_w, i32_w]
        rfl
      refine take_ (i := 10) (N := some 51) (v := ?_) (a' := ?_) #[true, true, true, true, true, true, true, true, true, true, true, false, false, false, false, false, false, false, false, false, false, false, false, false, false, false, false, false, false, false, false, false, false, false, false, false, false, false, false, false, false, false, false, false] rfl rfl (take_ofW HT_.out HW_.out (by kernel_rfl)) (fun _ _ _ h => h) (Or.inl ⟨by rfl, ?_⟩) hHeld ?_ ?_
      rotate_left
      · rintro w' ⟨s0, s1, s2, s3, s4, s5, s6, s7, s8, s9, s10, s11, s12, s13, s14, s15, s16, s17⟩
        go_simp
        with_reducible rfl
      rotate_left
      · simp only [Act.put, List.setIfInBounds_toArray, List.set_cons_zero, List.set_cons_succ, i64_w, i32_w]
        rfl
      refine pure_ (i := 11) (N := some 52) (v := ?_) (a' := ?_) #[true, true, true, true, true, true, true, true, true, true, true, true, false, false, false, false, false, false, false, false, false, false, false, false, false, false, false, false, false, false, false, false, false, false, false, false, false, false, false, false, false, false, false, false] rfl rfl (any_of HT_.out (by kernel_rfl)) (fun _ _ _ h => h) (Or.inl ⟨by rfl, ?_⟩) ?_ ?_
      rotate_left
      · intro w'
        go_simp
        with_reducible rfl
      rotate_left
      · simp only [Act.put, List.setIfInBounds_toArray, List.set_cons_zero, List.set_cons_succ, i64_w, i32_w]
        rfl
      refine pure_ (i := 12) (N := some 53) (v := ?_) (a' := ?_) #[true, true, true, true, true, true, true, true, true, true, true, true, true, false, false, false, false, false, false, false, false, false, false, false, false, false, false, false, false, false, false, false, false, false, false, false, false, false, false, false, false, false, false, false] rfl rfl (any_of HT_.out (by kernel_rfl)) (fun _ _ _ h => h) (Or.inl ⟨by rfl, ?_⟩) ?_ ?_
      rotate_left
      · intro w'
        go_simp
        with_reducible rfl
      rotate_left
      · simp only [Act.put, List.setIfInBounds_toArray, List.set_cons_zero, List.set_cons_succ, i64_w, i32_w]
        rfl
      refine pure_ (i := 13) (N := some 54) (v := ?_) (a' := ?_) #[true, true, true, true, true, true, true, true, true, true, true, true, true, true, false, false, false, false, false, false, false, false, false, false, false, false, false, false, false, false, false, false, false, false, false, false, false, false, false, false, false, false, false, false] rfl rfl (any_of HT_.out (by kernel_rfl)) (fun _ _ _ h => h) (Or.inl ⟨by rfl, ?_⟩) ?_ ?_
      rotate_left
      · intro w'
        go_simp
        with_reducible rfl
      rotate_left
      · simp only [Act.put, List.setIfInBounds_toArray, List.set_cons_zero, List.set_cons_succ, i64_w, i32_w]
        rfl
      refine take_ (i := 14) (N := some 55) (v := ?_) (a' := ?_) #[true, true, true, true, true, true, true, true, true, true, true, true, true, true, true, false, false, false, false, false, false, false, false, false, false, false, false, false, false, false, false, false, false, false, false, false, false, false, false, false, false, false, false, false] rfl rfl (take_ofW HT_.out HW_.out (by kernel_rfl)) (fun _ _ _ h => h) (Or.inl ⟨by rfl, ?_⟩) hHeld ?_ ?_
      rotate_left
      · rintro w' ⟨s0, s1, s2, s3, s4, s5, s6, s7, s8, s9, s10, s11, s12, s13, s14, s15, s16, s17⟩
        go_simp
        with_reducible rfl
      rotate_left
      · simp only [Act.put, List.setIfInBounds_toArray, List.set_cons_zero, List.set_cons_succ, i64_w, i32_w]
        rfl
      refine pure_ (i := 15) (N := some 56) (v := ?_) (a' := ?_) #[true, true, true, true, true, true, true, true, true, true, true, true, true, true, true, true, false, false, false, false, false, false, false, false, false, false, false, false, false, false, false, false, false, false, false, false, false, false, false, false, false, false, false, false] rfl rfl (any_of HT_.out (by kernel_rfl)) (fun _ _ _ h => h) (Or.inl ⟨by rfl, ?_⟩) ?_ ?_
      rotate_left
      · intro w'
        go_simp
        with_reducible rfl
      rotate_left
      · simp only [Act.put, List.setIfInBounds_toArray, List.set_cons_zero, List.set_cons_succ, i64_w, i32_w]
        rfl
      refine pure_ (i := 16) (N := some 57) (v := ?_) (a' := ?_) #[true, true, true, true, true, true, true, true, true, true, true, true, true, true, true, true, true, false, false, false, false, false, false, false, false, false, false, false, false, false, false, false, false, false, false, false, false, false, false, false, false, false, false, false] rfl rfl (any_of HT_.out (by kernel_rfl)) (fun _ _ _ h => h) (Or.inl ⟨by rfl, ?_⟩) ?_ ?_
      rotate_left
      · intro w'
        go_simp
        with_reducible rfl
      rotate_left
      · simp only [Act.put, List.setIfInBounds_toArray, List.set_cons_zero, List.set_cons_succ, i64_w, i32_w]
        rfl
      refine pure_ (i := 17) (N := some 58) (v := ?_) (a' := ?_) #[true, true, true, true, true, true, true, true, true, true, true, true, true, true, true, true, true, true, false, false, false, false, false, false, false, false, false, false, false, false, false, false, false, false, false, false, false, false, false, false, false, false, false, false] rfl rfl (any_of HT_.out (by kernel_rfl)) (fun _ _ _ h => h) (Or.inl ⟨by rfl, ?_⟩) ?_ ?_
      rotate_left
      · intro w'
        go_simp
        with_reducible rfl
      rotate_left
      · simp only [Act.put, List.setIfInBounds_toArray, List.set_cons_zero, List.set_cons_succ, i64_w, i32_w]
        rfl
      refine pure_ (i := 18) (N := some 59) (v := undef) (a' := ?_) #[true, true, true, true, true, true, true, true, true, true, true, true, true, true, true, true, true, true, true, false, false, false, false, false, false, false, false, false, false, false, false, false, false, false, false, false, false, false, false, false, false, false, false, false] rfl rfl (any_of HT_.out (by kernel_rfl)) (fun _ _ _ h => h) (Or.inr ⟨by rfl, rfl⟩) ?_ ?_
      rotate_left
      · simp only [Act.put, List.setIfInBounds_toArray, List.set_cons_zero, List.set_cons_succ, i64_w, i32_w]
        rfl
      refine pure_ (i := 19) (N := some 60) (v := undef) (a' := ?_) #[true, true, true, true, true, true, true, true, true, true, true, true, true, true, true, true, true, true, true, true, false, false, false, false, false, false, false, false, false, false, false, false, false, false, false, false, false, false, false, false, false, false, false, false] rfl rfl (any_of HT_.out (by kernel_rfl)) (fun _ _ _ h => h) (Or.inr ⟨by rfl, rfl⟩) ?_ ?_
      rotate_left
      · simp only [Act.put, List.setIfInBounds_toArray, List.set_cons_zero, List.set_cons_succ, i64_w, i32_w]
        rfl
      refine pure_ (i := 20) (N := some 61) (v := ?_) (a' := ?_) #[true, true, true, true, true, true, true, true, true, true, true, true, true, true, true, true, true, true, true, true, true, false, false, false, false, false, false, false, false, false, false, false, false, false, false, false, false, false, false, false, false, false, false, false] rfl rfl (any_of HT_.out (by kernel_rfl)) (fun _ _ _ h => h) (Or.inl ⟨by rfl, ?_⟩) ?_ ?_
      rotate_left
      · intro w'
        go_simp
        with_reducible rfl
      rotate_left
      · simp only [Act.put, List.setIfInBounds_toArray, List.set_cons_zero, List.set_cons_succ, i64_w, i32_w]
        rfl
      refine pure_ (i := 21) (N := some 62) (v := ?_) (a' := ?_) #[true, true, true, true, true, true, true, true, true, true, true, true, true, true, true, true, true, true, true, true, true, true, false, false, false, false, false, false, false, false, false, false, false, false, false, false, false, false, false, false, false, false, false, false] rfl rfl (any_of HT_.out (by kernel_rfl)) (fun _ _ _ h => h) (Or.inl ⟨by rfl, ?_⟩) ?_ ?_
      rotate_left
      · intro w'
        go_simp
        with_reducible rfl
      rotate_left
      · simp only [Act.put, List.setIfInBounds_toArray, List.set_cons_zero, List.set_cons_succ, i64_w, i32_w]
        rfl
      refine pure_ (i := 22) (N := some 63) (v := ?_) (a' := ?_) #[true, true, true, true, true, true, true, true, true, true, true, true, true, true, true, true, true, true, true, true, true, true, true, false, false, false, false, false, false, false, false, false, false, false, false, false, false, false, false, false, false, false, false, false] rfl rfl (any_of HT_.out (by kernel_rfl)) (fun _ _ _ h => h) (Or.inl ⟨by rfl, ?_⟩) ?_ ?_
      rotate_left
      · intro w'
        go_simp
        with_reducible rfl
      rotate_left
      · simp only [Act.put, List.setIfInBounds_toArray, List.set_cons_zero, List.set_cons_succ, i64_w, i32_w]
        rfl
      refine pure_ (i := 25) (N := some 66) (v := ?_) (a' := ?_) #[true, true, true, true, true, true, true, true, true, true, true, true, true, true, true, true, true, true, true, true, true, true, true, false, false, true, false, false, false, false, false, false, false, false, false, false, false, false, false, false, false, false, false, false] rfl rfl (any_of HT_.out (by kernel_rfl)) (fun _ _ _ h => h) (Or.inl ⟨by rfl, ?_⟩) ?_ ?_
      rotate_left
      · intro w'
        go_simp
        with_reducible rfl
      rotate_left
      · simp only [Act.put, List.setIfInBounds_toArray, List.set_cons_zero, List.set_cons_succ, i64_w, i32_w]
        rfl
      refine pure_ (i := 26) (N := some 67) (v := ?_) (a' := ?_) #[true, true, true, true, true, true, true, true, true, true, true, true, true, true, true, true, true, true, true, true, true, true, true, false, false, true, true, false, false, false, false, false, false, false, false, false, false, false, false, false, false, false, false, false] rfl rfl (any_of HT_.out (by kernel_rfl)) (fun _ _ _ h => h) (Or.inl ⟨by rfl, ?_⟩) ?_ ?_
      rotate_left
      · intro w'
        go_simp
        with_reducible rfl
      rotate_left
      · simp only [Act.put, List.setIfInBounds_toArray, List.set_cons_zero, List.set_cons_succ, i64_w, i32_w]
        rfl
      refine take_ (i := 23) (N := some 64) (v := ?_) (a' := ?_) #[true, true, true, true, true, true, true, true, true, true, true, true, true, true, true, true, true, true, true, true, true, true, true, true, false, true, true, false, false, false, false, false, false, false, false, false, false, false, false, false, false, false, false, false] rfl rfl (take_ofW HT_.out HW_.out (by kernel_rfl)) (fun _ _ _ h => h) (Or.inl ⟨by rfl, ?_⟩) hHeld ?_ ?_
      rotate_left
      · rintro w' ⟨s0, s1, s2, s3, s4, s5, s6, s7, s8, s9, s10, s11, s12, s13, s14, s15, s16, s17⟩
        go_simp
        with_reducible rfl
      rotate_left
      · simp only [Act.put, List.setIfInBounds_toArray, List.set_cons_zero, List.set_cons_succ, i64_w, i32_w]
        rfl
      refine take_ (i := 27) (N := some 68) (v := ?_) (a' := ?_) #[true, true, true, true, true, true, true, true, true, true, true, true, true, true, true, true, true, true, true, true, true, true, true, true, false, true, true, true, false, false, false, false, false, false, false, false, false, false, false, false, false, false, false, false] rfl rfl (take_ofW HT_.out HW_.out (by kernel_rfl)) (fun _ _ _ h => h) (Or.inl ⟨by rfl, ?_⟩) hHeld ?_ ?_
      rotate_left
      · rintro w' ⟨s0, s1, s2, s3, s4, s5, s6, s7, s8, s9, s10, s11, s12, s13, s14, s15, s16, s17⟩
        go_simp
        with_reducible rfl
      rotate_left
      · simp only [Act.put, List.setIfInBounds_toArray, List.set_cons_zero, List.set_cons_succ, i64_w, i32_w]
        rfl
      refine one_ (i := 24) (N := some 65) #[true, true, true, true, true, true, true, true, true, true, true, true, true, true, true, true, true, true, true, true, true, true, true, true, true, true, true, true, false, false, false, false, false, false, false, false, false, false, false, false, false, false, false, false] rfl rfl (one_of HT_.out (by kernel_rfl)) (by decide) (fun K hK => ?_)
      refine goes_ Tryd.func16 (by kernel_rfl) rfl #[.agg #[.bool t292, .bool t293, .int .i64 t294, .int .i64 t295]] (by rfl) rfl rfl (by (try simp only [List.map_toArray, List.map_cons, List.map_nil]); rfl) ?_
      with_reducible refine (impl_Lifetime.calls k t292 t293 t294 t295 t324 _ A81.out).mono ?_
      rintro e w89 ⟨rfl, hb⟩
      have HS16_ := (hb.cell (World.block_lt_of_cell? _ _ (hHeld.2.2.2.2.2.2.2.2.2.2.2.2.2.2.2.2.1))).trans (hHeld.2.2.2.2.2.2.2.2.2.2.2.2.2.2.2.2.1)
      have HS17_ := (hb.cell (World.block_lt_of_cell? _ _ (hHeld.2.2.2.2.2.2.2.2.2.2.2.2.2.2.2.2.2))).trans (hHeld.2.2.2.2.2.2.2.2.2.2.2.2.2.2.2.2.2)
      refine ⟨_, rfl, ?_⟩
      have n0_ := Aside0.mk (Kd.R_below (by (with_reducible repeat (first | apply Kd.R_alloc | apply Kd.R_drewN | apply Kd.R_drew )); exact HO289.out) hb)
      have n1_ := Aside0.mk (blk_below (g := gb285) (o := .cells #[.bool false, .bool false, .int .i64 t283, .int .i64 t284] 25 (0, 0)) (by (with_reducible repeat (first | refine blk_drewN ?_ _ | refine blk_drew ?_ | refine blk_alloc ?_ _ )); exact BK285.out) hb)
      have n2_ := Aside0.mk (blk_below (g := gb296) (o := .cells #[.bool t292, .bool t293, .int .i64 t294, .int .i64 t295] 25 (0, 0)) (by (with_reducible repeat (first | refine blk_drewN ?_ _ | refine blk_drew ?_ | refine blk_alloc ?_ _ )); exact BK296.out) hb)
      have n3_ := Aside0.mk (blk_below (g := gb305) (o := .cells #[.bool t301, .bool t302, .int .i64 t303, .int .i64 t304] 25 (0, 0)) (by (with_reducible repeat (first | refine blk_drewN ?_ _ | refine blk_drew ?_ | refine blk_alloc ?_ _ )); exact BK305.out) hb)
      have n4_ := Aside0.mk (blk_below (g := gb312) (o := .cells #[.bool t308, .bool t309, .int .i64 t310, .int .i64 t311] 25 (0, 0)) (by (with_reducible repeat (first | refine blk_drewN ?_ _ | refine blk_drew ?_ | refine blk_alloc ?_ _ )); exact BK312.out) hb)
      have n5_ := Aside0.mk (below_step (by repeat ((with_reducible exact HB.out))) hb)
      clear HO289
      clear BK285
      clear BK296
      clear BK305
      clear BK312
      clear HB
      have HO289 := n0_
      have BK285 := n1_
      have BK296 := n2_
      have BK305 := n3_
      have BK312 := n4_
      have HB := n5_
      clear n0_ n1_ n2_ n3_ n4_ n5_
      (try clear hb)
      (try clear hb2)
      (try clear hk)
      (try clear hi)
      refine hK.out _ _ ⟨(blk_cell BK285.out 0).trans rfl, (blk_cell BK285.out 1).trans rfl, (blk_cell BK285.out 2).trans rfl, (blk_cell BK285.out 3).trans rfl, (blk_cell BK296.out 0).trans rfl, (blk_cell BK296.out 1).trans rfl, (blk_cell BK296.out 2).trans rfl, (blk_cell BK296.out 3).trans rfl, (blk_cell BK305.out 0).trans rfl, (blk_cell BK305.out 1).trans rfl, (blk_cell BK305.out 2).trans rfl, (blk_cell BK305.out 3).trans rfl, (blk_cell BK312.out 0).trans rfl, (blk_cell BK312.out 1).trans rfl, (blk_cell BK312.out 2).trans rfl, (blk_cell BK312.out 3).trans rfl, HS16_, HS17_⟩ (fun hHeld => ?_)
      clear hK K
      refine norm_ (a' := ?_) ?_ ?_
      rotate_left
      · show Act.put _ (some 65) _ = _
        simp only [Act.put, List.setIfInBounds_toArray, List.set_cons_zero, List.set_cons_succ, i64_w, i32_w]
        rfl
      refine pure_ (i := 28) (N := some 69) (v := ?_) (a' := ?_) #[true, true, true, true, true, true, true, true, true, true, true, true, true, true, true, true, true, true, true, true, true, true, true, true, true, true, true, true, true, false, false, false, false, false, false, false, false, false, false, false, false, false, false, false] rfl rfl (any_of HT_.out (by kernel_rfl)) (fun _ _ _ h => h) (Or.inl ⟨by rfl, ?_⟩) ?_ ?_
      rotate_left
      · intro w'
        go_simp
        with_reducible rfl
      rotate_left
      · simp only [Act.put, List.setIfInBounds_toArray, List.set_cons_zero, List.set_cons_succ, i64_w, i32_w]
        rfl
      refine pure_ (i := 29) (N := some 70) (v := ?_) (a' := ?_) #[true, true, true, true, true, true, true, true, true, true, true, true, true, true, true, true, true, true, true, true, true, true, true, true, true, true, true, true, true, true, false, false, false, false, false, false, false, false, false, false, false, false, false, false] rfl rfl (any_of HT_.out (by kernel_rfl)) (fun _ _ _ h => h) (Or.inl ⟨by rfl, ?_⟩) ?_ ?_
      rotate_left
      · intro w'
        go_simp
        with_reducible rfl
      rotate_left
      · simp only [Act.put, List.setIfInBounds_toArray, List.set_cons_zero, List.set_cons_succ, i64_w, i32_w]
        rfl
      refine pure_ (i := 30) (N := some 71) (v := ?_) (a' := ?_) #[true, true, true, true, true, true, true, true, true, true, true, true, true, true, true, true, true, true, true, true, true, true, true, true, true, true, true, true, true, true, true, false, false, false, false, false, false, false, false, false, false, false, false, false] rfl rfl (any_of HT_.out (by kernel_rfl)) (fun _ _ _ h => h) (Or.inl ⟨by rfl, ?_⟩) ?_ ?_
      rotate_left
      · intro w'
        go_simp
        with_reducible rfl
      rotate_left
      · simp only [Act.put, List.setIfInBounds_toArray, List.set_cons_zero, List.set_cons_succ, i64_w, i32_w]
        rfl
      refine pure_ (i := 33) (N := some 74) (v := ?_) (a' := ?_) #[true, true, true, true, true, true, true, true, true, true, true, true, true, true, true, true, true, true, true, true, true, true, true, true, true, true, true, true, true, true, true, false, false, true, false, false, false, false, false, false, false, false, false, false] rfl rfl (any_of HT_.out (by kernel_rfl)) (fun _ _ _ h => h) (Or.inl ⟨by rfl, ?_⟩) ?_ ?_
      rotate_left
      · intro w'
        go_simp
        with_reducible rfl
      rotate_left
      · simp only [Act.put, List.setIfInBounds_toArray, List.set_cons_zero, List.set_cons_succ, i64_w, i32_w]
        rfl
      refine pure_ (i := 34) (N := some 75) (v := ?_) (a' := ?_) #[true, true, true, true, true, true, true, true, true, true, true, true, true, true, true, true, true, true, true, true, true, true, true, true, true, true, true, true, true, true, true, false, false, true, true, false, false, false, false, false, false, false, false, false] rfl rfl (any_of HT_.out (by kernel_rfl)) (fun _ _ _ h => h) (Or.inl ⟨by rfl, ?_⟩) ?_ ?_
      rotate_left
      · intro w'
        go_simp
        with_reducible rfl
      rotate_left
      · simp only [Act.put, List.setIfInBounds_toArray, List.set_cons_zero, List.set_cons_succ, i64_w, i32_w]
        rfl
      refine take_ (i := 31) (N := some 72) (v := ?_) (a' := ?_) #[true, true, true, true, true, true, true, true, true, true, true, true, true, true, true, true, true, true, true, true, true, true, true, true, true, true, true, true, true, true, true, true, false, true, true, false, false, false, false, false, false, false, false, false] rfl rfl (take_ofW HT_.out HW_.out (by kernel_rfl)) (fun _ _ _ h => h) (Or.inl ⟨by rfl, ?_⟩) hHeld ?_ ?_
      rotate_left
      · rintro w' ⟨s0, s1, s2, s3, s4, s5, s6, s7, s8, s9, s10, s11, s12, s13, s14, s15, s16, s17⟩
        go_simp
        with_reducible rfl
      rotate_left
      · simp only [Act.put, List.setIfInBounds_toArray, List.set_cons_zero, List.set_cons_succ, i64_w, i32_w]
        rfl
      refine take_ (i := 35) (N := some 76) (v := ?_) (a' := ?_) #[true, true, true, true, true, true, true, true, true, true, true, true, true, true, true, true, true, true, true, true, true, true, true, true, true, true, true, true, true, true, true, true, false, true, true, true, false, false, false, false, false, false, false, false] rfl rfl (take_ofW HT_.out HW_.out (by kernel_rfl)) (fun _ _ _ h => h) (Or.inl ⟨by rfl, ?_⟩) hHeld ?_ ?_
      rotate_left
      · rintro w' ⟨s0, s1, s2, s3, s4, s5, s6, s7, s8, s9, s10, s11, s12, s13, s14, s15, s16, s17⟩
        go_simp
        with_reducible rfl
      rotate_left
      · simp only [Act.put, List.setIfInBounds_toArray, List.set_cons_zero, List.set_cons_succ, i64_w, i32_w]
        rfl
      refine one_ (i := 32) (N := some 73) #[true, true, true, true, true, true, true, true, true, true, true, true, true, true, true, true, true, true, true, true, true, true, true, true, true, true, true, true, true, true, true, true, true, true, true, true, false, false, false, false, false, false, false, false] rfl rfl (one_of HT_.out (by kernel_rfl)) (by decide) (fun K hK => ?_)
      refine goes_ Tryd.func16 (by kernel_rfl) rfl #[.agg #[.bool t301, .bool t302, .int .i64 t303, .int .i64 t304]] (by rfl) rfl rfl (by (try simp only [List.map_toArray, List.map_cons, List.map_nil]); rfl) ?_
      with_reducible refine (impl_Lifetime.calls k t301 t302 t303 t304 t326 _ A83.out).mono ?_
      rintro e w90 ⟨rfl, hb⟩
      have HS16_ := (hb.cell (World.block_lt_of_cell? _ _ (hHeld.2.2.2.2.2.2.2.2.2.2.2.2.2.2.2.2.1))).trans (hHeld.2.2.2.2.2.2.2.2.2.2.2.2.2.2.2.2.1)
      have HS17_ := (hb.cell (World.block_lt_of_cell? _ _ (hHeld.2.2.2.2.2.2.2.2.2.2.2.2.2.2.2.2.2))).trans (hHeld.2.2.2.2.2.2.2.2.2.2.2.2.2.2.2.2.2)
      refine ⟨_, rfl, ?_⟩
      have n0_ := Aside0.mk (Kd.R_below (by (with_reducible repeat (first | apply Kd.R_alloc | apply Kd.R_drewN | apply Kd.R_drew )); exact HO289.out) hb)
      have n1_ := Aside0.mk (blk_below (g := gb285) (o := .cells #[.bool false, .bool false, .int .i64 t283, .int .i64 t284] 25 (0, 0)) (by (with_reducible repeat (first | refine blk_drewN ?_ _ | refine blk_drew ?_ | refine blk_alloc ?_ _ )); exact BK285.out) hb)
      have n2_ := Aside0.mk (blk_below (g := gb296) (o := .cells #[.bool t292, .bool t293, .int .i64 t294, .int .i64 t295] 25 (0, 0)) (by (with_reducible repeat (first | refine blk_drewN ?_ _ | refine blk_drew ?_ | refine blk_alloc ?_ _ )); exact BK296.out) hb)
      have n3_ := Aside0.mk (blk_below (g := gb305) (o := .cells #[.bool t301, .bool t302, .int .i64 t303, .int .i64 t304] 25 (0, 0)) (by (with_reducible repeat (first | refine blk_drewN ?_ _ | refine blk_drew ?_ | refine blk_alloc ?_ _ )); exact BK305.out) hb)
      have n4_ := Aside0.mk (blk_below (g := gb312) (o := .cells #[.bool t308, .bool t309, .int .i64 t310, .int .i64 t311] 25 (0, 0)) (by (with_reducible repeat (first | refine blk_drewN ?_ _ | refine blk_drew ?_ | refine blk_alloc ?_ _ )); exact BK312.out) hb)
      have n5_ := Aside0.mk (below_step (by repeat ((with_reducible exact HB.out))) hb)
      clear HO289
      clear BK285
      clear BK296
      clear BK305
      clear BK312
      clear HB
      have HO289 := n0_
      have BK285 := n1_
      have BK296 := n2_
      have BK305 := n3_
      have BK312 := n4_
      have HB := n5_
      clear n0_ n1_ n2_ n3_ n4_ n5_
      (try clear hb)
      (try clear hb2)
      (try clear hk)
      (try clear hi)
      refine hK.out _ _ ⟨(blk_cell BK285.out 0).trans rfl, (blk_cell BK285.out 1).trans rfl, (blk_cell BK285.out 2).trans rfl, (blk_cell BK285.out 3).trans rfl, (blk_cell BK296.out 0).trans rfl, (blk_cell BK296.out 1).trans rfl, (blk_cell BK296.out 2).trans rfl, (blk_cell BK296.out 3).trans rfl, (blk_cell BK305.out 0).trans rfl, (blk_cell BK305.out 1).trans rfl, (blk_cell BK305.out 2).trans rfl, (blk_cell BK305.out 3).trans rfl, (blk_cell BK312.out 0).trans rfl, (blk_cell BK312.out 1).trans rfl, (blk_cell BK312.out 2).trans rfl, (blk_cell BK312.out 3).trans rfl, HS16_, HS17_⟩ (fun hHeld => ?_)
      clear hK K
      refine norm_ (a' := ?_) ?_ ?_
      rotate_left
      · show Act.put _ (some 73) _ = _
        simp only [Act.put, List.setIfInBounds_toArray, List.set_cons_zero, List.set_cons_succ, i64_w, i32_w]
        rfl
      refine pure_ (i := 36) (N := some 77) (v := ?_) (a' := ?_) #[true, true, true, true, true, true, true, true, true, true, true, true, true, true, true, true, true, true, true, true, true, true, true, true, true, true, true, true, true, true, true, true, true, true, true, true, true, false, false, false, false, false, false, false] rfl rfl (any_of HT_.out (by kernel_rfl)) (fun _ _ _ h => h) (Or.inl ⟨by rfl, ?_⟩) ?_ ?_
      rotate_left
      · intro w'
        go_simp
        with_reducible rfl
      rotate_left
      · simp only [Act.put, List.setIfInBounds_toArray, List.set_cons_zero, List.set_cons_succ, i64_w, i32_w]
        rfl
      refine pure_ (i := 37) (N := some 78) (v := ?_) (a' := ?_) #[true, true, true, true, true, true, true, true, true, true, true, true, true, true, true, true, true, true, true, true, true, true, true, true, true, true, true, true, true, true, true, true, true, true, true, true, true, true, false, false, false, false, false, false] rfl rfl (any_of HT_.out (by kernel_rfl)) (fun _ _ _ h => h) (Or.inl ⟨by rfl, ?_⟩) ?_ ?_
      rotate_left
      · intro w'
        go_simp
        with_reducible rfl
      rotate_left
      · simp only [Act.put, List.setIfInBounds_toArray, List.set_cons_zero, List.set_cons_succ, i64_w, i32_w]
        rfl
      refine pure_ (i := 38) (N := some 79) (v := ?_) (a' := ?_) #[true, true, true, true, true, true, true, true, true, true, true, true, true, true, true, true, true, true, true, true, true, true, true, true, true, true, true, true, true, true, true, true, true, true, true, true, true, true, true, false, false, false, false, false] rfl rfl (any_of HT_.out (by kernel_rfl)) (fun _ _ _ h => h) (Or.inl ⟨by rfl, ?_⟩) ?_ ?_
      rotate_left
      · intro w'
        go_simp
        with_reducible rfl
      rotate_left
      · simp only [Act.put, List.setIfInBounds_toArray, List.set_cons_zero, List.set_cons_succ, i64_w, i32_w]
        rfl
      refine take_ (i := 39) (N := some 80) (v := ?_) (a' := ?_) #[true, true, true, true, true, true, true, true, true, true, true, true, true, true, true, true, true, true, true, true, true, true, true, true, true, true, true, true, true, true, true, true, true, true, true, true, true, true, true, true, false, false, false, false] rfl rfl (take_ofW HT_.out HW_.out (by kernel_rfl)) (fun _ _ _ h => h) (Or.inl ⟨by rfl, ?_⟩) hHeld ?_ ?_
      rotate_left
      · rintro w' ⟨s0, s1, s2, s3, s4, s5, s6, s7, s8, s9, s10, s11, s12, s13, s14, s15, s16, s17⟩
        go_simp
        with_reducible rfl
      rotate_left
      · simp only [Act.put, List.setIfInBounds_toArray, List.set_cons_zero, List.set_cons_succ, i64_w, i32_w]
        rfl
      refine one_ (i := 40) (N := some 81) #[true, true, true, true, true, true, true, true, true, true, true, true, true, true, true, true, true, true, true, true, true, true, true, true, true, true, true, true, true, true, true, true, true, true, true, true, true, true, true, true, true, false, false, false] rfl rfl (one_of HT_.out (by kernel_rfl)) (by decide) (fun K hK => ?_)
      refine goes_ Tryd.func16 (by kernel_rfl) rfl #[.agg #[.bool t308, .bool t309, .int .i64 t310, .int .i64 t311]] (by rfl) rfl rfl (by (try simp only [List.map_toArray, List.map_cons, List.map_nil]); rfl) ?_
      with_reducible refine (impl_Lifetime.calls k t308 t309 t310 t311 t328 _ A85.out).mono ?_
      rintro e w91 ⟨rfl, hb⟩
      have HS16_ := (hb.cell (World.block_lt_of_cell? _ _ (hHeld.2.2.2.2.2.2.2.2.2.2.2.2.2.2.2.2.1))).trans (hHeld.2.2.2.2.2.2.2.2.2.2.2.2.2.2.2.2.1)
      have HS17_ := (hb.cell (World.block_lt_of_cell? _ _ (hHeld.2.2.2.2.2.2.2.2.2.2.2.2.2.2.2.2.2))).trans (hHeld.2.2.2.2.2.2.2.2.2.2.2.2.2.2.2.2.2)
      refine ⟨_, rfl, ?_⟩
      have n0_ := Aside0.mk (Kd.R_below (by (with_reducible repeat (first | apply Kd.R_alloc | apply Kd.R_drewN | apply Kd.R_drew )); exact HO289.out) hb)
      have n1_ := Aside0.mk (blk_below (g := gb285) (o := .cells #[.bool false, .bool false, .int .i64 t283, .int .i64 t284] 25 (0, 0)) (by (with_reducible repeat (first | refine blk_drewN ?_ _ | refine blk_drew ?_ | refine blk_alloc ?_ _ )); exact BK285.out) hb)
      have n2_ := Aside0.mk (blk_below (g := gb296) (o := .cells #[.bool t292, .bool t293, .int .i64 t294, .int .i64 t295] 25 (0, 0)) (by (with_reducible repeat (first | refine blk_drewN ?_ _ | refine blk_drew ?_ | refine blk_alloc ?_ _ )); exact BK296.out) hb)
      have n3_ := Aside0.mk (blk_below (g := gb305) (o := .cells #[.bool t301, .bool t302, .int .i64 t303, .int .i64 t304] 25 (0, 0)) (by (with_reducible repeat (first | refine blk_drewN ?_ _ | refine blk_drew ?_ | refine blk_alloc ?_ _ )); exact BK305.out) hb)
      have n4_ := Aside0.mk (blk_below (g := gb312) (o := .cells #[.bool t308, .bool t309, .int .i64 t310, .int .i64 t311] 25 (0, 0)) (by (with_reducible repeat (first | refine blk_drewN ?_ _ | refine blk_drew ?_ | refine blk_alloc ?_ _ )); exact BK312.out) hb)
      have n5_ := Aside0.mk (below_step (by repeat ((with_reducible exact HB.out))) hb)
      clear HO289
      clear BK285
      clear BK296
      clear BK305
      clear BK312
      clear HB
      have HO289 := n0_
      have BK285 := n1_
      have BK296 := n2_
      have BK305 := n3_
      have BK312 := n4_
      have HB := n5_
      clear n0_ n1_ n2_ n3_ n4_ n5_
      (try clear hb)
      (try clear hb2)
      (try clear hk)
      (try clear hi)
      refine hK.out _ _ ⟨(blk_cell BK285.out 0).trans rfl, (blk_cell BK285.out 1).trans rfl, (blk_cell BK285.out 2).trans rfl, (blk_cell BK285.out 3).trans rfl, (blk_cell BK296.out 0).trans rfl, (blk_cell BK296.out 1).trans rfl, (blk_cell BK296.out 2).trans rfl, (blk_cell BK296.out 3).trans rfl, (blk_cell BK305.out 0).trans rfl, (blk_cell BK305.out 1).trans rfl, (blk_cell BK305.out 2).trans rfl, (blk_cell BK305.out 3).trans rfl, (blk_cell BK312.out 0).trans rfl, (blk_cell BK312.out 1).trans rfl, (blk_cell BK312.out 2).trans rfl, (blk_cell BK312.out 3).trans rfl, HS16_, HS17_⟩ (fun hHeld => ?_)
      clear hK K
      refine norm_ (a' := ?_) ?_ ?_
      rotate_left
      · show Act.put _ (some 81) _ = _
        simp only [Act.put, List.setIfInBounds_toArray, List.set_cons_zero, List.set_cons_succ, i64_w, i32_w]
        rfl
      refine pure_ (i := 41) (N := some 82) (v := ?_) (a' := ?_) #[true, true, true, true, true, true, true, true, true, true, true, true, true, true, true, true, true, true, true, true, true, true, true, true, true, true, true, true, true, true, true, true, true, true, true, true, true, true, true, true, true, true, false, false] rfl rfl (any_of HT_.out (by kernel_rfl)) (fun _ _ _ h => h) (Or.inl ⟨by rfl, ?_⟩) ?_ ?_
      rotate_left
      · intro w'
        go_simp
        with_reducible rfl
      rotate_left
      · simp only [Act.put, List.setIfInBounds_toArray, List.set_cons_zero, List.set_cons_succ, i64_w, i32_w]
        rfl
      refine pure_ (i := 42) (N := some 83) (v := ?_) (a' := ?_) #[true, true, true, true, true, true, true, true, true, true, true, true, true, true, true, true, true, true, true, true, true, true, true, true, true, true, true, true, true, true, true, true, true, true, true, true, true, true, true, true, true, true, true, false] rfl rfl (any_of HT_.out (by kernel_rfl)) (fun _ _ _ h => h) (Or.inl ⟨by rfl, ?_⟩) ?_ ?_
      rotate_left
      · intro w'
        go_simp
        with_reducible rfl
      rotate_left
      · simp only [Act.put, List.setIfInBounds_toArray, List.set_cons_zero, List.set_cons_succ, i64_w, i32_w]
        rfl
      refine pure_ (i := 43) (N := some 2) (v := ?_) (a' := ?_) #[true, true, true, true, true, true, true, true, true, true, true, true, true, true, true, true, true, true, true, true, true, true, true, true, true, true, true, true, true, true, true, true, true, true, true, true, true, true, true, true, true, true, true, true] rfl rfl (any_of HT_.out (by kernel_rfl)) (fun _ _ _ h => h) (Or.inl ⟨by rfl, ?_⟩) ?_ ?_
      rotate_left
      · intro w'
        go_simp
        with_reducible rfl
      rotate_left
      · simp only [Act.put, List.setIfInBounds_toArray, List.set_cons_zero, List.set_cons_succ, i64_w, i32_w]
        rfl
      refine done_ (done_of HT_.out (by kernel_rfl)) ?_
      go_wp2
      go_ret
      exact ⟨by rfl, by repeat ((with_reducible exact HB.out))⟩
end Go.Proofs.YthjigecaojaalaaDoor.Q
