import Derived.Test.YtiibecpllokhiaaDoorHtB0
import Derived.Test.YtiibecpllokhiaaDoorHtG13
import Derived.Test.YtiibecpllokhiaaDoorHtG15
import Derived.Test.YtiibecpllokhiaaDoorHtG17
import Derived.Test.YtiibecpllokhiaaDoorHtG28
import Derived.Test.YtiibecpllokhiaaDoorHtG30
import Derived.Test.YtiibecpllokhiaaDoorHtG44
import Derived.Test.YtiibecpllokhiaaDoorHtG49
import Derived.Test.YtiibecpllokhiaaDoorHtG50
import Derived.Test.YtiibecpllokhiaaDoorHtG56
import Derived.Test.YtiibecpllokhiaaDoorHtG58
import Derived.Test.YtiibecpllokhiaaDoorHtG62
import Derived.Test.YtiibecpllokhiaaDoorHtG72
import Derived.Test.YtiibecpllokhiaaDoorHtG99
import Derived.Test.YtiibecpllokhiaaDoorHtWords
namespace Go.Proofs.YtiibecpllokhiaaDoor.Q
open Go.RowKit Go.Proofs.YtiibecpllokhiaaDoorW.PrintWords Go.Proofs.YtiibecpllokhiaaDoorW.PrintLast Go.Proofs.YtiibecpllokhiaaDoorW.PrintMore
attribute [local go_sem] max2_int min2_int max_two min_two max_three min_three max_four min_four   -- for this text's walks alone
set_option linter.unusedVariables false
set_option linter.unusedSimpArgs false
def laws_FnHeadsTold.f (k : Nat) (l0 : List Int) : Option (Bool) := (laws_big.f l0).bind fun t712 => (if t712 = true then (some true) else ((spec_DrawReadHead.f k l0).bind fun t713 => ((impl_ReadHead.f k t713).bind fun bt714 => ((spec_ReadHead.f k t713).bind fun bt721 => ((spec_DrawHeadText.f k l0).bind fun bt728 => ((impl_HeadText.f k bt728.1 bt728.2).bind fun bt733 => ((spec_HeadText.f k bt728.1 bt728.2).bind fun bt735 => ((spec_DrawFieldOk.f k l0).bind fun bt737 => ((spec_DrawFieldOf.f k l0).bind fun bt740 => ((impl_FieldOf.f k bt740.1 bt740.2.1 bt740.2.2).bind fun bt746 => ((spec_FieldOf.f k bt740.1 bt740.2.1 bt740.2.2).bind fun bt748 => (if bt714.2.2.2 = bt721.2.2.2 then (if bt714.2.2.1 = bt721.2.2.1 then ((laws_sameHead.f k bt714.1 bt714.2.1 bt721.1 bt721.2.1).bind fun t750 => (if t750 = true then (if bt714.2.2.2 = 0 then ((impl_HeadOk.f k bt714.1 bt714.2.1).bind fun t751 => (if t751 = true then (if (bt733.2 == bt735.2) = true then (if bt733.1.toList = bt735.1.toList then ((impl_FieldOk.f k bt737.1 bt737.2).bind fun t752 => ((spec_FieldOk.f k bt737.1 bt737.2).bind fun t753 => (if (t752 == t753) = true then (if bt746.1.toList = bt748.1.toList then (if (bt746.2 == bt748.2) = true then ((impl_HeadOk.f k bt728.1 bt728.2).bind fun t754 => ((spec_HeadOk.f k bt728.1 bt728.2).bind fun t755 => (some (t754 == t755)))) else (none)) else (none)) else (none)))) else (none)) else (none)) else (none))) else (if (bt733.2 == bt735.2) = true then (if bt733.1.toList = bt735.1.toList then ((impl_FieldOk.f k bt737.1 bt737.2).bind fun t756 => ((spec_FieldOk.f k bt737.1 bt737.2).bind fun t757 => (if (t756 == t757) = true then (if bt746.1.toList = bt748.1.toList then (if (bt746.2 == bt748.2) = true then ((impl_HeadOk.f k bt728.1 bt728.2).bind fun t758 => ((spec_HeadOk.f k bt728.1 bt728.2).bind fun t759 => (some (t758 == t759)))) else (none)) else (none)) else (none)))) else (none)) else (none))) else (none))) else (none)) else (none)))))))))))))
def laws_FnHeadsTold.T13 : Bool × List (List Nat × List Nat) := (true, [([], []), ([], []), ([0, 1], [0, 1]), ([2], [2]), ([3], [3]), ([3], [3]), ([4, 5, 3], [3, 4, 5]), ([3, 6], [3, 6]), ([7, 3], [7]), ([8], [8]), ([8], [8]), ([9, 10, 8, 8], [8, 9, 10]), ([8, 11], [8, 11]), ([12, 11], [12]), ([13], [13]), ([14, 13], [13, 14]), ([15, 13, 13], [13, 15]), ([16], [16]), ([17, 16, 16], [16, 17]), ([16, 18, 13], [13, 16, 18]), ([13, 19], [13, 19]), ([20, 18], [20]), ([21], [21]), ([21], [21]), ([22, 23, 21], [21, 22, 23]), ([21, 24], [21, 24]), ([25, 21], [25]), ([26], [26]), ([26], [26]), ([27, 28, 26], [26, 27, 28]), ([26, 29], [26, 29]), ([30, 26], [30]), ([31], [31]), ([32, 31, 31], [31, 32]), ([31], [31]), ([34, 33, 31], [31, 34]), ([33, 35, 31], [31, 33, 35]), ([31, 36], [31, 36]), ([37, 35], [37]), ([38], [38]), ([38], [38]), ([39, 40, 38], [38, 39, 40]), ([38, 41], [38, 41]), ([42, 38], [42]), ([43], [43]), ([43], [43]), ([44, 45, 43], [43, 44, 45]), ([43, 46], [43, 46]), ([47, 43], [47]), ([48], [48]), ([49, 48, 48], [48, 49]), ([48], [48]), ([51, 50, 48], [48, 51]), ([50, 52, 48], [48, 50, 52]), ([48, 53], [48, 53]), ([54, 52, 0, 1, 2, 3, 4, 5, 6, 7, 8, 9, 10, 11, 12, 13, 14, 15, 16, 17, 18, 19, 20, 21, 22, 23, 24, 25, 26, 27, 28, 29, 30, 31, 32, 33, 34, 35, 36, 37, 38, 39, 40, 41, 42, 43, 44, 45, 46, 47, 48, 49, 50, 51, 52, 53, 54], [54])])
def laws_FnHeadsTold.B13 : List Nat := [0, 0, 3, 7, 15, 15, 63, 127, 255, 511, 511, 2047, 4095, 8191, 16383, 32767, 65535, 131071, 262143, 524287, 1048575, 2097151, 4194303, 4194303, 16777215, 33554431, 67108863, 134217727, 134217727, 536870911, 1073741823, 2147483647, 4294967295, 8589934591, 4294967295, 34359738367, 68719476735, 137438953471, 274877906943, 549755813887, 549755813887, 2199023255551, 4398046511103, 8796093022207, 17592186044415, 17592186044415, 70368744177663, 140737488355327, 281474976710655, 562949953421311, 1125899906842623, 562949953421311, 4503599627370495, 9007199254740991, 18014398509481983, 36028797018963967]
theorem laws_FnHeadsTold.tab13 : rtab .any (opsOf Tryd.f11 13) = laws_FnHeadsTold.T13 := by kernel_rfl
theorem laws_FnHeadsTold.bits13 : waitsOk laws_FnHeadsTold.T13.2 laws_FnHeadsTold.B13 = true := by kernel_rfl
set_option maxHeartbeats 8000000 in
set_option maxRecDepth 100000 in
theorem laws_FnHeadsTold.calls (k : Nat) (A0 : Option Addr) (c0 : Nat) (l0 : List Int) (r : Bool) (w : World) (hr0 : Kd.C (Kd.int .u8) w A0 l0.length l0) (hc0 : l0.length ≤ c0) (hsh : Shp w) (h : laws_FnHeadsTold.f k l0 = some r) :
    Calls Tryd.prog 11 #[.slice A0 l0.length c0] w fun e w' => e = .returned (.bool r) ∧ Below w.heap.size w w' := by
  have hu26 := Tryd.underlying26
  have hu40 := Tryd.underlying40
  have HSH := Aside0.mk hsh
  clear hsh
  have HR0 := Aside0.mk hr0
  have HC0 := Aside0.mk hc0
  clear hr0 hc0
  have HB := Aside0.mk (Below.refl w.heap.size w)
  have H : ((laws_big.f l0).bind fun t712 => (if t712 = true then (some true) else ((spec_DrawReadHead.f k l0).bind fun t713 => ((impl_ReadHead.f k t713).bind fun bt714 => ((spec_ReadHead.f k t713).bind fun bt721 => ((spec_DrawHeadText.f k l0).bind fun bt728 => ((impl_HeadText.f k bt728.1 bt728.2).bind fun bt733 => ((spec_HeadText.f k bt728.1 bt728.2).bind fun bt735 => ((spec_DrawFieldOk.f k l0).bind fun bt737 => ((spec_DrawFieldOf.f k l0).bind fun bt740 => ((impl_FieldOf.f k bt740.1 bt740.2.1 bt740.2.2).bind fun bt746 => ((spec_FieldOf.f k bt740.1 bt740.2.1 bt740.2.2).bind fun bt748 => (if bt714.2.2.2 = bt721.2.2.2 then (if bt714.2.2.1 = bt721.2.2.1 then ((laws_sameHead.f k bt714.1 bt714.2.1 bt721.1 bt721.2.1).bind fun t750 => (if t750 = true then (if bt714.2.2.2 = 0 then ((impl_HeadOk.f k bt714.1 bt714.2.1).bind fun t751 => (if t751 = true then (if (bt733.2 == bt735.2) = true then (if bt733.1.toList = bt735.1.toList then ((impl_FieldOk.f k bt737.1 bt737.2).bind fun t752 => ((spec_FieldOk.f k bt737.1 bt737.2).bind fun t753 => (if (t752 == t753) = true then (if bt746.1.toList = bt748.1.toList then (if (bt746.2 == bt748.2) = true then ((impl_HeadOk.f k bt728.1 bt728.2).bind fun t754 => ((spec_HeadOk.f k bt728.1 bt728.2).bind fun t755 => (some (t754 == t755)))) else (none)) else (none)) else (none)))) else (none)) else (none)) else (none))) else (if (bt733.2 == bt735.2) = true then (if bt733.1.toList = bt735.1.toList then ((impl_FieldOk.f k bt737.1 bt737.2).bind fun t756 => ((spec_FieldOk.f k bt737.1 bt737.2).bind fun t757 => (if (t756 == t757) = true then (if bt746.1.toList = bt748.1.toList then (if (bt746.2 == bt748.2) = true then ((impl_HeadOk.f k bt728.1 bt728.2).bind fun t758 => ((spec_HeadOk.f k bt728.1 bt728.2).bind fun t759 => (some (t758 == t759)))) else (none)) else (none)) else (none)))) else (none)) else (none))) else (none))) else (none)) else (none)))))))))))))) = some r := h
  clear h
  replace H := Option.bind_eq_some_iff.mp H
  obtain ⟨t712, A20, H⟩ := H
  replace H : (if t712 = true then (some true) else ((spec_DrawReadHead.f k l0).bind fun t713 => ((impl_ReadHead.f k t713).bind fun bt714 => ((spec_ReadHead.f k t713).bind fun bt721 => ((spec_DrawHeadText.f k l0).bind fun bt728 => ((impl_HeadText.f k bt728.1 bt728.2).bind fun bt733 => ((spec_HeadText.f k bt728.1 bt728.2).bind fun bt735 => ((spec_DrawFieldOk.f k l0).bind fun bt737 => ((spec_DrawFieldOf.f k l0).bind fun bt740 => ((impl_FieldOf.f k bt740.1 bt740.2.1 bt740.2.2).bind fun bt746 => ((spec_FieldOf.f k bt740.1 bt740.2.1 bt740.2.2).bind fun bt748 => (if bt714.2.2.2 = bt721.2.2.2 then (if bt714.2.2.1 = bt721.2.2.1 then ((laws_sameHead.f k bt714.1 bt714.2.1 bt721.1 bt721.2.1).bind fun t750 => (if t750 = true then (if bt714.2.2.2 = 0 then ((impl_HeadOk.f k bt714.1 bt714.2.1).bind fun t751 => (if t751 = true then (if (bt733.2 == bt735.2) = true then (if bt733.1.toList = bt735.1.toList then ((impl_FieldOk.f k bt737.1 bt737.2).bind fun t752 => ((spec_FieldOk.f k bt737.1 bt737.2).bind fun t753 => (if (t752 == t753) = true then (if bt746.1.toList = bt748.1.toList then (if (bt746.2 == bt748.2) = true then ((impl_HeadOk.f k bt728.1 bt728.2).bind fun t754 => ((spec_HeadOk.f k bt728.1 bt728.2).bind fun t755 => (some (t754 == t755)))) else (none)) else (none)) else (none)))) else (none)) else (none)) else (none))) else (if (bt733.2 == bt735.2) = true then (if bt733.1.toList = bt735.1.toList then ((impl_FieldOk.f k bt737.1 bt737.2).bind fun t756 => ((spec_FieldOk.f k bt737.1 bt737.2).bind fun t757 => (if (t756 == t757) = true then (if bt746.1.toList = bt748.1.toList then (if (bt746.2 == bt748.2) = true then ((impl_HeadOk.f k bt728.1 bt728.2).bind fun t758 => ((spec_HeadOk.f k bt728.1 bt728.2).bind fun t759 => (some (t758 == t759)))) else (none)) else (none)) else (none)))) else (none)) else (none))) else (none))) else (none)) else (none))))))))))))) = some r := H
  have A2 := Aside0.mk A20
  clear A20
  have HS3 := Aside0.mk H
  clear H
  go_enter Tryd.func11, Tryd.ntmps11
  go_upto_if 23 with (((with_reducible refine gate_callee (f := 13) rfl ?_); refine goesL_ (some 23) rfl rfl Tryd.func13 (by kernel_rfl) rfl #[.slice A0 l0.length c0] rfl (by (try simp only [List.map_toArray, List.map_cons, List.map_nil]); rfl) ?_; (with_reducible refine (laws_big.calls _ _ l0 t712 _ ?side1 ?side2 A2.out).mono ?_); (case side1 => repeat (exact HR0.out)); (case side2 => exact HC0.out); rintro e w' ⟨rfl, rfl⟩; refine ⟨_, rfl, ?_⟩))
  (try simp only [Act.put, List.setIfInBounds_toArray, List.set_cons_zero, List.set_cons_succ])
  have H := HS3.out
  clear HS3
  by_cases c4 : t712 = true
  · subst c4
    have H1 : (some true) = some r := by rw [if_pos rfl] at H; exact H
    clear H
    have H := H1
    clear H1
    obtain rfl := Option.some.inj H
    go_wp2
    go_ret
    exact ⟨by rfl, by repeat ((with_reducible exact HB.out))⟩
  · replace c4 := Bool.eq_false_iff.mpr c4
    subst c4
    have H1 : ((spec_DrawReadHead.f k l0).bind fun t713 => ((impl_ReadHead.f k t713).bind fun bt714 => ((spec_ReadHead.f k t713).bind fun bt721 => ((spec_DrawHeadText.f k l0).bind fun bt728 => ((impl_HeadText.f k bt728.1 bt728.2).bind fun bt733 => ((spec_HeadText.f k bt728.1 bt728.2).bind fun bt735 => ((spec_DrawFieldOk.f k l0).bind fun bt737 => ((spec_DrawFieldOf.f k l0).bind fun bt740 => ((impl_FieldOf.f k bt740.1 bt740.2.1 bt740.2.2).bind fun bt746 => ((spec_FieldOf.f k bt740.1 bt740.2.1 bt740.2.2).bind fun bt748 => (if bt714.2.2.2 = bt721.2.2.2 then (if bt714.2.2.1 = bt721.2.2.1 then ((laws_sameHead.f k bt714.1 bt714.2.1 bt721.1 bt721.2.1).bind fun t750 => (if t750 = true then (if bt714.2.2.2 = 0 then ((impl_HeadOk.f k bt714.1 bt714.2.1).bind fun t751 => (if t751 = true then (if (bt733.2 == bt735.2) = true then (if bt733.1.toList = bt735.1.toList then ((impl_FieldOk.f k bt737.1 bt737.2).bind fun t752 => ((spec_FieldOk.f k bt737.1 bt737.2).bind fun t753 => (if (t752 == t753) = true then (if bt746.1.toList = bt748.1.toList then (if (bt746.2 == bt748.2) = true then ((impl_HeadOk.f k bt728.1 bt728.2).bind fun t754 => ((spec_HeadOk.f k bt728.1 bt728.2).bind fun t755 => (some (t754 == t755)))) else (none)) else (none)) else (none)))) else (none)) else (none)) else (none))) else (if (bt733.2 == bt735.2) = true then (if bt733.1.toList = bt735.1.toList then ((impl_FieldOk.f k bt737.1 bt737.2).bind fun t756 => ((spec_FieldOk.f k bt737.1 bt737.2).bind fun t757 => (if (t756 == t757) = true then (if bt746.1.toList = bt748.1.toList then (if (bt746.2 == bt748.2) = true then ((impl_HeadOk.f k bt728.1 bt728.2).bind fun t758 => ((spec_HeadOk.f k bt728.1 bt728.2).bind fun t759 => (some (t758 == t759)))) else (none)) else (none)) else (none)))) else (none)) else (none))) else (none))) else (none)) else (none)))))))))))) = some r := by rw [if_neg (show ¬ (false = true) by decide)] at H; exact H
    clear H
    have H := H1
    clear H1
    replace H := Option.bind_eq_some_iff.mp H
    obtain ⟨t713, A50, H⟩ := H
    replace H : ((impl_ReadHead.f k t713).bind fun bt714 => ((spec_ReadHead.f k t713).bind fun bt721 => ((spec_DrawHeadText.f k l0).bind fun bt728 => ((impl_HeadText.f k bt728.1 bt728.2).bind fun bt733 => ((spec_HeadText.f k bt728.1 bt728.2).bind fun bt735 => ((spec_DrawFieldOk.f k l0).bind fun bt737 => ((spec_DrawFieldOf.f k l0).bind fun bt740 => ((impl_FieldOf.f k bt740.1 bt740.2.1 bt740.2.2).bind fun bt746 => ((spec_FieldOf.f k bt740.1 bt740.2.1 bt740.2.2).bind fun bt748 => (if bt714.2.2.2 = bt721.2.2.2 then (if bt714.2.2.1 = bt721.2.2.1 then ((laws_sameHead.f k bt714.1 bt714.2.1 bt721.1 bt721.2.1).bind fun t750 => (if t750 = true then (if bt714.2.2.2 = 0 then ((impl_HeadOk.f k bt714.1 bt714.2.1).bind fun t751 => (if t751 = true then (if (bt733.2 == bt735.2) = true then (if bt733.1.toList = bt735.1.toList then ((impl_FieldOk.f k bt737.1 bt737.2).bind fun t752 => ((spec_FieldOk.f k bt737.1 bt737.2).bind fun t753 => (if (t752 == t753) = true then (if bt746.1.toList = bt748.1.toList then (if (bt746.2 == bt748.2) = true then ((impl_HeadOk.f k bt728.1 bt728.2).bind fun t754 => ((spec_HeadOk.f k bt728.1 bt728.2).bind fun t755 => (some (t754 == t755)))) else (none)) else (none)) else (none)))) else (none)) else (none)) else (none))) else (if (bt733.2 == bt735.2) = true then (if bt733.1.toList = bt735.1.toList then ((impl_FieldOk.f k bt737.1 bt737.2).bind fun t756 => ((spec_FieldOk.f k bt737.1 bt737.2).bind fun t757 => (if (t756 == t757) = true then (if bt746.1.toList = bt748.1.toList then (if (bt746.2 == bt748.2) = true then ((impl_HeadOk.f k bt728.1 bt728.2).bind fun t758 => ((spec_HeadOk.f k bt728.1 bt728.2).bind fun t759 => (some (t758 == t759)))) else (none)) else (none)) else (none)))) else (none)) else (none))) else (none))) else (none)) else (none))))))))))) = some r := H
    have A5 := Aside0.mk A50
    clear A50
    replace H := Option.bind_eq_some_iff.mp H
    obtain ⟨⟨t714, t715, t718, t719⟩, A60, H⟩ := H
    replace H : ((spec_ReadHead.f k t713).bind fun bt721 => ((spec_DrawHeadText.f k l0).bind fun bt728 => ((impl_HeadText.f k bt728.1 bt728.2).bind fun bt733 => ((spec_HeadText.f k bt728.1 bt728.2).bind fun bt735 => ((spec_DrawFieldOk.f k l0).bind fun bt737 => ((spec_DrawFieldOf.f k l0).bind fun bt740 => ((impl_FieldOf.f k bt740.1 bt740.2.1 bt740.2.2).bind fun bt746 => ((spec_FieldOf.f k bt740.1 bt740.2.1 bt740.2.2).bind fun bt748 => (if t719 = bt721.2.2.2 then (if t718 = bt721.2.2.1 then ((laws_sameHead.f k t714 t715 bt721.1 bt721.2.1).bind fun t750 => (if t750 = true then (if t719 = 0 then ((impl_HeadOk.f k t714 t715).bind fun t751 => (if t751 = true then (if (bt733.2 == bt735.2) = true then (if bt733.1.toList = bt735.1.toList then ((impl_FieldOk.f k bt737.1 bt737.2).bind fun t752 => ((spec_FieldOk.f k bt737.1 bt737.2).bind fun t753 => (if (t752 == t753) = true then (if bt746.1.toList = bt748.1.toList then (if (bt746.2 == bt748.2) = true then ((impl_HeadOk.f k bt728.1 bt728.2).bind fun t754 => ((spec_HeadOk.f k bt728.1 bt728.2).bind fun t755 => (some (t754 == t755)))) else (none)) else (none)) else (none)))) else (none)) else (none)) else (none))) else (if (bt733.2 == bt735.2) = true then (if bt733.1.toList = bt735.1.toList then ((impl_FieldOk.f k bt737.1 bt737.2).bind fun t756 => ((spec_FieldOk.f k bt737.1 bt737.2).bind fun t757 => (if (t756 == t757) = true then (if bt746.1.toList = bt748.1.toList then (if (bt746.2 == bt748.2) = true then ((impl_HeadOk.f k bt728.1 bt728.2).bind fun t758 => ((spec_HeadOk.f k bt728.1 bt728.2).bind fun t759 => (some (t758 == t759)))) else (none)) else (none)) else (none)))) else (none)) else (none))) else (none))) else (none)) else (none)))))))))) = some r := H
    have A6 := Aside0.mk A60
    clear A60
    replace H := Option.bind_eq_some_iff.mp H
    obtain ⟨⟨t721, t722, t725, t726⟩, A70, H⟩ := H
    replace H : ((spec_DrawHeadText.f k l0).bind fun bt728 => ((impl_HeadText.f k bt728.1 bt728.2).bind fun bt733 => ((spec_HeadText.f k bt728.1 bt728.2).bind fun bt735 => ((spec_DrawFieldOk.f k l0).bind fun bt737 => ((spec_DrawFieldOf.f k l0).bind fun bt740 => ((impl_FieldOf.f k bt740.1 bt740.2.1 bt740.2.2).bind fun bt746 => ((spec_FieldOf.f k bt740.1 bt740.2.1 bt740.2.2).bind fun bt748 => (if t719 = t726 then (if t718 = t725 then ((laws_sameHead.f k t714 t715 t721 t722).bind fun t750 => (if t750 = true then (if t719 = 0 then ((impl_HeadOk.f k t714 t715).bind fun t751 => (if t751 = true then (if (bt733.2 == bt735.2) = true then (if bt733.1.toList = bt735.1.toList then ((impl_FieldOk.f k bt737.1 bt737.2).bind fun t752 => ((spec_FieldOk.f k bt737.1 bt737.2).bind fun t753 => (if (t752 == t753) = true then (if bt746.1.toList = bt748.1.toList then (if (bt746.2 == bt748.2) = true then ((impl_HeadOk.f k bt728.1 bt728.2).bind fun t754 => ((spec_HeadOk.f k bt728.1 bt728.2).bind fun t755 => (some (t754 == t755)))) else (none)) else (none)) else (none)))) else (none)) else (none)) else (none))) else (if (bt733.2 == bt735.2) = true then (if bt733.1.toList = bt735.1.toList then ((impl_FieldOk.f k bt737.1 bt737.2).bind fun t756 => ((spec_FieldOk.f k bt737.1 bt737.2).bind fun t757 => (if (t756 == t757) = true then (if bt746.1.toList = bt748.1.toList then (if (bt746.2 == bt748.2) = true then ((impl_HeadOk.f k bt728.1 bt728.2).bind fun t758 => ((spec_HeadOk.f k bt728.1 bt728.2).bind fun t759 => (some (t758 == t759)))) else (none)) else (none)) else (none)))) else (none)) else (none))) else (none))) else (none)) else (none))))))))) = some r := H
    have A7 := Aside0.mk A70
    clear A70
    replace H := Option.bind_eq_some_iff.mp H
    obtain ⟨⟨t728, t729⟩, A80, H⟩ := H
    replace H : ((impl_HeadText.f k t728 t729).bind fun bt733 => ((spec_HeadText.f k t728 t729).bind fun bt735 => ((spec_DrawFieldOk.f k l0).bind fun bt737 => ((spec_DrawFieldOf.f k l0).bind fun bt740 => ((impl_FieldOf.f k bt740.1 bt740.2.1 bt740.2.2).bind fun bt746 => ((spec_FieldOf.f k bt740.1 bt740.2.1 bt740.2.2).bind fun bt748 => (if t719 = t726 then (if t718 = t725 then ((laws_sameHead.f k t714 t715 t721 t722).bind fun t750 => (if t750 = true then (if t719 = 0 then ((impl_HeadOk.f k t714 t715).bind fun t751 => (if t751 = true then (if (bt733.2 == bt735.2) = true then (if bt733.1.toList = bt735.1.toList then ((impl_FieldOk.f k bt737.1 bt737.2).bind fun t752 => ((spec_FieldOk.f k bt737.1 bt737.2).bind fun t753 => (if (t752 == t753) = true then (if bt746.1.toList = bt748.1.toList then (if (bt746.2 == bt748.2) = true then ((impl_HeadOk.f k t728 t729).bind fun t754 => ((spec_HeadOk.f k t728 t729).bind fun t755 => (some (t754 == t755)))) else (none)) else (none)) else (none)))) else (none)) else (none)) else (none))) else (if (bt733.2 == bt735.2) = true then (if bt733.1.toList = bt735.1.toList then ((impl_FieldOk.f k bt737.1 bt737.2).bind fun t756 => ((spec_FieldOk.f k bt737.1 bt737.2).bind fun t757 => (if (t756 == t757) = true then (if bt746.1.toList = bt748.1.toList then (if (bt746.2 == bt748.2) = true then ((impl_HeadOk.f k t728 t729).bind fun t758 => ((spec_HeadOk.f k t728 t729).bind fun t759 => (some (t758 == t759)))) else (none)) else (none)) else (none)))) else (none)) else (none))) else (none))) else (none)) else (none)))))))) = some r := H
    have A8 := Aside0.mk A80
    clear A80
    replace H := Option.bind_eq_some_iff.mp H
    obtain ⟨⟨t733, t734⟩, A90, H⟩ := H
    replace H : ((spec_HeadText.f k t728 t729).bind fun bt735 => ((spec_DrawFieldOk.f k l0).bind fun bt737 => ((spec_DrawFieldOf.f k l0).bind fun bt740 => ((impl_FieldOf.f k bt740.1 bt740.2.1 bt740.2.2).bind fun bt746 => ((spec_FieldOf.f k bt740.1 bt740.2.1 bt740.2.2).bind fun bt748 => (if t719 = t726 then (if t718 = t725 then ((laws_sameHead.f k t714 t715 t721 t722).bind fun t750 => (if t750 = true then (if t719 = 0 then ((impl_HeadOk.f k t714 t715).bind fun t751 => (if t751 = true then (if (t734 == bt735.2) = true then (if t733.toList = bt735.1.toList then ((impl_FieldOk.f k bt737.1 bt737.2).bind fun t752 => ((spec_FieldOk.f k bt737.1 bt737.2).bind fun t753 => (if (t752 == t753) = true then (if bt746.1.toList = bt748.1.toList then (if (bt746.2 == bt748.2) = true then ((impl_HeadOk.f k t728 t729).bind fun t754 => ((spec_HeadOk.f k t728 t729).bind fun t755 => (some (t754 == t755)))) else (none)) else (none)) else (none)))) else (none)) else (none)) else (none))) else (if (t734 == bt735.2) = true then (if t733.toList = bt735.1.toList then ((impl_FieldOk.f k bt737.1 bt737.2).bind fun t756 => ((spec_FieldOk.f k bt737.1 bt737.2).bind fun t757 => (if (t756 == t757) = true then (if bt746.1.toList = bt748.1.toList then (if (bt746.2 == bt748.2) = true then ((impl_HeadOk.f k t728 t729).bind fun t758 => ((spec_HeadOk.f k t728 t729).bind fun t759 => (some (t758 == t759)))) else (none)) else (none)) else (none)))) else (none)) else (none))) else (none))) else (none)) else (none))))))) = some r := H
    have A9 := Aside0.mk A90
    clear A90
    replace H := Option.bind_eq_some_iff.mp H
    obtain ⟨⟨t735, t736⟩, A100, H⟩ := H
    replace H : ((spec_DrawFieldOk.f k l0).bind fun bt737 => ((spec_DrawFieldOf.f k l0).bind fun bt740 => ((impl_FieldOf.f k bt740.1 bt740.2.1 bt740.2.2).bind fun bt746 => ((spec_FieldOf.f k bt740.1 bt740.2.1 bt740.2.2).bind fun bt748 => (if t719 = t726 then (if t718 = t725 then ((laws_sameHead.f k t714 t715 t721 t722).bind fun t750 => (if t750 = true then (if t719 = 0 then ((impl_HeadOk.f k t714 t715).bind fun t751 => (if t751 = true then (if (t734 == t736) = true then (if t733.toList = t735.toList then ((impl_FieldOk.f k bt737.1 bt737.2).bind fun t752 => ((spec_FieldOk.f k bt737.1 bt737.2).bind fun t753 => (if (t752 == t753) = true then (if bt746.1.toList = bt748.1.toList then (if (bt746.2 == bt748.2) = true then ((impl_HeadOk.f k t728 t729).bind fun t754 => ((spec_HeadOk.f k t728 t729).bind fun t755 => (some (t754 == t755)))) else (none)) else (none)) else (none)))) else (none)) else (none)) else (none))) else (if (t734 == t736) = true then (if t733.toList = t735.toList then ((impl_FieldOk.f k bt737.1 bt737.2).bind fun t756 => ((spec_FieldOk.f k bt737.1 bt737.2).bind fun t757 => (if (t756 == t757) = true then (if bt746.1.toList = bt748.1.toList then (if (bt746.2 == bt748.2) = true then ((impl_HeadOk.f k t728 t729).bind fun t758 => ((spec_HeadOk.f k t728 t729).bind fun t759 => (some (t758 == t759)))) else (none)) else (none)) else (none)))) else (none)) else (none))) else (none))) else (none)) else (none)))))) = some r := H
    have A10 := Aside0.mk A100
    clear A100
    replace H := Option.bind_eq_some_iff.mp H
    obtain ⟨⟨t737, t738⟩, A110, H⟩ := H
    replace H : ((spec_DrawFieldOf.f k l0).bind fun bt740 => ((impl_FieldOf.f k bt740.1 bt740.2.1 bt740.2.2).bind fun bt746 => ((spec_FieldOf.f k bt740.1 bt740.2.1 bt740.2.2).bind fun bt748 => (if t719 = t726 then (if t718 = t725 then ((laws_sameHead.f k t714 t715 t721 t722).bind fun t750 => (if t750 = true then (if t719 = 0 then ((impl_HeadOk.f k t714 t715).bind fun t751 => (if t751 = true then (if (t734 == t736) = true then (if t733.toList = t735.toList then ((impl_FieldOk.f k t737 t738).bind fun t752 => ((spec_FieldOk.f k t737 t738).bind fun t753 => (if (t752 == t753) = true then (if bt746.1.toList = bt748.1.toList then (if (bt746.2 == bt748.2) = true then ((impl_HeadOk.f k t728 t729).bind fun t754 => ((spec_HeadOk.f k t728 t729).bind fun t755 => (some (t754 == t755)))) else (none)) else (none)) else (none)))) else (none)) else (none)) else (none))) else (if (t734 == t736) = true then (if t733.toList = t735.toList then ((impl_FieldOk.f k t737 t738).bind fun t756 => ((spec_FieldOk.f k t737 t738).bind fun t757 => (if (t756 == t757) = true then (if bt746.1.toList = bt748.1.toList then (if (bt746.2 == bt748.2) = true then ((impl_HeadOk.f k t728 t729).bind fun t758 => ((spec_HeadOk.f k t728 t729).bind fun t759 => (some (t758 == t759)))) else (none)) else (none)) else (none)))) else (none)) else (none))) else (none))) else (none)) else (none))))) = some r := H
    have A11 := Aside0.mk A110
    clear A110
    replace H := Option.bind_eq_some_iff.mp H
    obtain ⟨⟨t740, t741, t744⟩, A120, H⟩ := H
    replace H : ((impl_FieldOf.f k t740 t741 t744).bind fun bt746 => ((spec_FieldOf.f k t740 t741 t744).bind fun bt748 => (if t719 = t726 then (if t718 = t725 then ((laws_sameHead.f k t714 t715 t721 t722).bind fun t750 => (if t750 = true then (if t719 = 0 then ((impl_HeadOk.f k t714 t715).bind fun t751 => (if t751 = true then (if (t734 == t736) = true then (if t733.toList = t735.toList then ((impl_FieldOk.f k t737 t738).bind fun t752 => ((spec_FieldOk.f k t737 t738).bind fun t753 => (if (t752 == t753) = true then (if bt746.1.toList = bt748.1.toList then (if (bt746.2 == bt748.2) = true then ((impl_HeadOk.f k t728 t729).bind fun t754 => ((spec_HeadOk.f k t728 t729).bind fun t755 => (some (t754 == t755)))) else (none)) else (none)) else (none)))) else (none)) else (none)) else (none))) else (if (t734 == t736) = true then (if t733.toList = t735.toList then ((impl_FieldOk.f k t737 t738).bind fun t756 => ((spec_FieldOk.f k t737 t738).bind fun t757 => (if (t756 == t757) = true then (if bt746.1.toList = bt748.1.toList then (if (bt746.2 == bt748.2) = true then ((impl_HeadOk.f k t728 t729).bind fun t758 => ((spec_HeadOk.f k t728 t729).bind fun t759 => (some (t758 == t759)))) else (none)) else (none)) else (none)))) else (none)) else (none))) else (none))) else (none)) else (none)))) = some r := H
    have A12 := Aside0.mk A120
    clear A120
    replace H := Option.bind_eq_some_iff.mp H
    obtain ⟨⟨t746, t747⟩, A130, H⟩ := H
    replace H : ((spec_FieldOf.f k t740 t741 t744).bind fun bt748 => (if t719 = t726 then (if t718 = t725 then ((laws_sameHead.f k t714 t715 t721 t722).bind fun t750 => (if t750 = true then (if t719 = 0 then ((impl_HeadOk.f k t714 t715).bind fun t751 => (if t751 = true then (if (t734 == t736) = true then (if t733.toList = t735.toList then ((impl_FieldOk.f k t737 t738).bind fun t752 => ((spec_FieldOk.f k t737 t738).bind fun t753 => (if (t752 == t753) = true then (if t746.toList = bt748.1.toList then (if (t747 == bt748.2) = true then ((impl_HeadOk.f k t728 t729).bind fun t754 => ((spec_HeadOk.f k t728 t729).bind fun t755 => (some (t754 == t755)))) else (none)) else (none)) else (none)))) else (none)) else (none)) else (none))) else (if (t734 == t736) = true then (if t733.toList = t735.toList then ((impl_FieldOk.f k t737 t738).bind fun t756 => ((spec_FieldOk.f k t737 t738).bind fun t757 => (if (t756 == t757) = true then (if t746.toList = bt748.1.toList then (if (t747 == bt748.2) = true then ((impl_HeadOk.f k t728 t729).bind fun t758 => ((spec_HeadOk.f k t728 t729).bind fun t759 => (some (t758 == t759)))) else (none)) else (none)) else (none)))) else (none)) else (none))) else (none))) else (none)) else (none))) = some r := H
    have A13 := Aside0.mk A130
    clear A130
    replace H := Option.bind_eq_some_iff.mp H
    obtain ⟨⟨t748, t749⟩, A140, H⟩ := H
    replace H : (if t719 = t726 then (if t718 = t725 then ((laws_sameHead.f k t714 t715 t721 t722).bind fun t750 => (if t750 = true then (if t719 = 0 then ((impl_HeadOk.f k t714 t715).bind fun t751 => (if t751 = true then (if (t734 == t736) = true then (if t733.toList = t735.toList then ((impl_FieldOk.f k t737 t738).bind fun t752 => ((spec_FieldOk.f k t737 t738).bind fun t753 => (if (t752 == t753) = true then (if t746.toList = t748.toList then (if (t747 == t749) = true then ((impl_HeadOk.f k t728 t729).bind fun t754 => ((spec_HeadOk.f k t728 t729).bind fun t755 => (some (t754 == t755)))) else (none)) else (none)) else (none)))) else (none)) else (none)) else (none))) else (if (t734 == t736) = true then (if t733.toList = t735.toList then ((impl_FieldOk.f k t737 t738).bind fun t756 => ((spec_FieldOk.f k t737 t738).bind fun t757 => (if (t756 == t757) = true then (if t746.toList = t748.toList then (if (t747 == t749) = true then ((impl_HeadOk.f k t728 t729).bind fun t758 => ((spec_HeadOk.f k t728 t729).bind fun t759 => (some (t758 == t759)))) else (none)) else (none)) else (none)))) else (none)) else (none))) else (none))) else (none)) else (none)) = some r := H
    have A14 := Aside0.mk A140
    clear A140
    have HS15 := Aside0.mk H
    clear H
    go_upto_region 13 with (first | ((with_reducible refine gate_callee (f := 40) rfl ?_); refine goesL_ (some 25) rfl rfl Tryd.func40 (by kernel_rfl) rfl #[.slice A0 l0.length c0] rfl (by (try simp only [List.map_toArray, List.map_cons, List.map_nil]); rfl) ?_; (with_reducible refine (spec_DrawReadHead.calls k _ _ l0 t713 _ ?side1 ?side2 A5.out).mono ?_); (case side1 => repeat (exact (Kd.C_below HR0.out HB.out))); (case side2 => exact HC0.out); rintro e w16 ⟨rfl, hb⟩; refine ⟨_, rfl, ?_⟩; have n0_ := Aside0.mk (below_step (by repeat ((with_reducible exact HB.out))) hb); clear HB; have HB := n0_; clear n0_; (try clear hb); (try clear hb2); (try clear hk); (try clear hi)) | ((with_reducible refine gate_callee (f := 16) rfl ?_); refine goesL_ (some 28) rfl rfl Tryd.func16 (by kernel_rfl) rfl #[.string t713] rfl (by (try simp only [List.map_toArray, List.map_cons, List.map_nil]); rfl) ?_; (with_reducible refine (impl_ReadHead.calls k t713 t714 t715 t718 t719 _ ?side1 A6.out).mono ?_); (case side1 => exact Shp.below HSH.out (by repeat ((with_reducible exact HB.out)))); rintro e w17 ⟨v716, rfl, ho0, hb⟩; refine ⟨_, rfl, ?_⟩; have n0_ := Aside0.mk (Kd.R_lower ho0 (below_size (by repeat ((with_reducible exact HB.out))))); have n1_ := Aside0.mk (below_step (by repeat ((with_reducible exact HB.out))) hb); clear HB; have HO717 := n0_; have HB := n1_; clear n0_ n1_; (try clear hb); (try clear hb2); (try clear hk); (try clear hi); (try clear ho0)) | ((with_reducible refine gate_dst (N := 4) rfl ?_); refine box_event ?hg (N := 4) ?hd (cs := #[.string (⟨#[]⟩ : ByteArray), .slice none 0 0]) (t := 26) ?hr ?_; (case hd => rfl); (case hg => rfl); (case hr => (go_simp; done)); intro gb720 hg w18 hbox hb; have n0_ := Aside0.mk (Kd.R_below (by (with_reducible repeat (first | apply Kd.R_alloc | apply Kd.R_drewN | apply Kd.R_drew )); exact HO717.out) hb); have n1_ := Aside0.mk (below_step (by repeat ((with_reducible exact HB.out))) hb); have n2_ := Aside0.mk (hbox); have n3_ := Aside0.mk ((by rw [hg]; exact (below_size (by repeat ((with_reducible exact HB.out)))) : w.heap.size ≤ gb720)); have n4_ := Aside0.mk ((by rw [hg]; exact (below_size (by repeat ((with_reducible exact HB.out)))) : w.heap.size ≤ gb720)); clear HO717; clear HB; have HO717 := n0_; have HB := n1_; have BK720 := n2_; have GW720 := n3_; have GE720 := n4_; clear n0_ n1_ n2_ n3_ n4_; clear hb hbox hg; have hcz19_0 : w18.cell? ⟨gb720, 0, none⟩ = some (.string (⟨#[]⟩ : ByteArray)) := (blk_cell BK720.out 0).trans rfl; have hcz19_1 : w18.cell? ⟨gb720, 1, none⟩ = some (.slice none 0 0) := (blk_cell BK720.out 1).trans rfl; have hfz19_0 := blk_frozen BK720.out 0; have hfz19_1 := blk_frozen BK720.out 1; obtain ⟨Ao20, co20, eo20⟩ := Kd.R_slice HO717.out; subst eo20) | ((with_reducible refine gate_callee (f := 37) rfl ?_); refine goesL_ (some 34) rfl rfl Tryd.func37 (by kernel_rfl) rfl #[.string t713] rfl (by (try simp only [List.map_toArray, List.map_cons, List.map_nil]); rfl) ?_; (with_reducible refine (spec_ReadHead.calls k t713 t721 t722 t725 t726 _ A7.out).mono ?_); rintro e w21 ⟨v723, rfl, ho0, hb⟩; refine ⟨_, rfl, ?_⟩; have n0_ := Aside0.mk (Kd.R_elder' (by (with_reducible repeat (first | apply Kd.R_alloc | apply Kd.R_drewN | apply Kd.R_drew )); exact (Kd.R_mono (Kd.R_far (p := ⟨gb720, 1, none⟩) (Kd.R_far (p := ⟨gb720, 0, none⟩) (Kd.R_types HO717.out BK720.out (by decide)) (fun _ hk => hk.2) (.string t714)) (fun _ hk => hk.2) (.slice Ao20 t715.length co20)) (fun _ h_ => by exact h_.1))) (Kd.R_base ho0) hb); have n1_ := Aside0.mk (Kd.R_lower (Kd.R_new' ho0 (Kd.R_lt (by (with_reducible repeat (first | apply Kd.R_alloc | apply Kd.R_drewN | apply Kd.R_drew )); exact (Kd.R_mono (Kd.R_far (p := ⟨gb720, 1, none⟩) (Kd.R_far (p := ⟨gb720, 0, none⟩) (Kd.R_types HO717.out BK720.out (by decide)) (fun _ hk => hk.2) (.string t714)) (fun _ hk => hk.2) (.slice Ao20 t715.length co20)) (fun _ h_ => by exact h_.1))))) (below_size (by repeat ((with_reducible first | exact HB.out | refine below_set ?_ GE720.out))))); have n2_ := Aside0.mk (blk_below (g := gb720) (o := .cells #[.string t714, .slice Ao20 t715.length co20] 26 (0, 0)) (by (with_reducible repeat (first | refine blk_drewN ?_ _ | refine blk_drew ?_ | refine blk_alloc ?_ _ )); refine blk_put (cs := #[.string t714, .slice none 0 0]) ?_ 1 _ rfl; (with_reducible repeat (first | refine blk_drewN ?_ _ | refine blk_drew ?_ | refine blk_alloc ?_ _ )); refine blk_put (cs := #[.string (⟨#[]⟩ : ByteArray), .slice none 0 0]) ?_ 0 _ rfl; (with_reducible repeat (first | refine blk_drewN ?_ _ | refine blk_drew ?_ | refine blk_alloc ?_ _ )); exact BK720.out) hb); have n3_ := Aside0.mk (below_step (by repeat ((with_reducible first | exact HB.out | refine below_set ?_ GE720.out))) hb); clear HO717; clear BK720; clear HB; have HO717 := n0_; have HO724 := n1_; have BK720 := n2_; have HB := n3_; clear n0_ n1_ n2_ n3_; (try clear hb); (try clear hb2); (try clear hk); (try clear hi); (try clear ho0)) | ((with_reducible refine gate_dst (N := 7) rfl ?_); refine box_event ?hg (N := 7) ?hd (cs := #[.string (⟨#[]⟩ : ByteArray), .slice none 0 0]) (t := 26) ?hr ?_; (case hd => rfl); (case hg => rfl); (case hr => (go_simp; done)); intro gb727 hg w22 hbox hb; have n0_ := Aside0.mk (Kd.R_below (by (with_reducible repeat (first | apply Kd.R_alloc | apply Kd.R_drewN | apply Kd.R_drew )); exact HO717.out) hb); have n1_ := Aside0.mk (Kd.R_below (by (with_reducible repeat (first | apply Kd.R_alloc | apply Kd.R_drewN | apply Kd.R_drew )); exact HO724.out) hb); have n2_ := Aside0.mk (blk_below (g := gb720) (o := .cells #[.string t714, .slice Ao20 t715.length co20] 26 (0, 0)) (by (with_reducible repeat (first | refine blk_drewN ?_ _ | refine blk_drew ?_ | refine blk_alloc ?_ _ )); exact BK720.out) hb); have n3_ := Aside0.mk (below_step (by repeat ((with_reducible exact HB.out))) hb); have n4_ := Aside0.mk (hbox); have n5_ := Aside0.mk ((by rw [hg]; exact (below_size (by repeat ((with_reducible exact HB.out)))) : w.heap.size ≤ gb727)); have n6_ := Aside0.mk ((by rw [hg]; exact (below_size (by repeat ((with_reducible exact HB.out)))) : w.heap.size ≤ gb727)); have n7_ := Aside0.mk ((by rw [hg]; exact Nat.ne_of_lt (blk_lt (g := gb720) (o := .cells #[.string t714, .slice Ao20 t715.length co20] 26 (0, 0)) (by (with_reducible repeat (first | refine blk_drewN ?_ _ | refine blk_drew ?_ | refine blk_alloc ?_ _ )); exact BK720.out)) : gb720 ≠ gb727)); have n8_ := Aside0.mk ((by rw [hg]; exact Nat.ne_of_gt (blk_lt (g := gb720) (o := .cells #[.string t714, .slice Ao20 t715.length co20] 26 (0, 0)) (by (with_reducible repeat (first | refine blk_drewN ?_ _ | refine blk_drew ?_ | refine blk_alloc ?_ _ )); exact BK720.out)) : gb727 ≠ gb720)); clear HO717; clear HO724; clear BK720; clear HB; have HO717 := n0_; have HO724 := n1_; have BK720 := n2_; have HB := n3_; have BK727 := n4_; have GW727 := n5_; have GE727 := n6_; have NB720_727 := n7_; have NB727_720 := n8_; clear n0_ n1_ n2_ n3_ n4_ n5_ n6_ n7_ n8_; clear hb hbox hg; have hnb23 := NB727_720.out; have hnc23 := NB720_727.out; have hcz24_0 : w22.cell? ⟨gb727, 0, none⟩ = some (.string (⟨#[]⟩ : ByteArray)) := (blk_cell BK727.out 0).trans rfl; have hcz24_1 : w22.cell? ⟨gb727, 1, none⟩ = some (.slice none 0 0) := (blk_cell BK727.out 1).trans rfl; have hfz24_0 := blk_frozen BK727.out 0; have hfz24_1 := blk_frozen BK727.out 1; obtain ⟨Ao25, co25, eo25⟩ := Kd.R_slice HO724.out; subst eo25) | ((with_reducible refine gate_callee (f := 41) rfl ?_); refine goesL_ (some 39) rfl rfl Tryd.func41 (by kernel_rfl) rfl #[.slice A0 l0.length c0] rfl (by (try simp only [List.map_toArray, List.map_cons, List.map_nil]); rfl) ?_; (with_reducible refine (spec_DrawHeadText.calls k _ _ l0 t728 t729 _ ?side1 ?side2 A8.out).mono ?_); (case side1 => exact Kd.C_below HR0.out (by repeat ((with_reducible first | exact HB.out | refine below_set ?_ GE727.out)))); (case side2 => exact HC0.out); rintro e w26 ⟨v730, rfl, ho0, hb⟩; refine ⟨_, rfl, ?_⟩; have n0_ := Aside0.mk (Kd.R_elder' (by (with_reducible repeat (first | apply Kd.R_alloc | apply Kd.R_drewN | apply Kd.R_drew )); exact (Kd.R_mono (Kd.R_far (p := ⟨gb727, 1, none⟩) (Kd.R_far (p := ⟨gb727, 0, none⟩) (Kd.R_types HO717.out BK727.out (by decide)) (fun _ hk => hk.2) (.string t721)) (fun _ hk => hk.2) (.slice Ao25 t722.length co25)) (fun _ h_ => by exact h_.1))) (Kd.R_base ho0) hb); have n1_ := Aside0.mk (Kd.R_elder' (by (with_reducible repeat (first | apply Kd.R_alloc | apply Kd.R_drewN | apply Kd.R_drew )); exact (Kd.R_mono (Kd.R_far (p := ⟨gb727, 1, none⟩) (Kd.R_far (p := ⟨gb727, 0, none⟩) (Kd.R_types HO724.out BK727.out (by decide)) (fun _ hk => hk.2) (.string t721)) (fun _ hk => hk.2) (.slice Ao25 t722.length co25)) (fun _ h_ => by exact h_.1))) (Kd.R_base ho0) hb); have n2_ := Aside0.mk (Kd.R_lower (Kd.R_new' (Kd.R_new' ho0 (Kd.R_lt (by (with_reducible repeat (first | apply Kd.R_alloc | apply Kd.R_drewN | apply Kd.R_drew )); exact (Kd.R_mono (Kd.R_far (p := ⟨gb727, 1, none⟩) (Kd.R_far (p := ⟨gb727, 0, none⟩) (Kd.R_types HO717.out BK727.out (by decide)) (fun _ hk => hk.2) (.string t721)) (fun _ hk => hk.2) (.slice Ao25 t722.length co25)) (fun _ h_ => by exact h_.1))))) (Kd.R_lt (by (with_reducible repeat (first | apply Kd.R_alloc | apply Kd.R_drewN | apply Kd.R_drew )); exact (Kd.R_mono (Kd.R_far (p := ⟨gb727, 1, none⟩) (Kd.R_far (p := ⟨gb727, 0, none⟩) (Kd.R_types HO724.out BK727.out (by decide)) (fun _ hk => hk.2) (.string t721)) (fun _ hk => hk.2) (.slice Ao25 t722.length co25)) (fun _ h_ => by exact h_.1))))) (below_size (by repeat ((with_reducible first | exact HB.out | refine below_set ?_ GE727.out))))); have n3_ := Aside0.mk (blk_below (g := gb720) (o := .cells #[.string t714, .slice Ao20 t715.length co20] 26 (0, 0)) (by (with_reducible repeat (first | refine blk_drewN ?_ _ | refine blk_drew ?_ | refine blk_alloc ?_ _ )); refine blk_far ?_ NB720_727.out _; (with_reducible repeat (first | refine blk_drewN ?_ _ | refine blk_drew ?_ | refine blk_alloc ?_ _ )); refine blk_far ?_ NB720_727.out _; (with_reducible repeat (first | refine blk_drewN ?_ _ | refine blk_drew ?_ | refine blk_alloc ?_ _ )); exact BK720.out) hb); have n4_ := Aside0.mk (blk_below (g := gb727) (o := .cells #[.string t721, .slice Ao25 t722.length co25] 26 (0, 0)) (by (with_reducible repeat (first | refine blk_drewN ?_ _ | refine blk_drew ?_ | refine blk_alloc ?_ _ )); refine blk_put (cs := #[.string t721, .slice none 0 0]) ?_ 1 _ rfl; (with_reducible repeat (first | refine blk_drewN ?_ _ | refine blk_drew ?_ | refine blk_alloc ?_ _ )); refine blk_put (cs := #[.string (⟨#[]⟩ : ByteArray), .slice none 0 0]) ?_ 0 _ rfl; (with_reducible repeat (first | refine blk_drewN ?_ _ | refine blk_drew ?_ | refine blk_alloc ?_ _ )); exact BK727.out) hb); have n5_ := Aside0.mk (below_step (by repeat ((with_reducible first | exact HB.out | refine below_set ?_ GE727.out))) hb); clear HO717; clear HO724; clear BK720; clear BK727; clear HB; have HO717 := n0_; have HO724 := n1_; have HO731 := n2_; have BK720 := n3_; have BK727 := n4_; have HB := n5_; clear n0_ n1_ n2_ n3_ n4_ n5_; (try clear hb); (try clear hb2); (try clear hk); (try clear hi); (try clear ho0)) | ((with_reducible refine gate_dst (N := 10) rfl ?_); refine box_event ?hg (N := 10) ?hd (cs := #[.string (⟨#[]⟩ : ByteArray), .slice none 0 0]) (t := 26) ?hr ?_; (case hd => rfl); (case hg => rfl); (case hr => (go_simp; done)); intro gb732 hg w27 hbox hb; have n0_ := Aside0.mk (Kd.R_below (by (with_reducible repeat (first | apply Kd.R_alloc | apply Kd.R_drewN | apply Kd.R_drew )); exact HO717.out) hb); have n1_ := Aside0.mk (Kd.R_below (by (with_reducible repeat (first | apply Kd.R_alloc | apply Kd.R_drewN | apply Kd.R_drew )); exact HO724.out) hb); have n2_ := Aside0.mk (Kd.R_below (by (with_reducible repeat (first | apply Kd.R_alloc | apply Kd.R_drewN | apply Kd.R_drew )); exact HO731.out) hb); have n3_ := Aside0.mk (blk_below (g := gb720) (o := .cells #[.string t714, .slice Ao20 t715.length co20] 26 (0, 0)) (by (with_reducible repeat (first | refine blk_drewN ?_ _ | refine blk_drew ?_ | refine blk_alloc ?_ _ )); exact BK720.out) hb); have n4_ := Aside0.mk (blk_below (g := gb727) (o := .cells #[.string t721, .slice Ao25 t722.length co25] 26 (0, 0)) (by (with_reducible repeat (first | refine blk_drewN ?_ _ | refine blk_drew ?_ | refine blk_alloc ?_ _ )); exact BK727.out) hb); have n5_ := Aside0.mk (below_step (by repeat ((with_reducible exact HB.out))) hb); have n6_ := Aside0.mk (hbox); have n7_ := Aside0.mk ((by rw [hg]; exact (below_size (by repeat ((with_reducible exact HB.out)))) : w.heap.size ≤ gb732)); have n8_ := Aside0.mk ((by rw [hg]; exact (below_size (by repeat ((with_reducible exact HB.out)))) : w.heap.size ≤ gb732)); have n9_ := Aside0.mk ((by rw [hg]; exact Nat.ne_of_lt (blk_lt (g := gb720) (o := .cells #[.string t714, .slice Ao20 t715.length co20] 26 (0, 0)) (by (with_reducible repeat (first | refine blk_drewN ?_ _ | refine blk_drew ?_ | refine blk_alloc ?_ _ )); exact BK720.out)) : gb720 ≠ gb732)); have n10_ := Aside0.mk ((by rw [hg]; exact Nat.ne_of_gt (blk_lt (g := gb720) (o := .cells #[.string t714, .slice Ao20 t715.length co20] 26 (0, 0)) (by (with_reducible repeat (first | refine blk_drewN ?_ _ | refine blk_drew ?_ | refine blk_alloc ?_ _ )); exact BK720.out)) : gb732 ≠ gb720)); have n11_ := Aside0.mk ((by rw [hg]; exact Nat.ne_of_lt (blk_lt (g := gb727) (o := .cells #[.string t721, .slice Ao25 t722.length co25] 26 (0, 0)) (by (with_reducible repeat (first | refine blk_drewN ?_ _ | refine blk_drew ?_ | refine blk_alloc ?_ _ )); exact BK727.out)) : gb727 ≠ gb732)); have n12_ := Aside0.mk ((by rw [hg]; exact Nat.ne_of_gt (blk_lt (g := gb727) (o := .cells #[.string t721, .slice Ao25 t722.length co25] 26 (0, 0)) (by (with_reducible repeat (first | refine blk_drewN ?_ _ | refine blk_drew ?_ | refine blk_alloc ?_ _ )); exact BK727.out)) : gb732 ≠ gb727)); clear HO717; clear HO724; clear HO731; clear BK720; clear BK727; clear HB; have HO717 := n0_; have HO724 := n1_; have HO731 := n2_; have BK720 := n3_; have BK727 := n4_; have HB := n5_; have BK732 := n6_; have GW732 := n7_; have GE732 := n8_; have NB720_732 := n9_; have NB732_720 := n10_; have NB727_732 := n11_; have NB732_727 := n12_; clear n0_ n1_ n2_ n3_ n4_ n5_ n6_ n7_ n8_ n9_ n10_ n11_ n12_; clear hb hbox hg; have hnb28 := NB732_720.out; have hnc28 := NB720_732.out; have hnb29 := NB732_727.out; have hnc29 := NB727_732.out; have hcz30_0 : w27.cell? ⟨gb732, 0, none⟩ = some (.string (⟨#[]⟩ : ByteArray)) := (blk_cell BK732.out 0).trans rfl; have hcz30_1 : w27.cell? ⟨gb732, 1, none⟩ = some (.slice none 0 0) := (blk_cell BK732.out 1).trans rfl; have hfz30_0 := blk_frozen BK732.out 0; have hfz30_1 := blk_frozen BK732.out 1; obtain ⟨Ao31, co31, eo31⟩ := Kd.R_slice HO731.out; subst eo31) | ((with_reducible refine gate_callee (f := 15) rfl ?_); refine goesL_ (some 42) rfl rfl Tryd.func15 (by kernel_rfl) rfl #[.agg #[.string t728, .slice Ao31 t729.length co31]] rfl (by (try simp only [List.map_toArray, List.map_cons, List.map_nil]); rfl) ?_; (with_reducible refine (impl_HeadText.calls k t728 _ _ t729 t733 t734 _ ?side1 ?side2 A9.out).mono ?_); (case side1 => refine (Kd.R_reads' (e := 40) (base := w.heap.size) (ok := fun k_ => ((True ∧ some k_ ≠ (.slice Ao20 t715.length co20 : Value).ownBlock) ∧ some k_ ≠ (.slice Ao25 t722.length co25 : Value).ownBlock)) (n := t729.length) (c := co31) ?_).2.2; exact (by (with_reducible repeat (first | apply Kd.R_alloc | apply Kd.R_drewN | apply Kd.R_drew )); exact (Kd.R_mono (Kd.R_far (p := ⟨gb732, 1, none⟩) (Kd.R_far (p := ⟨gb732, 0, none⟩) (Kd.R_types HO731.out BK732.out (by decide)) (fun _ hk => hk.2) (.string t728)) (fun _ hk => hk.2) (.slice Ao31 t729.length co31)) (fun _ h_ => by exact h_.1)))); (case side2 => exact (Kd.R_reads' HO731.out).2.1); rintro e w32 ⟨rfl, hb⟩; refine ⟨_, rfl, ?_⟩; have n0_ := Aside0.mk (Kd.R_below (by (with_reducible repeat (first | apply Kd.R_alloc | apply Kd.R_drewN | apply Kd.R_drew )); exact (Kd.R_mono (Kd.R_far (p := ⟨gb732, 1, none⟩) (Kd.R_far (p := ⟨gb732, 0, none⟩) (Kd.R_types HO717.out BK732.out (by decide)) (fun _ hk => hk.2) (.string t728)) (fun _ hk => hk.2) (.slice Ao31 t729.length co31)) (fun _ h_ => by exact h_.1))) hb); have n1_ := Aside0.mk (Kd.R_below (by (with_reducible repeat (first | apply Kd.R_alloc | apply Kd.R_drewN | apply Kd.R_drew )); exact (Kd.R_mono (Kd.R_far (p := ⟨gb732, 1, none⟩) (Kd.R_far (p := ⟨gb732, 0, none⟩) (Kd.R_types HO724.out BK732.out (by decide)) (fun _ hk => hk.2) (.string t728)) (fun _ hk => hk.2) (.slice Ao31 t729.length co31)) (fun _ h_ => by exact h_.1))) hb); have n2_ := Aside0.mk (Kd.R_below (by (with_reducible repeat (first | apply Kd.R_alloc | apply Kd.R_drewN | apply Kd.R_drew )); exact (Kd.R_mono (Kd.R_far (p := ⟨gb732, 1, none⟩) (Kd.R_far (p := ⟨gb732, 0, none⟩) (Kd.R_types HO731.out BK732.out (by decide)) (fun _ hk => hk.2) (.string t728)) (fun _ hk => hk.2) (.slice Ao31 t729.length co31)) (fun _ h_ => by exact h_.1))) hb); have n3_ := Aside0.mk (blk_below (g := gb720) (o := .cells #[.string t714, .slice Ao20 t715.length co20] 26 (0, 0)) (by (with_reducible repeat (first | refine blk_drewN ?_ _ | refine blk_drew ?_ | refine blk_alloc ?_ _ )); refine blk_far ?_ NB720_732.out _; (with_reducible repeat (first | refine blk_drewN ?_ _ | refine blk_drew ?_ | refine blk_alloc ?_ _ )); refine blk_far ?_ NB720_732.out _; (with_reducible repeat (first | refine blk_drewN ?_ _ | refine blk_drew ?_ | refine blk_alloc ?_ _ )); exact BK720.out) hb); have n4_ := Aside0.mk (blk_below (g := gb727) (o := .cells #[.string t721, .slice Ao25 t722.length co25] 26 (0, 0)) (by (with_reducible repeat (first | refine blk_drewN ?_ _ | refine blk_drew ?_ | refine blk_alloc ?_ _ )); refine blk_far ?_ NB727_732.out _; (with_reducible repeat (first | refine blk_drewN ?_ _ | refine blk_drew ?_ | refine blk_alloc ?_ _ )); refine blk_far ?_ NB727_732.out _; (with_reducible repeat (first | refine blk_drewN ?_ _ | refine blk_drew ?_ | refine blk_alloc ?_ _ )); exact BK727.out) hb); have n5_ := Aside0.mk (blk_below (g := gb732) (o := .cells #[.string t728, .slice Ao31 t729.length co31] 26 (0, 0)) (by (with_reducible repeat (first | refine blk_drewN ?_ _ | refine blk_drew ?_ | refine blk_alloc ?_ _ )); refine blk_put (cs := #[.string t728, .slice none 0 0]) ?_ 1 _ rfl; (with_reducible repeat (first | refine blk_drewN ?_ _ | refine blk_drew ?_ | refine blk_alloc ?_ _ )); refine blk_put (cs := #[.string (⟨#[]⟩ : ByteArray), .slice none 0 0]) ?_ 0 _ rfl; (with_reducible repeat (first | refine blk_drewN ?_ _ | refine blk_drew ?_ | refine blk_alloc ?_ _ )); exact BK732.out) hb); have n6_ := Aside0.mk (below_step (by repeat ((with_reducible first | exact HB.out | refine below_set ?_ GE732.out))) hb); clear HO717; clear HO724; clear HO731; clear BK720; clear BK727; clear BK732; clear HB; have HO717 := n0_; have HO724 := n1_; have HO731 := n2_; have BK720 := n3_; have BK727 := n4_; have BK732 := n5_; have HB := n6_; clear n0_ n1_ n2_ n3_ n4_ n5_ n6_; (try clear hb); (try clear hb2); (try clear hk); (try clear hi); have hcz33_0 : w32.cell? ⟨gb732, 0, none⟩ = some (.string t728) := (blk_cell BK732.out 0).trans rfl; have hcz33_1 : w32.cell? ⟨gb732, 1, none⟩ = some (.slice Ao31 t729.length co31) := (blk_cell BK732.out 1).trans rfl; have hfz33_0 := blk_frozen BK732.out 0; have hfz33_1 := blk_frozen BK732.out 1) | ((with_reducible refine gate_callee (f := 28) rfl ?_); refine goesL_ (some 47) rfl rfl Tryd.func28 (by kernel_rfl) rfl #[.agg #[.string t728, .slice Ao31 t729.length co31]] rfl (by (try simp only [List.map_toArray, List.map_cons, List.map_nil]); rfl) ?_; (with_reducible refine (spec_HeadText.calls k t728 _ _ t729 t735 t736 _ ?side1 ?side2 A10.out).mono ?_); (case side1 => repeat (exact (Kd.R_reads' HO731.out).2.2)); (case side2 => exact (Kd.R_reads' HO731.out).2.1); rintro e w34 ⟨rfl, hb⟩; refine ⟨_, rfl, ?_⟩; have n0_ := Aside0.mk (Kd.R_below (by (with_reducible repeat (first | apply Kd.R_alloc | apply Kd.R_drewN | apply Kd.R_drew )); exact HO717.out) hb); have n1_ := Aside0.mk (Kd.R_below (by (with_reducible repeat (first | apply Kd.R_alloc | apply Kd.R_drewN | apply Kd.R_drew )); exact HO724.out) hb); have n2_ := Aside0.mk (Kd.R_below (by (with_reducible repeat (first | apply Kd.R_alloc | apply Kd.R_drewN | apply Kd.R_drew )); exact HO731.out) hb); have n3_ := Aside0.mk (blk_below (g := gb720) (o := .cells #[.string t714, .slice Ao20 t715.length co20] 26 (0, 0)) (by (with_reducible repeat (first | refine blk_drewN ?_ _ | refine blk_drew ?_ | refine blk_alloc ?_ _ )); exact BK720.out) hb); have n4_ := Aside0.mk (blk_below (g := gb727) (o := .cells #[.string t721, .slice Ao25 t722.length co25] 26 (0, 0)) (by (with_reducible repeat (first | refine blk_drewN ?_ _ | refine blk_drew ?_ | refine blk_alloc ?_ _ )); exact BK727.out) hb); have n5_ := Aside0.mk (blk_below (g := gb732) (o := .cells #[.string t728, .slice Ao31 t729.length co31] 26 (0, 0)) (by (with_reducible repeat (first | refine blk_drewN ?_ _ | refine blk_drew ?_ | refine blk_alloc ?_ _ )); exact BK732.out) hb); have n6_ := Aside0.mk (below_step (by repeat ((with_reducible exact HB.out))) hb); clear HO717; clear HO724; clear HO731; clear BK720; clear BK727; clear BK732; clear HB; have HO717 := n0_; have HO724 := n1_; have HO731 := n2_; have BK720 := n3_; have BK727 := n4_; have BK732 := n5_; have HB := n6_; clear n0_ n1_ n2_ n3_ n4_ n5_ n6_; (try clear hb); (try clear hb2); (try clear hk); (try clear hi)) | ((with_reducible refine gate_callee (f := 42) rfl ?_); refine goesL_ (some 51) rfl rfl Tryd.func42 (by kernel_rfl) rfl #[.slice A0 l0.length c0] rfl (by (try simp only [List.map_toArray, List.map_cons, List.map_nil]); rfl) ?_; (with_reducible refine (spec_DrawFieldOk.calls k _ _ l0 t737 t738 _ ?side1 ?side2 A11.out).mono ?_); (case side1 => repeat (exact (Kd.C_below HR0.out HB.out))); (case side2 => exact HC0.out); rintro e w35 ⟨rfl, hb⟩; refine ⟨_, rfl, ?_⟩; have n0_ := Aside0.mk (Kd.R_below (by (with_reducible repeat (first | apply Kd.R_alloc | apply Kd.R_drewN | apply Kd.R_drew )); exact HO717.out) hb); have n1_ := Aside0.mk (Kd.R_below (by (with_reducible repeat (first | apply Kd.R_alloc | apply Kd.R_drewN | apply Kd.R_drew )); exact HO724.out) hb); have n2_ := Aside0.mk (Kd.R_below (by (with_reducible repeat (first | apply Kd.R_alloc | apply Kd.R_drewN | apply Kd.R_drew )); exact HO731.out) hb); have n3_ := Aside0.mk (blk_below (g := gb720) (o := .cells #[.string t714, .slice Ao20 t715.length co20] 26 (0, 0)) (by (with_reducible repeat (first | refine blk_drewN ?_ _ | refine blk_drew ?_ | refine blk_alloc ?_ _ )); exact BK720.out) hb); have n4_ := Aside0.mk (blk_below (g := gb727) (o := .cells #[.string t721, .slice Ao25 t722.length co25] 26 (0, 0)) (by (with_reducible repeat (first | refine blk_drewN ?_ _ | refine blk_drew ?_ | refine blk_alloc ?_ _ )); exact BK727.out) hb); have n5_ := Aside0.mk (blk_below (g := gb732) (o := .cells #[.string t728, .slice Ao31 t729.length co31] 26 (0, 0)) (by (with_reducible repeat (first | refine blk_drewN ?_ _ | refine blk_drew ?_ | refine blk_alloc ?_ _ )); exact BK732.out) hb); have n6_ := Aside0.mk (below_step (by repeat ((with_reducible exact HB.out))) hb); clear HO717; clear HO724; clear HO731; clear BK720; clear BK727; clear BK732; clear HB; have HO717 := n0_; have HO724 := n1_; have HO731 := n2_; have BK720 := n3_; have BK727 := n4_; have BK732 := n5_; have HB := n6_; clear n0_ n1_ n2_ n3_ n4_ n5_ n6_; (try clear hb); (try clear hb2); (try clear hk); (try clear hi)) | ((with_reducible refine gate_dst (N := 15) rfl ?_); refine box_event ?hg (N := 15) ?hd (cs := #[.string (⟨#[]⟩ : ByteArray), .string (⟨#[]⟩ : ByteArray)]) (t := 40) ?hr ?_; (case hd => rfl); (case hg => rfl); (case hr => (go_simp; done)); intro gb739 hg w36 hbox hb; have n0_ := Aside0.mk (Kd.R_below (Kd.R_elderB (by (with_reducible repeat (first | apply Kd.R_alloc | apply Kd.R_drewN | apply Kd.R_drew )); exact HO717.out) gb739 (Nat.le_of_eq hg.symm)) hb); have n1_ := Aside0.mk (Kd.R_below (Kd.R_elderB (by (with_reducible repeat (first | apply Kd.R_alloc | apply Kd.R_drewN | apply Kd.R_drew )); exact HO724.out) gb739 (Nat.le_of_eq hg.symm)) hb); have n2_ := Aside0.mk (Kd.R_below (Kd.R_elderB (by (with_reducible repeat (first | apply Kd.R_alloc | apply Kd.R_drewN | apply Kd.R_drew )); exact HO731.out) gb739 (Nat.le_of_eq hg.symm)) hb); have n3_ := Aside0.mk (blk_below (g := gb720) (o := .cells #[.string t714, .slice Ao20 t715.length co20] 26 (0, 0)) (by (with_reducible repeat (first | refine blk_drewN ?_ _ | refine blk_drew ?_ | refine blk_alloc ?_ _ )); exact BK720.out) hb); have n4_ := Aside0.mk (blk_below (g := gb727) (o := .cells #[.string t721, .slice Ao25 t722.length co25] 26 (0, 0)) (by (with_reducible repeat (first | refine blk_drewN ?_ _ | refine blk_drew ?_ | refine blk_alloc ?_ _ )); exact BK727.out) hb); have n5_ := Aside0.mk (blk_below (g := gb732) (o := .cells #[.string t728, .slice Ao31 t729.length co31] 26 (0, 0)) (by (with_reducible repeat (first | refine blk_drewN ?_ _ | refine blk_drew ?_ | refine blk_alloc ?_ _ )); exact BK732.out) hb); have n6_ := Aside0.mk (below_step (by repeat ((with_reducible exact HB.out))) hb); have n7_ := Aside0.mk (hbox); have n8_ := Aside0.mk ((by rw [hg]; exact (below_size (by repeat ((with_reducible exact HB.out)))) : w.heap.size ≤ gb739)); have n9_ := Aside0.mk ((by rw [hg]; exact (below_size (by repeat ((with_reducible exact HB.out)))) : w.heap.size ≤ gb739)); have n10_ := Aside0.mk ((by rw [hg]; exact Nat.ne_of_lt (blk_lt (g := gb720) (o := .cells #[.string t714, .slice Ao20 t715.length co20] 26 (0, 0)) (by (with_reducible repeat (first | refine blk_drewN ?_ _ | refine blk_drew ?_ | refine blk_alloc ?_ _ )); exact BK720.out)) : gb720 ≠ gb739)); have n11_ := Aside0.mk ((by rw [hg]; exact Nat.ne_of_gt (blk_lt (g := gb720) (o := .cells #[.string t714, .slice Ao20 t715.length co20] 26 (0, 0)) (by (with_reducible repeat (first | refine blk_drewN ?_ _ | refine blk_drew ?_ | refine blk_alloc ?_ _ )); exact BK720.out)) : gb739 ≠ gb720)); have n12_ := Aside0.mk ((by rw [hg]; exact Nat.ne_of_lt (blk_lt (g := gb727) (o := .cells #[.string t721, .slice Ao25 t722.length co25] 26 (0, 0)) (by (with_reducible repeat (first | refine blk_drewN ?_ _ | refine blk_drew ?_ | refine blk_alloc ?_ _ )); exact BK727.out)) : gb727 ≠ gb739)); have n13_ := Aside0.mk ((by rw [hg]; exact Nat.ne_of_gt (blk_lt (g := gb727) (o := .cells #[.string t721, .slice Ao25 t722.length co25] 26 (0, 0)) (by (with_reducible repeat (first | refine blk_drewN ?_ _ | refine blk_drew ?_ | refine blk_alloc ?_ _ )); exact BK727.out)) : gb739 ≠ gb727)); have n14_ := Aside0.mk ((by rw [hg]; exact Nat.ne_of_lt (blk_lt (g := gb732) (o := .cells #[.string t728, .slice Ao31 t729.length co31] 26 (0, 0)) (by (with_reducible repeat (first | refine blk_drewN ?_ _ | refine blk_drew ?_ | refine blk_alloc ?_ _ )); exact BK732.out)) : gb732 ≠ gb739)); have n15_ := Aside0.mk ((by rw [hg]; exact Nat.ne_of_gt (blk_lt (g := gb732) (o := .cells #[.string t728, .slice Ao31 t729.length co31] 26 (0, 0)) (by (with_reducible repeat (first | refine blk_drewN ?_ _ | refine blk_drew ?_ | refine blk_alloc ?_ _ )); exact BK732.out)) : gb739 ≠ gb732)); clear HO717; clear HO724; clear HO731; clear BK720; clear BK727; clear BK732; clear HB; have HO717 := n0_; have HO724 := n1_; have HO731 := n2_; have BK720 := n3_; have BK727 := n4_; have BK732 := n5_; have HB := n6_; have BK739 := n7_; have GW739 := n8_; have GE739 := n9_; have NB720_739 := n10_; have NB739_720 := n11_; have NB727_739 := n12_; have NB739_727 := n13_; have NB732_739 := n14_; have NB739_732 := n15_; clear n0_ n1_ n2_ n3_ n4_ n5_ n6_ n7_ n8_ n9_ n10_ n11_ n12_ n13_ n14_ n15_; clear hb hbox hg; have hnb37 := NB739_720.out; have hnc37 := NB720_739.out; have hnb38 := NB739_727.out; have hnc38 := NB727_739.out; have hnb39 := NB739_732.out; have hnc39 := NB732_739.out; have hcz40_0 : w36.cell? ⟨gb739, 0, none⟩ = some (.string (⟨#[]⟩ : ByteArray)) := (blk_cell BK739.out 0).trans rfl; have hcz40_1 : w36.cell? ⟨gb739, 1, none⟩ = some (.string (⟨#[]⟩ : ByteArray)) := (blk_cell BK739.out 1).trans rfl; have hfz40_0 := blk_frozen BK739.out 0; have hfz40_1 := blk_frozen BK739.out 1) | ((with_reducible refine gate_callee (f := 43) rfl ?_); refine goesL_ (some 54) rfl rfl Tryd.func43 (by kernel_rfl) rfl #[.slice A0 l0.length c0] rfl (by (try simp only [List.map_toArray, List.map_cons, List.map_nil]); rfl) ?_; (with_reducible refine (spec_DrawFieldOf.calls k _ _ l0 t740 t741 t744 _ ?side1 ?side2 A12.out).mono ?_); (case side1 => exact Kd.C_below HR0.out (by repeat ((with_reducible first | exact HB.out | refine below_set ?_ GE739.out)))); (case side2 => exact HC0.out); rintro e w41 ⟨v742, rfl, ho0, hb⟩; refine ⟨_, rfl, ?_⟩; have n0_ := Aside0.mk (Kd.R_elder' (by (with_reducible repeat (first | apply Kd.R_alloc | apply Kd.R_drewN | apply Kd.R_drew )); exact (Kd.R_mono (Kd.R_far (p := ⟨gb739, 1, none⟩) (Kd.R_far (p := ⟨gb739, 0, none⟩) (Kd.R_mono HO717.out (fun k_ hk => (⟨hk, hk.2⟩ : _ ∧ k_ ≠ gb739))) (fun _ hk => hk.2) (.string t737)) (fun _ hk => hk.2) (.string t738)) (fun _ h_ => by exact h_.1))) (Kd.R_base ho0) hb); have n1_ := Aside0.mk (Kd.R_elder' (by (with_reducible repeat (first | apply Kd.R_alloc | apply Kd.R_drewN | apply Kd.R_drew )); exact (Kd.R_mono (Kd.R_far (p := ⟨gb739, 1, none⟩) (Kd.R_far (p := ⟨gb739, 0, none⟩) (Kd.R_mono HO724.out (fun k_ hk => (⟨hk, hk.2⟩ : _ ∧ k_ ≠ gb739))) (fun _ hk => hk.2) (.string t737)) (fun _ hk => hk.2) (.string t738)) (fun _ h_ => by exact h_.1))) (Kd.R_base ho0) hb); have n2_ := Aside0.mk (Kd.R_elder' (by (with_reducible repeat (first | apply Kd.R_alloc | apply Kd.R_drewN | apply Kd.R_drew )); exact (Kd.R_mono (Kd.R_far (p := ⟨gb739, 1, none⟩) (Kd.R_far (p := ⟨gb739, 0, none⟩) (Kd.R_mono HO731.out (fun k_ hk => (⟨hk, hk.2⟩ : _ ∧ k_ ≠ gb739))) (fun _ hk => hk.2) (.string t737)) (fun _ hk => hk.2) (.string t738)) (fun _ h_ => by exact h_.1))) (Kd.R_base ho0) hb); have n3_ := Aside0.mk (Kd.R_lower (Kd.R_newB (Kd.R_new' (Kd.R_new' (Kd.R_new' ho0 (Kd.R_lt (by (with_reducible repeat (first | apply Kd.R_alloc | apply Kd.R_drewN | apply Kd.R_drew )); exact (Kd.R_mono (Kd.R_far (p := ⟨gb739, 1, none⟩) (Kd.R_far (p := ⟨gb739, 0, none⟩) (Kd.R_mono HO717.out (fun k_ hk => (⟨hk, hk.2⟩ : _ ∧ k_ ≠ gb739))) (fun _ hk => hk.2) (.string t737)) (fun _ hk => hk.2) (.string t738)) (fun _ h_ => by exact h_.1))))) (Kd.R_lt (by (with_reducible repeat (first | apply Kd.R_alloc | apply Kd.R_drewN | apply Kd.R_drew )); exact (Kd.R_mono (Kd.R_far (p := ⟨gb739, 1, none⟩) (Kd.R_far (p := ⟨gb739, 0, none⟩) (Kd.R_mono HO724.out (fun k_ hk => (⟨hk, hk.2⟩ : _ ∧ k_ ≠ gb739))) (fun _ hk => hk.2) (.string t737)) (fun _ hk => hk.2) (.string t738)) (fun _ h_ => by exact h_.1))))) (Kd.R_lt (by (with_reducible repeat (first | apply Kd.R_alloc | apply Kd.R_drewN | apply Kd.R_drew )); exact (Kd.R_mono (Kd.R_far (p := ⟨gb739, 1, none⟩) (Kd.R_far (p := ⟨gb739, 0, none⟩) (Kd.R_mono HO731.out (fun k_ hk => (⟨hk, hk.2⟩ : _ ∧ k_ ≠ gb739))) (fun _ hk => hk.2) (.string t737)) (fun _ hk => hk.2) (.string t738)) (fun _ h_ => by exact h_.1))))) (g := gb739) (o := .cells #[.string t737, .string t738] 40 (0, 0)) (by (with_reducible repeat (first | refine blk_drewN ?_ _ | refine blk_drew ?_ | refine blk_alloc ?_ _ )); refine blk_put (cs := #[.string t737, .string (⟨#[]⟩ : ByteArray)]) ?_ 1 _ rfl; (with_reducible repeat (first | refine blk_drewN ?_ _ | refine blk_drew ?_ | refine blk_alloc ?_ _ )); refine blk_put (cs := #[.string (⟨#[]⟩ : ByteArray), .string (⟨#[]⟩ : ByteArray)]) ?_ 0 _ rfl; (with_reducible repeat (first | refine blk_drewN ?_ _ | refine blk_drew ?_ | refine blk_alloc ?_ _ )); exact BK739.out)) (below_size (by repeat ((with_reducible first | exact HB.out | refine below_set ?_ GE739.out))))); have n4_ := Aside0.mk (blk_below (g := gb720) (o := .cells #[.string t714, .slice Ao20 t715.length co20] 26 (0, 0)) (by (with_reducible repeat (first | refine blk_drewN ?_ _ | refine blk_drew ?_ | refine blk_alloc ?_ _ )); refine blk_far ?_ NB720_739.out _; (with_reducible repeat (first | refine blk_drewN ?_ _ | refine blk_drew ?_ | refine blk_alloc ?_ _ )); refine blk_far ?_ NB720_739.out _; (with_reducible repeat (first | refine blk_drewN ?_ _ | refine blk_drew ?_ | refine blk_alloc ?_ _ )); exact BK720.out) hb); have n5_ := Aside0.mk (blk_below (g := gb727) (o := .cells #[.string t721, .slice Ao25 t722.length co25] 26 (0, 0)) (by (with_reducible repeat (first | refine blk_drewN ?_ _ | refine blk_drew ?_ | refine blk_alloc ?_ _ )); refine blk_far ?_ NB727_739.out _; (with_reducible repeat (first | refine blk_drewN ?_ _ | refine blk_drew ?_ | refine blk_alloc ?_ _ )); refine blk_far ?_ NB727_739.out _; (with_reducible repeat (first | refine blk_drewN ?_ _ | refine blk_drew ?_ | refine blk_alloc ?_ _ )); exact BK727.out) hb); have n6_ := Aside0.mk (blk_below (g := gb732) (o := .cells #[.string t728, .slice Ao31 t729.length co31] 26 (0, 0)) (by (with_reducible repeat (first | refine blk_drewN ?_ _ | refine blk_drew ?_ | refine blk_alloc ?_ _ )); refine blk_far ?_ NB732_739.out _; (with_reducible repeat (first | refine blk_drewN ?_ _ | refine blk_drew ?_ | refine blk_alloc ?_ _ )); refine blk_far ?_ NB732_739.out _; (with_reducible repeat (first | refine blk_drewN ?_ _ | refine blk_drew ?_ | refine blk_alloc ?_ _ )); exact BK732.out) hb); have n7_ := Aside0.mk (blk_below (g := gb739) (o := .cells #[.string t737, .string t738] 40 (0, 0)) (by (with_reducible repeat (first | refine blk_drewN ?_ _ | refine blk_drew ?_ | refine blk_alloc ?_ _ )); refine blk_put (cs := #[.string t737, .string (⟨#[]⟩ : ByteArray)]) ?_ 1 _ rfl; (with_reducible repeat (first | refine blk_drewN ?_ _ | refine blk_drew ?_ | refine blk_alloc ?_ _ )); refine blk_put (cs := #[.string (⟨#[]⟩ : ByteArray), .string (⟨#[]⟩ : ByteArray)]) ?_ 0 _ rfl; (with_reducible repeat (first | refine blk_drewN ?_ _ | refine blk_drew ?_ | refine blk_alloc ?_ _ )); exact BK739.out) hb); have n8_ := Aside0.mk (below_step (by repeat ((with_reducible first | exact HB.out | refine below_set ?_ GE739.out))) hb); clear HO717; clear HO724; clear HO731; clear BK720; clear BK727; clear BK732; clear BK739; clear HB; have HO717 := n0_; have HO724 := n1_; have HO731 := n2_; have HO743 := n3_; have BK720 := n4_; have BK727 := n5_; have BK732 := n6_; have BK739 := n7_; have HB := n8_; clear n0_ n1_ n2_ n3_ n4_ n5_ n6_ n7_ n8_; (try clear hb); (try clear hb2); (try clear hk); (try clear hi); (try clear ho0)) | ((with_reducible refine gate_dst (N := 16) rfl ?_); refine box_event ?hg (N := 16) ?hd (cs := #[.string (⟨#[]⟩ : ByteArray), .slice none 0 0]) (t := 26) ?hr ?_; (case hd => rfl); (case hg => rfl); (case hr => (go_simp; done)); intro gb745 hg w42 hbox hb; have n0_ := Aside0.mk (Kd.R_below (by (with_reducible repeat (first | apply Kd.R_alloc | apply Kd.R_drewN | apply Kd.R_drew )); exact HO717.out) hb); have n1_ := Aside0.mk (Kd.R_below (by (with_reducible repeat (first | apply Kd.R_alloc | apply Kd.R_drewN | apply Kd.R_drew )); exact HO724.out) hb); have n2_ := Aside0.mk (Kd.R_below (by (with_reducible repeat (first | apply Kd.R_alloc | apply Kd.R_drewN | apply Kd.R_drew )); exact HO731.out) hb); have n3_ := Aside0.mk (Kd.R_below (by (with_reducible repeat (first | apply Kd.R_alloc | apply Kd.R_drewN | apply Kd.R_drew )); exact HO743.out) hb); have n4_ := Aside0.mk (blk_below (g := gb720) (o := .cells #[.string t714, .slice Ao20 t715.length co20] 26 (0, 0)) (by (with_reducible repeat (first | refine blk_drewN ?_ _ | refine blk_drew ?_ | refine blk_alloc ?_ _ )); exact BK720.out) hb); have n5_ := Aside0.mk (blk_below (g := gb727) (o := .cells #[.string t721, .slice Ao25 t722.length co25] 26 (0, 0)) (by (with_reducible repeat (first | refine blk_drewN ?_ _ | refine blk_drew ?_ | refine blk_alloc ?_ _ )); exact BK727.out) hb); have n6_ := Aside0.mk (blk_below (g := gb732) (o := .cells #[.string t728, .slice Ao31 t729.length co31] 26 (0, 0)) (by (with_reducible repeat (first | refine blk_drewN ?_ _ | refine blk_drew ?_ | refine blk_alloc ?_ _ )); exact BK732.out) hb); have n7_ := Aside0.mk (blk_below (g := gb739) (o := .cells #[.string t737, .string t738] 40 (0, 0)) (by (with_reducible repeat (first | refine blk_drewN ?_ _ | refine blk_drew ?_ | refine blk_alloc ?_ _ )); exact BK739.out) hb); have n8_ := Aside0.mk (below_step (by repeat ((with_reducible exact HB.out))) hb); have n9_ := Aside0.mk (hbox); have n10_ := Aside0.mk ((by rw [hg]; exact (below_size (by repeat ((with_reducible exact HB.out)))) : w.heap.size ≤ gb745)); have n11_ := Aside0.mk ((by rw [hg]; exact (below_size (by repeat ((with_reducible exact HB.out)))) : w.heap.size ≤ gb745)); have n12_ := Aside0.mk ((by rw [hg]; exact Nat.ne_of_lt (blk_lt (g := gb720) (o := .cells #[.string t714, .slice Ao20 t715.length co20] 26 (0, 0)) (by (with_reducible repeat (first | refine blk_drewN ?_ _ | refine blk_drew ?_ | refine blk_alloc ?_ _ )); exact BK720.out)) : gb720 ≠ gb745)); have n13_ := Aside0.mk ((by rw [hg]; exact Nat.ne_of_gt (blk_lt (g := gb720) (o := .cells #[.string t714, .slice Ao20 t715.length co20] 26 (0, 0)) (by (with_reducible repeat (first | refine blk_drewN ?_ _ | refine blk_drew ?_ | refine blk_alloc ?_ _ )); exact BK720.out)) : gb745 ≠ gb720)); have n14_ := Aside0.mk ((by rw [hg]; exact Nat.ne_of_lt (blk_lt (g := gb727) (o := .cells #[.string t721, .slice Ao25 t722.length co25] 26 (0, 0)) (by (with_reducible repeat (first | refine blk_drewN ?_ _ | refine blk_drew ?_ | refine blk_alloc ?_ _ )); exact BK727.out)) : gb727 ≠ gb745)); have n15_ := Aside0.mk ((by rw [hg]; exact Nat.ne_of_gt (blk_lt (g := gb727) (o := .cells #[.string t721, .slice Ao25 t722.length co25] 26 (0, 0)) (by (with_reducible repeat (first | refine blk_drewN ?_ _ | refine blk_drew ?_ | refine blk_alloc ?_ _ )); exact BK727.out)) : gb745 ≠ gb727)); have n16_ := Aside0.mk ((by rw [hg]; exact Nat.ne_of_lt (blk_lt (g := gb732) (o := .cells #[.string t728, .slice Ao31 t729.length co31] 26 (0, 0)) (by (with_reducible repeat (first | refine blk_drewN ?_ _ | refine blk_drew ?_ | refine blk_alloc ?_ _ )); exact BK732.out)) : gb732 ≠ gb745)); have n17_ := Aside0.mk ((by rw [hg]; exact Nat.ne_of_gt (blk_lt (g := gb732) (o := .cells #[.string t728, .slice Ao31 t729.length co31] 26 (0, 0)) (by (with_reducible repeat (first | refine blk_drewN ?_ _ | refine blk_drew ?_ | refine blk_alloc ?_ _ )); exact BK732.out)) : gb745 ≠ gb732)); have n18_ := Aside0.mk ((by rw [hg]; exact Nat.ne_of_lt (blk_lt (g := gb739) (o := .cells #[.string t737, .string t738] 40 (0, 0)) (by (with_reducible repeat (first | refine blk_drewN ?_ _ | refine blk_drew ?_ | refine blk_alloc ?_ _ )); exact BK739.out)) : gb739 ≠ gb745)); have n19_ := Aside0.mk ((by rw [hg]; exact Nat.ne_of_gt (blk_lt (g := gb739) (o := .cells #[.string t737, .string t738] 40 (0, 0)) (by (with_reducible repeat (first | refine blk_drewN ?_ _ | refine blk_drew ?_ | refine blk_alloc ?_ _ )); exact BK739.out)) : gb745 ≠ gb739)); clear HO717; clear HO724; clear HO731; clear HO743; clear BK720; clear BK727; clear BK732; clear BK739; clear HB; have HO717 := n0_; have HO724 := n1_; have HO731 := n2_; have HO743 := n3_; have BK720 := n4_; have BK727 := n5_; have BK732 := n6_; have BK739 := n7_; have HB := n8_; have BK745 := n9_; have GW745 := n10_; have GE745 := n11_; have NB720_745 := n12_; have NB745_720 := n13_; have NB727_745 := n14_; have NB745_727 := n15_; have NB732_745 := n16_; have NB745_732 := n17_; have NB739_745 := n18_; have NB745_739 := n19_; clear n0_ n1_ n2_ n3_ n4_ n5_ n6_ n7_ n8_ n9_ n10_ n11_ n12_ n13_ n14_ n15_ n16_ n17_ n18_ n19_; clear hb hbox hg; have hnb43 := NB745_720.out; have hnc43 := NB720_745.out; have hnb44 := NB745_727.out; have hnc44 := NB727_745.out; have hnb45 := NB745_732.out; have hnc45 := NB732_745.out; have hnb46 := NB745_739.out; have hnc46 := NB739_745.out; have hcz47_0 : w42.cell? ⟨gb745, 0, none⟩ = some (.string (⟨#[]⟩ : ByteArray)) := (blk_cell BK745.out 0).trans rfl; have hcz47_1 : w42.cell? ⟨gb745, 1, none⟩ = some (.slice none 0 0) := (blk_cell BK745.out 1).trans rfl; have hfz47_0 := blk_frozen BK745.out 0; have hfz47_1 := blk_frozen BK745.out 1; obtain ⟨Ao48, co48, eo48⟩ := Kd.R_slice HO743.out; subst eo48) | ((with_reducible refine gate_callee (f := 30) rfl ?_); refine goesL_ (some 60) rfl rfl Tryd.func30 (by kernel_rfl) rfl #[.agg #[.string t740, .slice Ao48 t741.length co48], .string t744] rfl (by (try simp only [List.map_toArray, List.map_cons, List.map_nil]); rfl) ?_; (with_reducible refine (impl_FieldOf.calls k t740 _ _ t741 t744 t746 t747 _ ?side1 ?side2 A13.out).mono ?_); (case side1 => refine (Kd.R_reads' (e := 40) (base := w.heap.size) (ok := fun k_ => ((((True ∧ some k_ ≠ (.slice Ao20 t715.length co20 : Value).ownBlock) ∧ some k_ ≠ (.slice Ao25 t722.length co25 : Value).ownBlock) ∧ some k_ ≠ (.slice Ao31 t729.length co31 : Value).ownBlock) ∧ k_ ≠ gb739)) (n := t741.length) (c := co48) ?_).2.2; exact (by (with_reducible repeat (first | apply Kd.R_alloc | apply Kd.R_drewN | apply Kd.R_drew )); exact (Kd.R_mono (Kd.R_far (p := ⟨gb745, 1, none⟩) (Kd.R_far (p := ⟨gb745, 0, none⟩) (Kd.R_types HO743.out BK745.out (by decide)) (fun _ hk => hk.2) (.string t740)) (fun _ hk => hk.2) (.slice Ao48 t741.length co48)) (fun _ h_ => by exact h_.1)))); (case side2 => exact (Kd.R_reads' HO743.out).2.1); rintro e w49 ⟨rfl, hb⟩; refine ⟨_, rfl, ?_⟩; have n0_ := Aside0.mk (Kd.R_below (by (with_reducible repeat (first | apply Kd.R_alloc | apply Kd.R_drewN | apply Kd.R_drew )); exact (Kd.R_mono (Kd.R_far (p := ⟨gb745, 1, none⟩) (Kd.R_far (p := ⟨gb745, 0, none⟩) (Kd.R_types HO717.out BK745.out (by decide)) (fun _ hk => hk.2) (.string t740)) (fun _ hk => hk.2) (.slice Ao48 t741.length co48)) (fun _ h_ => by exact h_.1))) hb); have n1_ := Aside0.mk (Kd.R_below (by (with_reducible repeat (first | apply Kd.R_alloc | apply Kd.R_drewN | apply Kd.R_drew )); exact (Kd.R_mono (Kd.R_far (p := ⟨gb745, 1, none⟩) (Kd.R_far (p := ⟨gb745, 0, none⟩) (Kd.R_types HO724.out BK745.out (by decide)) (fun _ hk => hk.2) (.string t740)) (fun _ hk => hk.2) (.slice Ao48 t741.length co48)) (fun _ h_ => by exact h_.1))) hb); have n2_ := Aside0.mk (Kd.R_below (by (with_reducible repeat (first | apply Kd.R_alloc | apply Kd.R_drewN | apply Kd.R_drew )); exact (Kd.R_mono (Kd.R_far (p := ⟨gb745, 1, none⟩) (Kd.R_far (p := ⟨gb745, 0, none⟩) (Kd.R_types HO731.out BK745.out (by decide)) (fun _ hk => hk.2) (.string t740)) (fun _ hk => hk.2) (.slice Ao48 t741.length co48)) (fun _ h_ => by exact h_.1))) hb); have n3_ := Aside0.mk (Kd.R_below (by (with_reducible repeat (first | apply Kd.R_alloc | apply Kd.R_drewN | apply Kd.R_drew )); exact (Kd.R_mono (Kd.R_far (p := ⟨gb745, 1, none⟩) (Kd.R_far (p := ⟨gb745, 0, none⟩) (Kd.R_types HO743.out BK745.out (by decide)) (fun _ hk => hk.2) (.string t740)) (fun _ hk => hk.2) (.slice Ao48 t741.length co48)) (fun _ h_ => by exact h_.1))) hb); have n4_ := Aside0.mk (blk_below (g := gb720) (o := .cells #[.string t714, .slice Ao20 t715.length co20] 26 (0, 0)) (by (with_reducible repeat (first | refine blk_drewN ?_ _ | refine blk_drew ?_ | refine blk_alloc ?_ _ )); refine blk_far ?_ NB720_745.out _; (with_reducible repeat (first | refine blk_drewN ?_ _ | refine blk_drew ?_ | refine blk_alloc ?_ _ )); refine blk_far ?_ NB720_745.out _; (with_reducible repeat (first | refine blk_drewN ?_ _ | refine blk_drew ?_ | refine blk_alloc ?_ _ )); exact BK720.out) hb); have n5_ := Aside0.mk (blk_below (g := gb727) (o := .cells #[.string t721, .slice Ao25 t722.length co25] 26 (0, 0)) (by (with_reducible repeat (first | refine blk_drewN ?_ _ | refine blk_drew ?_ | refine blk_alloc ?_ _ )); refine blk_far ?_ NB727_745.out _; (with_reducible repeat (first | refine blk_drewN ?_ _ | refine blk_drew ?_ | refine blk_alloc ?_ _ )); refine blk_far ?_ NB727_745.out _; (with_reducible repeat (first | refine blk_drewN ?_ _ | refine blk_drew ?_ | refine blk_alloc ?_ _ )); exact BK727.out) hb); have n6_ := Aside0.mk (blk_below (g := gb732) (o := .cells #[.string t728, .slice Ao31 t729.length co31] 26 (0, 0)) (by (with_reducible repeat (first | refine blk_drewN ?_ _ | refine blk_drew ?_ | refine blk_alloc ?_ _ )); refine blk_far ?_ NB732_745.out _; (with_reducible repeat (first | refine blk_drewN ?_ _ | refine blk_drew ?_ | refine blk_alloc ?_ _ )); refine blk_far ?_ NB732_745.out _; (with_reducible repeat (first | refine blk_drewN ?_ _ | refine blk_drew ?_ | refine blk_alloc ?_ _ )); exact BK732.out) hb); have n7_ := Aside0.mk (blk_below (g := gb739) (o := .cells #[.string t737, .string t738] 40 (0, 0)) (by (with_reducible repeat (first | refine blk_drewN ?_ _ | refine blk_drew ?_ | refine blk_alloc ?_ _ )); refine blk_far ?_ NB739_745.out _; (with_reducible repeat (first | refine blk_drewN ?_ _ | refine blk_drew ?_ | refine blk_alloc ?_ _ )); refine blk_far ?_ NB739_745.out _; (with_reducible repeat (first | refine blk_drewN ?_ _ | refine blk_drew ?_ | refine blk_alloc ?_ _ )); exact BK739.out) hb); have n8_ := Aside0.mk (blk_below (g := gb745) (o := .cells #[.string t740, .slice Ao48 t741.length co48] 26 (0, 0)) (by (with_reducible repeat (first | refine blk_drewN ?_ _ | refine blk_drew ?_ | refine blk_alloc ?_ _ )); refine blk_put (cs := #[.string t740, .slice none 0 0]) ?_ 1 _ rfl; (with_reducible repeat (first | refine blk_drewN ?_ _ | refine blk_drew ?_ | refine blk_alloc ?_ _ )); refine blk_put (cs := #[.string (⟨#[]⟩ : ByteArray), .slice none 0 0]) ?_ 0 _ rfl; (with_reducible repeat (first | refine blk_drewN ?_ _ | refine blk_drew ?_ | refine blk_alloc ?_ _ )); exact BK745.out) hb); have n9_ := Aside0.mk (below_step (by repeat ((with_reducible first | exact HB.out | refine below_set ?_ GE745.out))) hb); clear HO717; clear HO724; clear HO731; clear HO743; clear BK720; clear BK727; clear BK732; clear BK739; clear BK745; clear HB; have HO717 := n0_; have HO724 := n1_; have HO731 := n2_; have HO743 := n3_; have BK720 := n4_; have BK727 := n5_; have BK732 := n6_; have BK739 := n7_; have BK745 := n8_; have HB := n9_; clear n0_ n1_ n2_ n3_ n4_ n5_ n6_ n7_ n8_ n9_; (try clear hb); (try clear hb2); (try clear hk); (try clear hi); have hcz50_0 : w49.cell? ⟨gb745, 0, none⟩ = some (.string t740) := (blk_cell BK745.out 0).trans rfl; have hcz50_1 : w49.cell? ⟨gb745, 1, none⟩ = some (.slice Ao48 t741.length co48) := (blk_cell BK745.out 1).trans rfl; have hfz50_0 := blk_frozen BK745.out 0; have hfz50_1 := blk_frozen BK745.out 1) | ((with_reducible refine gate_callee (f := 44) rfl ?_); refine goesL_ (some 66) rfl rfl Tryd.func44 (by kernel_rfl) rfl #[.agg #[.string t740, .slice Ao48 t741.length co48], .string t744] rfl (by (try simp only [List.map_toArray, List.map_cons, List.map_nil]); rfl) ?_; (with_reducible refine (spec_FieldOf.calls k t740 _ _ t741 t744 t748 t749 _ ?side1 ?side2 A14.out).mono ?_); (case side1 => repeat (exact (Kd.R_reads' HO743.out).2.2)); (case side2 => exact (Kd.R_reads' HO743.out).2.1); rintro e w51 ⟨rfl, hb⟩; refine ⟨_, rfl, ?_⟩; have n0_ := Aside0.mk (Kd.R_below (by (with_reducible repeat (first | apply Kd.R_alloc | apply Kd.R_drewN | apply Kd.R_drew )); exact HO717.out) hb); have n1_ := Aside0.mk (Kd.R_below (by (with_reducible repeat (first | apply Kd.R_alloc | apply Kd.R_drewN | apply Kd.R_drew )); exact HO724.out) hb); have n2_ := Aside0.mk (Kd.R_below (by (with_reducible repeat (first | apply Kd.R_alloc | apply Kd.R_drewN | apply Kd.R_drew )); exact HO731.out) hb); have n3_ := Aside0.mk (Kd.R_below (by (with_reducible repeat (first | apply Kd.R_alloc | apply Kd.R_drewN | apply Kd.R_drew )); exact HO743.out) hb); have n4_ := Aside0.mk (blk_below (g := gb720) (o := .cells #[.string t714, .slice Ao20 t715.length co20] 26 (0, 0)) (by (with_reducible repeat (first | refine blk_drewN ?_ _ | refine blk_drew ?_ | refine blk_alloc ?_ _ )); exact BK720.out) hb); have n5_ := Aside0.mk (blk_below (g := gb727) (o := .cells #[.string t721, .slice Ao25 t722.length co25] 26 (0, 0)) (by (with_reducible repeat (first | refine blk_drewN ?_ _ | refine blk_drew ?_ | refine blk_alloc ?_ _ )); exact BK727.out) hb); have n6_ := Aside0.mk (blk_below (g := gb732) (o := .cells #[.string t728, .slice Ao31 t729.length co31] 26 (0, 0)) (by (with_reducible repeat (first | refine blk_drewN ?_ _ | refine blk_drew ?_ | refine blk_alloc ?_ _ )); exact BK732.out) hb); have n7_ := Aside0.mk (blk_below (g := gb739) (o := .cells #[.string t737, .string t738] 40 (0, 0)) (by (with_reducible repeat (first | refine blk_drewN ?_ _ | refine blk_drew ?_ | refine blk_alloc ?_ _ )); exact BK739.out) hb); have n8_ := Aside0.mk (blk_below (g := gb745) (o := .cells #[.string t740, .slice Ao48 t741.length co48] 26 (0, 0)) (by (with_reducible repeat (first | refine blk_drewN ?_ _ | refine blk_drew ?_ | refine blk_alloc ?_ _ )); exact BK745.out) hb); have n9_ := Aside0.mk (below_step (by repeat ((with_reducible exact HB.out))) hb); clear HO717; clear HO724; clear HO731; clear HO743; clear BK720; clear BK727; clear BK732; clear BK739; clear BK745; clear HB; have HO717 := n0_; have HO724 := n1_; have HO731 := n2_; have HO743 := n3_; have BK720 := n4_; have BK727 := n5_; have BK732 := n6_; have BK739 := n7_; have BK745 := n8_; have HB := n9_; clear n0_ n1_ n2_ n3_ n4_ n5_ n6_ n7_ n8_ n9_; (try clear hb); (try clear hb2); (try clear hk); (try clear hi)))
    (try simp only [Act.put, List.setIfInBounds_toArray, List.set_cons_zero, List.set_cons_succ])
    have H := HS15.out
    clear HS15
    by_cases c52 : t719 = t726
    · rw [if_pos c52] at H
      have c52b0 : (t719 == t726) = true := beq_iff_eq.mpr c52
      have c52b1 : (t719 != t726) = false := bne_eq_false_iff_eq.mpr c52
      clear c52
      by_cases c53 : t718 = t725
      · rw [if_pos c53] at H
        have c53b0 : (t718 == t725) = true := beq_iff_eq.mpr c53
        have c53b1 : (t718 != t725) = false := bne_eq_false_iff_eq.mpr c53
        clear c53
        replace H := Option.bind_eq_some_iff.mp H
        obtain ⟨t750, A540, H⟩ := H
        replace H : (if t750 = true then (if t719 = 0 then ((impl_HeadOk.f k t714 t715).bind fun t751 => (if t751 = true then (if (t734 == t736) = true then (if t733.toList = t735.toList then ((impl_FieldOk.f k t737 t738).bind fun t752 => ((spec_FieldOk.f k t737 t738).bind fun t753 => (if (t752 == t753) = true then (if t746.toList = t748.toList then (if (t747 == t749) = true then ((impl_HeadOk.f k t728 t729).bind fun t754 => ((spec_HeadOk.f k t728 t729).bind fun t755 => (some (t754 == t755)))) else (none)) else (none)) else (none)))) else (none)) else (none)) else (none))) else (if (t734 == t736) = true then (if t733.toList = t735.toList then ((impl_FieldOk.f k t737 t738).bind fun t756 => ((spec_FieldOk.f k t737 t738).bind fun t757 => (if (t756 == t757) = true then (if t746.toList = t748.toList then (if (t747 == t749) = true then ((impl_HeadOk.f k t728 t729).bind fun t758 => ((spec_HeadOk.f k t728 t729).bind fun t759 => (some (t758 == t759)))) else (none)) else (none)) else (none)))) else (none)) else (none))) else (none)) = some r := H
        have A54 := Aside0.mk A540
        clear A540
        by_cases c55 : t750 = true
        · subst c55
          have H1 : (if t719 = 0 then ((impl_HeadOk.f k t714 t715).bind fun t751 => (if t751 = true then (if (t734 == t736) = true then (if t733.toList = t735.toList then ((impl_FieldOk.f k t737 t738).bind fun t752 => ((spec_FieldOk.f k t737 t738).bind fun t753 => (if (t752 == t753) = true then (if t746.toList = t748.toList then (if (t747 == t749) = true then ((impl_HeadOk.f k t728 t729).bind fun t754 => ((spec_HeadOk.f k t728 t729).bind fun t755 => (some (t754 == t755)))) else (none)) else (none)) else (none)))) else (none)) else (none)) else (none))) else (if (t734 == t736) = true then (if t733.toList = t735.toList then ((impl_FieldOk.f k t737 t738).bind fun t756 => ((spec_FieldOk.f k t737 t738).bind fun t757 => (if (t756 == t757) = true then (if t746.toList = t748.toList then (if (t747 == t749) = true then ((impl_HeadOk.f k t728 t729).bind fun t758 => ((spec_HeadOk.f k t728 t729).bind fun t759 => (some (t758 == t759)))) else (none)) else (none)) else (none)))) else (none)) else (none))) = some r := by rw [if_pos rfl] at H; exact H
          clear H
          have H := H1
          clear H1
          by_cases c56 : t719 = 0
          · rw [if_pos c56] at H
            have c56b0 : (t719 == 0) = true := beq_iff_eq.mpr c56
            have c56b1 : (t719 != 0) = false := bne_eq_false_iff_eq.mpr c56
            clear c56
            replace H := Option.bind_eq_some_iff.mp H
            obtain ⟨t751, A570, H⟩ := H
            replace H : (if t751 = true then (if (t734 == t736) = true then (if t733.toList = t735.toList then ((impl_FieldOk.f k t737 t738).bind fun t752 => ((spec_FieldOk.f k t737 t738).bind fun t753 => (if (t752 == t753) = true then (if t746.toList = t748.toList then (if (t747 == t749) = true then ((impl_HeadOk.f k t728 t729).bind fun t754 => ((spec_HeadOk.f k t728 t729).bind fun t755 => (some (t754 == t755)))) else (none)) else (none)) else (none)))) else (none)) else (none)) else (none)) = some r := H
            have A57 := Aside0.mk A570
            clear A570
            by_cases c58 : t751 = true
            · subst c58
              have H1 : (if (t734 == t736) = true then (if t733.toList = t735.toList then ((impl_FieldOk.f k t737 t738).bind fun t752 => ((spec_FieldOk.f k t737 t738).bind fun t753 => (if (t752 == t753) = true then (if t746.toList = t748.toList then (if (t747 == t749) = true then ((impl_HeadOk.f k t728 t729).bind fun t754 => ((spec_HeadOk.f k t728 t729).bind fun t755 => (some (t754 == t755)))) else (none)) else (none)) else (none)))) else (none)) else (none)) = some r := by rw [if_pos rfl] at H; exact H
              clear H
              have H := H1
              clear H1
              by_cases c59 : (t734 == t736) = true
              · rw [if_pos c59] at H
                have c59b0 : (t734 == t736) = true := c59
                (try (have c59b1 : decide (t734 = t736) = true := by simpa using c59))
                (try (have c59b2 : (t734 == t736) = true := by simpa using c59))
                clear c59
                by_cases c60 : t733.toList = t735.toList
                · rw [if_pos c60] at H
                  have c60b0 : (t733.toList == t735.toList) = true := beq_iff_eq.mpr c60
                  have c60b1 : (t733.toList != t735.toList) = false := bne_eq_false_iff_eq.mpr c60
                  clear c60
                  replace H := Option.bind_eq_some_iff.mp H
                  obtain ⟨t752, A610, H⟩ := H
                  replace H : ((spec_FieldOk.f k t737 t738).bind fun t753 => (if (t752 == t753) = true then (if t746.toList = t748.toList then (if (t747 == t749) = true then ((impl_HeadOk.f k t728 t729).bind fun t754 => ((spec_HeadOk.f k t728 t729).bind fun t755 => (some (t754 == t755)))) else (none)) else (none)) else (none))) = some r := H
                  have A61 := Aside0.mk A610
                  clear A610
                  replace H := Option.bind_eq_some_iff.mp H
                  obtain ⟨t753, A620, H⟩ := H
                  replace H : (if (t752 == t753) = true then (if t746.toList = t748.toList then (if (t747 == t749) = true then ((impl_HeadOk.f k t728 t729).bind fun t754 => ((spec_HeadOk.f k t728 t729).bind fun t755 => (some (t754 == t755)))) else (none)) else (none)) else (none)) = some r := H
                  have A62 := Aside0.mk A620
                  clear A620
                  by_cases c63 : (t752 == t753) = true
                  · rw [if_pos c63] at H
                    have c63b0 : (t752 == t753) = true := c63
                    (try (have c63b1 : decide (t752 = t753) = true := by simpa using c63))
                    (try (have c63b2 : (t752 == t753) = true := by simpa using c63))
                    clear c63
                    by_cases c64 : t746.toList = t748.toList
                    · rw [if_pos c64] at H
                      have c64b0 : (t746.toList == t748.toList) = true := beq_iff_eq.mpr c64
                      have c64b1 : (t746.toList != t748.toList) = false := bne_eq_false_iff_eq.mpr c64
                      clear c64
                      by_cases c65 : (t747 == t749) = true
                      · rw [if_pos c65] at H
                        have c65b0 : (t747 == t749) = true := c65
                        (try (have c65b1 : decide (t747 = t749) = true := by simpa using c65))
                        (try (have c65b2 : (t747 == t749) = true := by simpa using c65))
                        clear c65
                        replace H := Option.bind_eq_some_iff.mp H
                        obtain ⟨t754, A660, H⟩ := H
                        replace H : ((spec_HeadOk.f k t728 t729).bind fun t755 => (some (t754 == t755))) = some r := H
                        have A66 := Aside0.mk A660
                        clear A660
                        replace H := Option.bind_eq_some_iff.mp H
                        obtain ⟨t755, A670, H⟩ := H
                        replace H : (some (t754 == t755)) = some r := H
                        have A67 := Aside0.mk A670
                        clear A670
                        obtain rfl := Option.some.inj H
                        go_wp2
                        have n0_ := Aside0.mk (Kd.R_drew HO717.out)
                        have n1_ := Aside0.mk (Kd.R_drew HO724.out)
                        have n2_ := Aside0.mk (Kd.R_drew HO731.out)
                        have n3_ := Aside0.mk (Kd.R_drew HO743.out)
                        have n4_ := Aside0.mk (blk_drew BK720.out)
                        have n5_ := Aside0.mk (blk_drew BK727.out)
                        have n6_ := Aside0.mk (blk_drew BK732.out)
                        have n7_ := Aside0.mk (blk_drew BK739.out)
                        have n8_ := Aside0.mk (blk_drew BK745.out)
                        have n9_ := Aside0.mk (below_drew1 HB.out)
                        clear HO717
                        clear HO724
                        clear HO731
                        clear HO743
                        clear BK720
                        clear BK727
                        clear BK732
                        clear BK739
                        clear BK745
                        clear HB
                        have HO717 := n0_
                        have HO724 := n1_
                        have HO731 := n2_
                        have HO743 := n3_
                        have BK720 := n4_
                        have BK727 := n5_
                        have BK732 := n6_
                        have BK739 := n7_
                        have BK745 := n8_
                        have HB := n9_
                        clear n0_ n1_ n2_ n3_ n4_ n5_ n6_ n7_ n8_ n9_
                        refine start_ (n := 56) (S := fun w' => w'.cell? ⟨gb720, 0, none⟩ = some (.string t714) ∧ w'.cell? ⟨gb720, 1, none⟩ = some (.slice Ao20 t715.length co20) ∧ w'.cell? ⟨gb727, 0, none⟩ = some (.string t721) ∧ w'.cell? ⟨gb727, 1, none⟩ = some (.slice Ao25 t722.length co25) ∧ w'.cell? ⟨gb739, 0, none⟩ = some (.string t737) ∧ w'.cell? ⟨gb739, 1, none⟩ = some (.string t738) ∧ w'.cell? ⟨gb732, 0, none⟩ = some (.string t728) ∧ w'.cell? ⟨gb732, 1, none⟩ = some (.slice Ao31 t729.length co31)) (ds := []) #[false, false, false, false, false, false, false, false, false, false, false, false, false, false, false, false, false, false, false, false, false, false, false, false, false, false, false, false, false, false, false, false, false, false, false, false, false, false, false, false, false, false, false, false, false, false, false, false, false, false, false, false, false, false, false, false] (by kernel_rfl) rfl rfl ⟨(blk_cell BK720.out 0).trans rfl, (blk_cell BK720.out 1).trans rfl, (blk_cell BK727.out 0).trans rfl, (blk_cell BK727.out 1).trans rfl, (blk_cell BK739.out 0).trans rfl, (blk_cell BK739.out 1).trans rfl, (blk_cell BK732.out 0).trans rfl, (blk_cell BK732.out 1).trans rfl⟩ (fun hHeld => ?_); refine with_tabW laws_FnHeadsTold.tab13 laws_FnHeadsTold.bits13 (fun HT_ HW_ => ?_)
                        generalize w51.drew = w68 at HO717 HO724 HO731 HO743 BK720 BK727 BK732 BK739 BK745 HB hHeld ⊢
                        refine pure_ (i := 0) (N := some 69) (v := ?_) (a' := ?_) #[true, false, false, false, false, false, false, false, false, false, false, false, false, false, false, false, false, false, false, false, false, false, false, false, false, false, false, false, false, false, false, false, false, false, false, false, false, false, false, false, false, false, false, false, false, false, false, false, false, false, false, false, false, false, false, false] rfl rfl (any_of HT_.out (by kernel_rfl)) (fun _ _ _ h => h) (Or.inl ⟨by rfl, ?_⟩) ?_ ?_
                        rotate_left
                        · intro w'
                          go_simp
                          with_reducible rfl
                        rotate_left
                        · simp only [Act.put, List.setIfInBounds_toArray, List.set_cons_zero, List.set_cons_succ, i64_w, i32_w]
                          rfl
                        refine pure_ (i := 1) (N := some 70) (v := ?_) (a' := ?_) #[true, true, false, false, false, false, false, false, false, false, false, false, false, false, false, false, false, false, false, false, false, false, false, false, false, false, false, false, false, false, false, false, false, false, false, false, false, false, false, false, false, false, false, false, false, false, false, false, false, false, false, false, false, false, false, false] rfl rfl (any_of HT_.out (by kernel_rfl)) (fun _ _ _ h => h) (Or.inl ⟨by rfl, ?_⟩) ?_ ?_
                        rotate_left
                        · intro w'
                          go_simp
                          with_reducible rfl
                        rotate_left
                        · simp only [Act.put, List.setIfInBounds_toArray, List.set_cons_zero, List.set_cons_succ, i64_w, i32_w]
                          rfl
                        refine pure_ (i := 2) (N := some 71) (v := ?_) (a' := ?_) #[true, true, true, false, false, false, false, false, false, false, false, false, false, false, false, false, false, false, false, false, false, false, false, false, false, false, false, false, false, false, false, false, false, false, false, false, false, false, false, false, false, false, false, false, false, false, false, false, false, false, false, false, false, false, false, false] rfl rfl (any_of HT_.out (by kernel_rfl)) (fun _ _ _ h => h) (Or.inl ⟨by rfl, ?_⟩) ?_ ?_
                        rotate_left
                        · intro w'
                          go_simp
                          with_reducible rfl
                        rotate_left
                        · simp only [Act.put, List.setIfInBounds_toArray, List.set_cons_zero, List.set_cons_succ, i64_w, i32_w]
                          rfl
                        refine pure_ (i := 3) (N := some 72) (v := ?_) (a' := ?_) #[true, true, true, true, false, false, false, false, false, false, false, false, false, false, false, false, false, false, false, false, false, false, false, false, false, false, false, false, false, false, false, false, false, false, false, false, false, false, false, false, false, false, false, false, false, false, false, false, false, false, false, false, false, false, false, false] rfl rfl (any_of HT_.out (by kernel_rfl)) (fun _ _ _ h => h) (Or.inl ⟨by rfl, ?_⟩) ?_ ?_
                        rotate_left
                        · intro w'
                          go_simp
                          with_reducible rfl
                        rotate_left
                        · simp only [Act.put, List.setIfInBounds_toArray, List.set_cons_zero, List.set_cons_succ, i64_w, i32_w]
                          rfl
                        refine pure_ (i := 4) (N := some 73) (v := ?_) (a' := ?_) #[true, true, true, true, true, false, false, false, false, false, false, false, false, false, false, false, false, false, false, false, false, false, false, false, false, false, false, false, false, false, false, false, false, false, false, false, false, false, false, false, false, false, false, false, false, false, false, false, false, false, false, false, false, false, false, false] rfl rfl (any_of HT_.out (by kernel_rfl)) (fun _ _ _ h => h) (Or.inl ⟨by rfl, ?_⟩) ?_ ?_
                        rotate_left
                        · intro w'
                          go_simp
                          with_reducible rfl
                        rotate_left
                        · simp only [Act.put, List.setIfInBounds_toArray, List.set_cons_zero, List.set_cons_succ, i64_w, i32_w]
                          rfl
                        refine pure_ (i := 5) (N := some 74) (v := ?_) (a' := ?_) #[true, true, true, true, true, true, false, false, false, false, false, false, false, false, false, false, false, false, false, false, false, false, false, false, false, false, false, false, false, false, false, false, false, false, false, false, false, false, false, false, false, false, false, false, false, false, false, false, false, false, false, false, false, false, false, false] rfl rfl (any_of HT_.out (by kernel_rfl)) (fun _ _ _ h => h) (Or.inl ⟨by rfl, ?_⟩) ?_ ?_
                        rotate_left
                        · intro w'
                          go_simp
                          with_reducible rfl
                        rotate_left
                        · simp only [Act.put, List.setIfInBounds_toArray, List.set_cons_zero, List.set_cons_succ, i64_w, i32_w]
                          rfl
                        refine pure_ (i := 6) (N := some 75) (v := ?_) (a' := ?_) #[true, true, true, true, true, true, true, false, false, false, false, false, false, false, false, false, false, false, false, false, false, false, false, false, false, false, false, false, false, false, false, false, false, false, false, false, false, false, false, false, false, false, false, false, false, false, false, false, false, false, false, false, false, false, false, false] rfl rfl (any_of HT_.out (by kernel_rfl)) (fun _ _ _ h => h) (Or.inl ⟨by rfl, ?_⟩) ?_ ?_
                        rotate_left
                        · intro w'
                          go_simp
                          with_reducible rfl
                        rotate_left
                        · simp only [Act.put, List.setIfInBounds_toArray, List.set_cons_zero, List.set_cons_succ, i64_w, i32_w]
                          rfl
                        refine pure_ (i := 7) (N := some 76) (v := ?_) (a' := ?_) #[true, true, true, true, true, true, true, true, false, false, false, false, false, false, false, false, false, false, false, false, false, false, false, false, false, false, false, false, false, false, false, false, false, false, false, false, false, false, false, false, false, false, false, false, false, false, false, false, false, false, false, false, false, false, false, false] rfl rfl (any_of HT_.out (by kernel_rfl)) (fun _ _ _ h => h) (Or.inl ⟨by rfl, ?_⟩) ?_ ?_
                        rotate_left
                        · intro w'
                          go_simp
                          with_reducible rfl
                        rotate_left
                        · simp only [Act.put, List.setIfInBounds_toArray, List.set_cons_zero, List.set_cons_succ, i64_w, i32_w]
                          rfl
                        refine pure_ (i := 8) (N := some 77) (v := ?_) (a' := ?_) #[true, true, true, true, true, true, true, true, true, false, false, false, false, false, false, false, false, false, false, false, false, false, false, false, false, false, false, false, false, false, false, false, false, false, false, false, false, false, false, false, false, false, false, false, false, false, false, false, false, false, false, false, false, false, false, false] rfl rfl (any_of HT_.out (by kernel_rfl)) (fun _ _ _ h => h) (Or.inl ⟨by rfl, ?_⟩) ?_ ?_
                        rotate_left
                        · intro w'
                          go_simp
                          with_reducible rfl
                        rotate_left
                        · simp only [Act.put, List.setIfInBounds_toArray, List.set_cons_zero, List.set_cons_succ, i64_w, i32_w]
                          rfl
                        refine take_ (i := 9) (N := some 78) (v := ?_) (a' := ?_) #[true, true, true, true, true, true, true, true, true, true, false, false, false, false, false, false, false, false, false, false, false, false, false, false, false, false, false, false, false, false, false, false, false, false, false, false, false, false, false, false, false, false, false, false, false, false, false, false, false, false, false, false, false, false, false, false] rfl rfl (take_ofW HT_.out HW_.out (by kernel_rfl)) (fun _ _ _ h => h) (Or.inl ⟨by rfl, ?_⟩) hHeld ?_ ?_
                        rotate_left
                        · rintro w' ⟨s0, s1, s2, s3, s4, s5, s6, s7⟩
                          go_simp
                          with_reducible rfl
                        rotate_left
                        · simp only [Act.put, List.setIfInBounds_toArray, List.set_cons_zero, List.set_cons_succ, i64_w, i32_w]
                          rfl
                        refine take_ (i := 10) (N := some 79) (v := ?_) (a' := ?_) #[true, true, true, true, true, true, true, true, true, true, true, false, false, false, false, false, false, false, false, false, false, false, false, false, false, false, false, false, false, false, false, false, false, false, false, false, false, false, false, false, false, false, false, false, false, false, false, false, false, false, false, false, false, false, false, false] rfl rfl (take_ofW HT_.out HW_.out (by kernel_rfl)) (fun _ _ _ h => h) (Or.inl ⟨by rfl, ?_⟩) hHeld ?_ ?_
                        rotate_left
                        · rintro w' ⟨s0, s1, s2, s3, s4, s5, s6, s7⟩
                          go_simp
                          with_reducible rfl
                        rotate_left
                        · simp only [Act.put, List.setIfInBounds_toArray, List.set_cons_zero, List.set_cons_succ, i64_w, i32_w]
                          rfl
                        refine one_ (i := 11) (N := some 80) #[true, true, true, true, true, true, true, true, true, true, true, true, false, false, false, false, false, false, false, false, false, false, false, false, false, false, false, false, false, false, false, false, false, false, false, false, false, false, false, false, false, false, false, false, false, false, false, false, false, false, false, false, false, false, false, false] rfl rfl (one_of HT_.out (by kernel_rfl)) (by decide) (fun K hK => ?_)
                        refine goes_ Tryd.func17 (by kernel_rfl) rfl #[.agg #[.string t714, .slice Ao20 t715.length co20], .agg #[.string t721, .slice Ao25 t722.length co25]] (by rfl) rfl rfl (by (try simp only [List.map_toArray, List.map_cons, List.map_nil]); rfl) ?_
                        with_reducible refine (laws_sameHead.calls k t714 _ _ t715 t721 _ _ t722 true _ ?side1 ?side2 ?side3 ?side4 A54.out).mono ?_
                        (case side1 => repeat (exact (Kd.R_reads' HO717.out).2.2))
                        (case side2 => exact (Kd.R_reads' HO717.out).2.1)
                        (case side3 => repeat (exact (Kd.R_reads' HO724.out).2.2))
                        (case side4 => exact (Kd.R_reads' HO724.out).2.1)
                        rintro e w69 ⟨rfl, hb⟩
                        refine ⟨_, rfl, ?_⟩
                        have n0_ := Aside0.mk (Kd.R_below (by (with_reducible repeat (first | apply Kd.R_alloc | apply Kd.R_drewN | apply Kd.R_drew )); exact HO717.out) hb)
                        have n1_ := Aside0.mk (Kd.R_below (by (with_reducible repeat (first | apply Kd.R_alloc | apply Kd.R_drewN | apply Kd.R_drew )); exact HO724.out) hb)
                        have n2_ := Aside0.mk (Kd.R_below (by (with_reducible repeat (first | apply Kd.R_alloc | apply Kd.R_drewN | apply Kd.R_drew )); exact HO731.out) hb)
                        have n3_ := Aside0.mk (Kd.R_below (by (with_reducible repeat (first | apply Kd.R_alloc | apply Kd.R_drewN | apply Kd.R_drew )); exact HO743.out) hb)
                        have n4_ := Aside0.mk (blk_below (g := gb720) (o := .cells #[.string t714, .slice Ao20 t715.length co20] 26 (0, 0)) (by (with_reducible repeat (first | refine blk_drewN ?_ _ | refine blk_drew ?_ | refine blk_alloc ?_ _ )); exact BK720.out) hb)
                        have n5_ := Aside0.mk (blk_below (g := gb727) (o := .cells #[.string t721, .slice Ao25 t722.length co25] 26 (0, 0)) (by (with_reducible repeat (first | refine blk_drewN ?_ _ | refine blk_drew ?_ | refine blk_alloc ?_ _ )); exact BK727.out) hb)
                        have n6_ := Aside0.mk (blk_below (g := gb732) (o := .cells #[.string t728, .slice Ao31 t729.length co31] 26 (0, 0)) (by (with_reducible repeat (first | refine blk_drewN ?_ _ | refine blk_drew ?_ | refine blk_alloc ?_ _ )); exact BK732.out) hb)
                        have n7_ := Aside0.mk (blk_below (g := gb739) (o := .cells #[.string t737, .string t738] 40 (0, 0)) (by (with_reducible repeat (first | refine blk_drewN ?_ _ | refine blk_drew ?_ | refine blk_alloc ?_ _ )); exact BK739.out) hb)
                        have n8_ := Aside0.mk (blk_below (g := gb745) (o := .cells #[.string t740, .slice Ao48 t741.length co48] 26 (0, 0)) (by (with_reducible repeat (first | refine blk_drewN ?_ _ | refine blk_drew ?_ | refine blk_alloc ?_ _ )); exact BK745.out) hb)
                        have n9_ := Aside0.mk (below_step (by repeat ((with_reducible exact HB.out))) hb)
                        clear HO717
                        clear HO724
                        clear HO731
                        clear HO743
                        clear BK720
                        clear BK727
                        clear BK732
                        clear BK739
                        clear BK745
                        clear HB
                        have HO717 := n0_
                        have HO724 := n1_
                        have HO731 := n2_
                        have HO743 := n3_
                        have BK720 := n4_
                        have BK727 := n5_
                        have BK732 := n6_
                        have BK739 := n7_
                        have BK745 := n8_
                        have HB := n9_
                        clear n0_ n1_ n2_ n3_ n4_ n5_ n6_ n7_ n8_ n9_
                        (try clear hb)
                        (try clear hb2)
                        (try clear hk)
                        (try clear hi)
                        refine hK.out _ _ ⟨(blk_cell BK720.out 0).trans rfl, (blk_cell BK720.out 1).trans rfl, (blk_cell BK727.out 0).trans rfl, (blk_cell BK727.out 1).trans rfl, (blk_cell BK739.out 0).trans rfl, (blk_cell BK739.out 1).trans rfl, (blk_cell BK732.out 0).trans rfl, (blk_cell BK732.out 1).trans rfl⟩ (fun hHeld => ?_)
                        clear hK K
                        refine norm_ (a' := ?_) ?_ ?_
                        rotate_left
                        · show Act.put _ (some 80) _ = _
                          simp only [Act.put, List.setIfInBounds_toArray, List.set_cons_zero, List.set_cons_succ, i64_w, i32_w]
                          rfl
                        refine pure_ (i := 12) (N := some 81) (v := ?_) (a' := ?_) #[true, true, true, true, true, true, true, true, true, true, true, true, true, false, false, false, false, false, false, false, false, false, false, false, false, false, false, false, false, false, false, false, false, false, false, false, false, false, false, false, false, false, false, false, false, false, false, false, false, false, false, false, false, false, false, false] rfl rfl (any_of HT_.out (by kernel_rfl)) (fun _ _ _ h => h) (Or.inl ⟨by rfl, ?_⟩) ?_ ?_
                        rotate_left
                        · intro w'
                          go_simp
                          with_reducible rfl
                        rotate_left
                        · simp only [Act.put, List.setIfInBounds_toArray, List.set_cons_zero, List.set_cons_succ, i64_w, i32_w]
                          rfl
                        refine pure_ (i := 13) (N := some 82) (v := ?_) (a' := ?_) #[true, true, true, true, true, true, true, true, true, true, true, true, true, true, false, false, false, false, false, false, false, false, false, false, false, false, false, false, false, false, false, false, false, false, false, false, false, false, false, false, false, false, false, false, false, false, false, false, false, false, false, false, false, false, false, false] rfl rfl (any_of HT_.out (by kernel_rfl)) (fun _ _ _ h => h) (Or.inl ⟨by rfl, ?_⟩) ?_ ?_
                        rotate_left
                        · intro w'
                          go_simp
                          with_reducible rfl
                        rotate_left
                        · simp only [Act.put, List.setIfInBounds_toArray, List.set_cons_zero, List.set_cons_succ, i64_w, i32_w]
                          rfl
                        refine pure_ (i := 14) (N := some 83) (v := ?_) (a' := ?_) #[true, true, true, true, true, true, true, true, true, true, true, true, true, true, true, false, false, false, false, false, false, false, false, false, false, false, false, false, false, false, false, false, false, false, false, false, false, false, false, false, false, false, false, false, false, false, false, false, false, false, false, false, false, false, false, false] rfl rfl (any_of HT_.out (by kernel_rfl)) (fun _ _ _ h => h) (Or.inl ⟨by rfl, ?_⟩) ?_ ?_
                        rotate_left
                        · intro w'
                          go_simp
                          with_reducible rfl
                        rotate_left
                        · simp only [Act.put, List.setIfInBounds_toArray, List.set_cons_zero, List.set_cons_succ, i64_w, i32_w]
                          rfl
                        refine pure_ (i := 15) (N := some 84) (v := ?_) (a' := ?_) #[true, true, true, true, true, true, true, true, true, true, true, true, true, true, true, true, false, false, false, false, false, false, false, false, false, false, false, false, false, false, false, false, false, false, false, false, false, false, false, false, false, false, false, false, false, false, false, false, false, false, false, false, false, false, false, false] rfl rfl (any_of HT_.out (by kernel_rfl)) (fun _ _ _ h => h) (Or.inl ⟨by rfl, ?_⟩) ?_ ?_
                        rotate_left
                        · intro w'
                          go_simp
                          with_reducible rfl
                        rotate_left
                        · simp only [Act.put, List.setIfInBounds_toArray, List.set_cons_zero, List.set_cons_succ, i64_w, i32_w]
                          rfl
                        refine pure_ (i := 16) (N := some 85) (v := ?_) (a' := ?_) #[true, true, true, true, true, true, true, true, true, true, true, true, true, true, true, true, true, false, false, false, false, false, false, false, false, false, false, false, false, false, false, false, false, false, false, false, false, false, false, false, false, false, false, false, false, false, false, false, false, false, false, false, false, false, false, false] rfl rfl (any_of HT_.out (by kernel_rfl)) (fun _ _ _ h => h) (Or.inl ⟨by rfl, ?_⟩) ?_ ?_
                        rotate_left
                        · intro w'
                          go_simp
                          with_reducible rfl
                        rotate_left
                        · simp only [Act.put, List.setIfInBounds_toArray, List.set_cons_zero, List.set_cons_succ, i64_w, i32_w]
                          rfl
                        refine take_ (i := 17) (N := some 86) (v := ?_) (a' := ?_) #[true, true, true, true, true, true, true, true, true, true, true, true, true, true, true, true, true, true, false, false, false, false, false, false, false, false, false, false, false, false, false, false, false, false, false, false, false, false, false, false, false, false, false, false, false, false, false, false, false, false, false, false, false, false, false, false] rfl rfl (take_ofW HT_.out HW_.out (by kernel_rfl)) (fun _ _ _ h => h) (Or.inl ⟨by rfl, ?_⟩) hHeld ?_ ?_
                        rotate_left
                        · rintro w' ⟨s0, s1, s2, s3, s4, s5, s6, s7⟩
                          go_simp
                          with_reducible rfl
                        rotate_left
                        · simp only [Act.put, List.setIfInBounds_toArray, List.set_cons_zero, List.set_cons_succ, i64_w, i32_w]
                          rfl
                        refine one_ (i := 18) (N := some 87) #[true, true, true, true, true, true, true, true, true, true, true, true, true, true, true, true, true, true, true, false, false, false, false, false, false, false, false, false, false, false, false, false, false, false, false, false, false, false, false, false, false, false, false, false, false, false, false, false, false, false, false, false, false, false, false, false] rfl rfl (one_of HT_.out (by kernel_rfl)) (by decide) (fun K hK => ?_)
                        refine goes_ Tryd.func19 (by kernel_rfl) rfl #[.agg #[.string t714, .slice Ao20 t715.length co20]] (by rfl) rfl rfl (by (try simp only [List.map_toArray, List.map_cons, List.map_nil]); rfl) ?_
                        with_reducible refine (impl_HeadOk.calls k t714 _ _ t715 true _ ?side1 ?side2 A57.out).mono ?_
                        (case side1 => repeat (exact (Kd.R_reads' HO717.out).2.2))
                        (case side2 => exact (Kd.R_reads' HO717.out).2.1)
                        rintro e w70 ⟨rfl, hb⟩
                        refine ⟨_, rfl, ?_⟩
                        have n0_ := Aside0.mk (Kd.R_below (by (with_reducible repeat (first | apply Kd.R_alloc | apply Kd.R_drewN | apply Kd.R_drew )); exact HO717.out) hb)
                        have n1_ := Aside0.mk (Kd.R_below (by (with_reducible repeat (first | apply Kd.R_alloc | apply Kd.R_drewN | apply Kd.R_drew )); exact HO724.out) hb)
                        have n2_ := Aside0.mk (Kd.R_below (by (with_reducible repeat (first | apply Kd.R_alloc | apply Kd.R_drewN | apply Kd.R_drew )); exact HO731.out) hb)
                        have n3_ := Aside0.mk (Kd.R_below (by (with_reducible repeat (first | apply Kd.R_alloc | apply Kd.R_drewN | apply Kd.R_drew )); exact HO743.out) hb)
                        have n4_ := Aside0.mk (blk_below (g := gb720) (o := .cells #[.string t714, .slice Ao20 t715.length co20] 26 (0, 0)) (by (with_reducible repeat (first | refine blk_drewN ?_ _ | refine blk_drew ?_ | refine blk_alloc ?_ _ )); exact BK720.out) hb)
                        have n5_ := Aside0.mk (blk_below (g := gb727) (o := .cells #[.string t721, .slice Ao25 t722.length co25] 26 (0, 0)) (by (with_reducible repeat (first | refine blk_drewN ?_ _ | refine blk_drew ?_ | refine blk_alloc ?_ _ )); exact BK727.out) hb)
                        have n6_ := Aside0.mk (blk_below (g := gb732) (o := .cells #[.string t728, .slice Ao31 t729.length co31] 26 (0, 0)) (by (with_reducible repeat (first | refine blk_drewN ?_ _ | refine blk_drew ?_ | refine blk_alloc ?_ _ )); exact BK732.out) hb)
                        have n7_ := Aside0.mk (blk_below (g := gb739) (o := .cells #[.string t737, .string t738] 40 (0, 0)) (by (with_reducible repeat (first | refine blk_drewN ?_ _ | refine blk_drew ?_ | refine blk_alloc ?_ _ )); exact BK739.out) hb)
                        have n8_ := Aside0.mk (blk_below (g := gb745) (o := .cells #[.string t740, .slice Ao48 t741.length co48] 26 (0, 0)) (by (with_reducible repeat (first | refine blk_drewN ?_ _ | refine blk_drew ?_ | refine blk_alloc ?_ _ )); exact BK745.out) hb)
                        have n9_ := Aside0.mk (below_step (by repeat ((with_reducible exact HB.out))) hb)
                        clear HO717
                        clear HO724
                        clear HO731
                        clear HO743
                        clear BK720
                        clear BK727
                        clear BK732
                        clear BK739
                        clear BK745
                        clear HB
                        have HO717 := n0_
                        have HO724 := n1_
                        have HO731 := n2_
                        have HO743 := n3_
                        have BK720 := n4_
                        have BK727 := n5_
                        have BK732 := n6_
                        have BK739 := n7_
                        have BK745 := n8_
                        have HB := n9_
                        clear n0_ n1_ n2_ n3_ n4_ n5_ n6_ n7_ n8_ n9_
                        (try clear hb)
                        (try clear hb2)
                        (try clear hk)
                        (try clear hi)
                        refine hK.out _ _ ⟨(blk_cell BK720.out 0).trans rfl, (blk_cell BK720.out 1).trans rfl, (blk_cell BK727.out 0).trans rfl, (blk_cell BK727.out 1).trans rfl, (blk_cell BK739.out 0).trans rfl, (blk_cell BK739.out 1).trans rfl, (blk_cell BK732.out 0).trans rfl, (blk_cell BK732.out 1).trans rfl⟩ (fun hHeld => ?_)
                        clear hK K
                        refine norm_ (a' := ?_) ?_ ?_
                        rotate_left
                        · show Act.put _ (some 87) _ = _
                          simp only [Act.put, List.setIfInBounds_toArray, List.set_cons_zero, List.set_cons_succ, i64_w, i32_w]
                          rfl
                        refine pure_ (i := 19) (N := some 88) (v := ?_) (a' := ?_) #[true, true, true, true, true, true, true, true, true, true, true, true, true, true, true, true, true, true, true, true, false, false, false, false, false, false, false, false, false, false, false, false, false, false, false, false, false, false, false, false, false, false, false, false, false, false, false, false, false, false, false, false, false, false, false, false] rfl rfl (any_of HT_.out (by kernel_rfl)) (fun _ _ _ h => h) (Or.inl ⟨by rfl, ?_⟩) ?_ ?_
                        rotate_left
                        · intro w'
                          go_simp
                          with_reducible rfl
                        rotate_left
                        · simp only [Act.put, List.setIfInBounds_toArray, List.set_cons_zero, List.set_cons_succ, i64_w, i32_w]
                          rfl
                        refine pure_ (i := 20) (N := some 89) (v := ?_) (a' := ?_) #[true, true, true, true, true, true, true, true, true, true, true, true, true, true, true, true, true, true, true, true, true, false, false, false, false, false, false, false, false, false, false, false, false, false, false, false, false, false, false, false, false, false, false, false, false, false, false, false, false, false, false, false, false, false, false, false] rfl rfl (any_of HT_.out (by kernel_rfl)) (fun _ _ _ h => h) (Or.inl ⟨by rfl, ?_⟩) ?_ ?_
                        rotate_left
                        · intro w'
                          go_simp
                          with_reducible rfl
                        rotate_left
                        · simp only [Act.put, List.setIfInBounds_toArray, List.set_cons_zero, List.set_cons_succ, i64_w, i32_w]
                          rfl
                        refine pure_ (i := 21) (N := some 90) (v := ?_) (a' := ?_) #[true, true, true, true, true, true, true, true, true, true, true, true, true, true, true, true, true, true, true, true, true, true, false, false, false, false, false, false, false, false, false, false, false, false, false, false, false, false, false, false, false, false, false, false, false, false, false, false, false, false, false, false, false, false, false, false] rfl rfl (any_of HT_.out (by kernel_rfl)) (fun _ _ _ h => h) (Or.inl ⟨by rfl, ?_⟩) ?_ ?_
                        rotate_left
                        · intro w'
                          go_simp
                          with_reducible rfl
                        rotate_left
                        · simp only [Act.put, List.setIfInBounds_toArray, List.set_cons_zero, List.set_cons_succ, i64_w, i32_w]
                          rfl
                        refine pure_ (i := 22) (N := some 91) (v := ?_) (a' := ?_) #[true, true, true, true, true, true, true, true, true, true, true, true, true, true, true, true, true, true, true, true, true, true, true, false, false, false, false, false, false, false, false, false, false, false, false, false, false, false, false, false, false, false, false, false, false, false, false, false, false, false, false, false, false, false, false, false] rfl rfl (any_of HT_.out (by kernel_rfl)) (fun _ _ _ h => h) (Or.inl ⟨by rfl, ?_⟩) ?_ ?_
                        rotate_left
                        · intro w'
                          go_simp
                          with_reducible rfl
                        rotate_left
                        · simp only [Act.put, List.setIfInBounds_toArray, List.set_cons_zero, List.set_cons_succ, i64_w, i32_w]
                          rfl
                        refine pure_ (i := 23) (N := some 92) (v := ?_) (a' := ?_) #[true, true, true, true, true, true, true, true, true, true, true, true, true, true, true, true, true, true, true, true, true, true, true, true, false, false, false, false, false, false, false, false, false, false, false, false, false, false, false, false, false, false, false, false, false, false, false, false, false, false, false, false, false, false, false, false] rfl rfl (any_of HT_.out (by kernel_rfl)) (fun _ _ _ h => h) (Or.inl ⟨by rfl, ?_⟩) ?_ ?_
                        rotate_left
                        · intro w'
                          go_simp
                          with_reducible rfl
                        rotate_left
                        · simp only [Act.put, List.setIfInBounds_toArray, List.set_cons_zero, List.set_cons_succ, i64_w, i32_w]
                          rfl
                        refine pure_ (i := 24) (N := some 93) (v := ?_) (a' := ?_) #[true, true, true, true, true, true, true, true, true, true, true, true, true, true, true, true, true, true, true, true, true, true, true, true, true, false, false, false, false, false, false, false, false, false, false, false, false, false, false, false, false, false, false, false, false, false, false, false, false, false, false, false, false, false, false, false] rfl rfl (any_of HT_.out (by kernel_rfl)) (fun _ _ _ h => h) (Or.inl ⟨by rfl, ?_⟩) ?_ ?_
                        rotate_left
                        · intro w'
                          go_simp
                          with_reducible rfl
                        rotate_left
                        · simp only [Act.put, List.setIfInBounds_toArray, List.set_cons_zero, List.set_cons_succ, i64_w, i32_w]
                          rfl
                        refine pure_ (i := 25) (N := some 94) (v := ?_) (a' := ?_) #[true, true, true, true, true, true, true, true, true, true, true, true, true, true, true, true, true, true, true, true, true, true, true, true, true, true, false, false, false, false, false, false, false, false, false, false, false, false, false, false, false, false, false, false, false, false, false, false, false, false, false, false, false, false, false, false] rfl rfl (any_of HT_.out (by kernel_rfl)) (fun _ _ _ h => h) (Or.inl ⟨by rfl, ?_⟩) ?_ ?_
                        rotate_left
                        · intro w'
                          go_simp
                          with_reducible rfl
                        rotate_left
                        · simp only [Act.put, List.setIfInBounds_toArray, List.set_cons_zero, List.set_cons_succ, i64_w, i32_w]
                          rfl
                        refine pure_ (i := 26) (N := some 95) (v := ?_) (a' := ?_) #[true, true, true, true, true, true, true, true, true, true, true, true, true, true, true, true, true, true, true, true, true, true, true, true, true, true, true, false, false, false, false, false, false, false, false, false, false, false, false, false, false, false, false, false, false, false, false, false, false, false, false, false, false, false, false, false] rfl rfl (any_of HT_.out (by kernel_rfl)) (fun _ _ _ h => h) (Or.inl ⟨by rfl, ?_⟩) ?_ ?_
                        rotate_left
                        · intro w'
                          go_simp
                          with_reducible rfl
                        rotate_left
                        · simp only [Act.put, List.setIfInBounds_toArray, List.set_cons_zero, List.set_cons_succ, i64_w, i32_w]
                          rfl
                        refine pure_ (i := 27) (N := some 96) (v := ?_) (a' := ?_) #[true, true, true, true, true, true, true, true, true, true, true, true, true, true, true, true, true, true, true, true, true, true, true, true, true, true, true, true, false, false, false, false, false, false, false, false, false, false, false, false, false, false, false, false, false, false, false, false, false, false, false, false, false, false, false, false] rfl rfl (any_of HT_.out (by kernel_rfl)) (fun _ _ _ h => h) (Or.inl ⟨by rfl, ?_⟩) ?_ ?_
                        rotate_left
                        · intro w'
                          go_simp
                          with_reducible rfl
                        rotate_left
                        · simp only [Act.put, List.setIfInBounds_toArray, List.set_cons_zero, List.set_cons_succ, i64_w, i32_w]
                          rfl
                        refine pure_ (i := 28) (N := some 97) (v := ?_) (a' := ?_) #[true, true, true, true, true, true, true, true, true, true, true, true, true, true, true, true, true, true, true, true, true, true, true, true, true, true, true, true, true, false, false, false, false, false, false, false, false, false, false, false, false, false, false, false, false, false, false, false, false, false, false, false, false, false, false, false] rfl rfl (any_of HT_.out (by kernel_rfl)) (fun _ _ _ h => h) (Or.inl ⟨by rfl, ?_⟩) ?_ ?_
                        rotate_left
                        · intro w'
                          go_simp
                          with_reducible rfl
                        rotate_left
                        · simp only [Act.put, List.setIfInBounds_toArray, List.set_cons_zero, List.set_cons_succ, i64_w, i32_w]
                          rfl
                        refine pure_ (i := 29) (N := some 98) (v := ?_) (a' := ?_) #[true, true, true, true, true, true, true, true, true, true, true, true, true, true, true, true, true, true, true, true, true, true, true, true, true, true, true, true, true, true, false, false, false, false, false, false, false, false, false, false, false, false, false, false, false, false, false, false, false, false, false, false, false, false, false, false] rfl rfl (any_of HT_.out (by kernel_rfl)) (fun _ _ _ h => h) (Or.inl ⟨by rfl, ?_⟩) ?_ ?_
                        rotate_left
                        · intro w'
                          go_simp
                          with_reducible rfl
                        rotate_left
                        · simp only [Act.put, List.setIfInBounds_toArray, List.set_cons_zero, List.set_cons_succ, i64_w, i32_w]
                          rfl
                        refine pure_ (i := 30) (N := some 99) (v := ?_) (a' := ?_) #[true, true, true, true, true, true, true, true, true, true, true, true, true, true, true, true, true, true, true, true, true, true, true, true, true, true, true, true, true, true, true, false, false, false, false, false, false, false, false, false, false, false, false, false, false, false, false, false, false, false, false, false, false, false, false, false] rfl rfl (any_of HT_.out (by kernel_rfl)) (fun _ _ _ h => h) (Or.inl ⟨by rfl, ?_⟩) ?_ ?_
                        rotate_left
                        · intro w'
                          go_simp
                          with_reducible rfl
                        rotate_left
                        · simp only [Act.put, List.setIfInBounds_toArray, List.set_cons_zero, List.set_cons_succ, i64_w, i32_w]
                          rfl
                        refine pure_ (i := 31) (N := some 100) (v := ?_) (a' := ?_) #[true, true, true, true, true, true, true, true, true, true, true, true, true, true, true, true, true, true, true, true, true, true, true, true, true, true, true, true, true, true, true, true, false, false, false, false, false, false, false, false, false, false, false, false, false, false, false, false, false, false, false, false, false, false, false, false] rfl rfl (any_of HT_.out (by kernel_rfl)) (fun _ _ _ h => h) (Or.inl ⟨by rfl, ?_⟩) ?_ ?_
                        rotate_left
                        · intro w'
                          go_simp
                          with_reducible rfl
                        rotate_left
                        · simp only [Act.put, List.setIfInBounds_toArray, List.set_cons_zero, List.set_cons_succ, i64_w, i32_w]
                          rfl
                        refine take_ (i := 32) (N := some 101) (v := ?_) (a' := ?_) #[true, true, true, true, true, true, true, true, true, true, true, true, true, true, true, true, true, true, true, true, true, true, true, true, true, true, true, true, true, true, true, true, true, false, false, false, false, false, false, false, false, false, false, false, false, false, false, false, false, false, false, false, false, false, false, false] rfl rfl (take_ofW HT_.out HW_.out (by kernel_rfl)) (fun _ _ _ h => h) (Or.inl ⟨by rfl, ?_⟩) hHeld ?_ ?_
                        rotate_left
                        · rintro w' ⟨s0, s1, s2, s3, s4, s5, s6, s7⟩
                          go_simp
                          with_reducible rfl
                        rotate_left
                        · simp only [Act.put, List.setIfInBounds_toArray, List.set_cons_zero, List.set_cons_succ, i64_w, i32_w]
                          rfl
                        refine take_ (i := 34) (N := some 103) (v := ?_) (a' := ?_) #[true, true, true, true, true, true, true, true, true, true, true, true, true, true, true, true, true, true, true, true, true, true, true, true, true, true, true, true, true, true, true, true, true, false, true, false, false, false, false, false, false, false, false, false, false, false, false, false, false, false, false, false, false, false, false, false] rfl rfl (take_ofW HT_.out HW_.out (by kernel_rfl)) (fun _ _ _ h => h) (Or.inl ⟨by rfl, ?_⟩) hHeld ?_ ?_
                        rotate_left
                        · rintro w' ⟨s0, s1, s2, s3, s4, s5, s6, s7⟩
                          go_simp
                          with_reducible rfl
                        rotate_left
                        · simp only [Act.put, List.setIfInBounds_toArray, List.set_cons_zero, List.set_cons_succ, i64_w, i32_w]
                          rfl
                        refine one_ (i := 33) (N := some 102) #[true, true, true, true, true, true, true, true, true, true, true, true, true, true, true, true, true, true, true, true, true, true, true, true, true, true, true, true, true, true, true, true, true, true, true, false, false, false, false, false, false, false, false, false, false, false, false, false, false, false, false, false, false, false, false, false] rfl rfl (one_of HT_.out (by kernel_rfl)) (by decide) (fun K hK => ?_)
                        refine goes_ Tryd.func23 (by kernel_rfl) rfl #[.agg #[.string t737, .string t738]] (by rfl) rfl rfl (by (try simp only [List.map_toArray, List.map_cons, List.map_nil]); rfl) ?_
                        with_reducible refine (impl_FieldOk.calls k t737 t738 t752 _ A61.out).mono ?_
                        rintro e w71 ⟨rfl, hb⟩
                        refine ⟨_, rfl, ?_⟩
                        have n0_ := Aside0.mk (Kd.R_below (by (with_reducible repeat (first | apply Kd.R_alloc | apply Kd.R_drewN | apply Kd.R_drew )); exact HO717.out) hb)
                        have n1_ := Aside0.mk (Kd.R_below (by (with_reducible repeat (first | apply Kd.R_alloc | apply Kd.R_drewN | apply Kd.R_drew )); exact HO724.out) hb)
                        have n2_ := Aside0.mk (Kd.R_below (by (with_reducible repeat (first | apply Kd.R_alloc | apply Kd.R_drewN | apply Kd.R_drew )); exact HO731.out) hb)
                        have n3_ := Aside0.mk (Kd.R_below (by (with_reducible repeat (first | apply Kd.R_alloc | apply Kd.R_drewN | apply Kd.R_drew )); exact HO743.out) hb)
                        have n4_ := Aside0.mk (blk_below (g := gb720) (o := .cells #[.string t714, .slice Ao20 t715.length co20] 26 (0, 0)) (by (with_reducible repeat (first | refine blk_drewN ?_ _ | refine blk_drew ?_ | refine blk_alloc ?_ _ )); exact BK720.out) hb)
                        have n5_ := Aside0.mk (blk_below (g := gb727) (o := .cells #[.string t721, .slice Ao25 t722.length co25] 26 (0, 0)) (by (with_reducible repeat (first | refine blk_drewN ?_ _ | refine blk_drew ?_ | refine blk_alloc ?_ _ )); exact BK727.out) hb)
                        have n6_ := Aside0.mk (blk_below (g := gb732) (o := .cells #[.string t728, .slice Ao31 t729.length co31] 26 (0, 0)) (by (with_reducible repeat (first | refine blk_drewN ?_ _ | refine blk_drew ?_ | refine blk_alloc ?_ _ )); exact BK732.out) hb)
                        have n7_ := Aside0.mk (blk_below (g := gb739) (o := .cells #[.string t737, .string t738] 40 (0, 0)) (by (with_reducible repeat (first | refine blk_drewN ?_ _ | refine blk_drew ?_ | refine blk_alloc ?_ _ )); exact BK739.out) hb)
                        have n8_ := Aside0.mk (blk_below (g := gb745) (o := .cells #[.string t740, .slice Ao48 t741.length co48] 26 (0, 0)) (by (with_reducible repeat (first | refine blk_drewN ?_ _ | refine blk_drew ?_ | refine blk_alloc ?_ _ )); exact BK745.out) hb)
                        have n9_ := Aside0.mk (below_step (by repeat ((with_reducible exact HB.out))) hb)
                        clear HO717
                        clear HO724
                        clear HO731
                        clear HO743
                        clear BK720
                        clear BK727
                        clear BK732
                        clear BK739
                        clear BK745
                        clear HB
                        have HO717 := n0_
                        have HO724 := n1_
                        have HO731 := n2_
                        have HO743 := n3_
                        have BK720 := n4_
                        have BK727 := n5_
                        have BK732 := n6_
                        have BK739 := n7_
                        have BK745 := n8_
                        have HB := n9_
                        clear n0_ n1_ n2_ n3_ n4_ n5_ n6_ n7_ n8_ n9_
                        (try clear hb)
                        (try clear hb2)
                        (try clear hk)
                        (try clear hi)
                        refine hK.out _ _ ⟨(blk_cell BK720.out 0).trans rfl, (blk_cell BK720.out 1).trans rfl, (blk_cell BK727.out 0).trans rfl, (blk_cell BK727.out 1).trans rfl, (blk_cell BK739.out 0).trans rfl, (blk_cell BK739.out 1).trans rfl, (blk_cell BK732.out 0).trans rfl, (blk_cell BK732.out 1).trans rfl⟩ (fun hHeld => ?_)
                        clear hK K
                        refine norm_ (a' := ?_) ?_ ?_
                        rotate_left
                        · show Act.put _ (some 102) _ = _
                          simp only [Act.put, List.setIfInBounds_toArray, List.set_cons_zero, List.set_cons_succ, i64_w, i32_w]
                          rfl
                        refine one_ (i := 35) (N := some 104) #[true, true, true, true, true, true, true, true, true, true, true, true, true, true, true, true, true, true, true, true, true, true, true, true, true, true, true, true, true, true, true, true, true, true, true, true, false, false, false, false, false, false, false, false, false, false, false, false, false, false, false, false, false, false, false, false] rfl rfl (one_of HT_.out (by kernel_rfl)) (by decide) (fun K hK => ?_)
                        refine goes_ Tryd.func21 (by kernel_rfl) rfl #[.agg #[.string t737, .string t738]] (by rfl) rfl rfl (by (try simp only [List.map_toArray, List.map_cons, List.map_nil]); rfl) ?_
                        with_reducible refine (spec_FieldOk.calls k t737 t738 t753 _ A62.out).mono ?_
                        rintro e w72 ⟨rfl, hb⟩
                        refine ⟨_, rfl, ?_⟩
                        have n0_ := Aside0.mk (Kd.R_below (by (with_reducible repeat (first | apply Kd.R_alloc | apply Kd.R_drewN | apply Kd.R_drew )); exact HO717.out) hb)
                        have n1_ := Aside0.mk (Kd.R_below (by (with_reducible repeat (first | apply Kd.R_alloc | apply Kd.R_drewN | apply Kd.R_drew )); exact HO724.out) hb)
                        have n2_ := Aside0.mk (Kd.R_below (by (with_reducible repeat (first | apply Kd.R_alloc | apply Kd.R_drewN | apply Kd.R_drew )); exact HO731.out) hb)
                        have n3_ := Aside0.mk (Kd.R_below (by (with_reducible repeat (first | apply Kd.R_alloc | apply Kd.R_drewN | apply Kd.R_drew )); exact HO743.out) hb)
                        have n4_ := Aside0.mk (blk_below (g := gb720) (o := .cells #[.string t714, .slice Ao20 t715.length co20] 26 (0, 0)) (by (with_reducible repeat (first | refine blk_drewN ?_ _ | refine blk_drew ?_ | refine blk_alloc ?_ _ )); exact BK720.out) hb)
                        have n5_ := Aside0.mk (blk_below (g := gb727) (o := .cells #[.string t721, .slice Ao25 t722.length co25] 26 (0, 0)) (by (with_reducible repeat (first | refine blk_drewN ?_ _ | refine blk_drew ?_ | refine blk_alloc ?_ _ )); exact BK727.out) hb)
                        have n6_ := Aside0.mk (blk_below (g := gb732) (o := .cells #[.string t728, .slice Ao31 t729.length co31] 26 (0, 0)) (by (with_reducible repeat (first | refine blk_drewN ?_ _ | refine blk_drew ?_ | refine blk_alloc ?_ _ )); exact BK732.out) hb)
                        have n7_ := Aside0.mk (blk_below (g := gb739) (o := .cells #[.string t737, .string t738] 40 (0, 0)) (by (with_reducible repeat (first | refine blk_drewN ?_ _ | refine blk_drew ?_ | refine blk_alloc ?_ _ )); exact BK739.out) hb)
                        have n8_ := Aside0.mk (blk_below (g := gb745) (o := .cells #[.string t740, .slice Ao48 t741.length co48] 26 (0, 0)) (by (with_reducible repeat (first | refine blk_drewN ?_ _ | refine blk_drew ?_ | refine blk_alloc ?_ _ )); exact BK745.out) hb)
                        have n9_ := Aside0.mk (below_step (by repeat ((with_reducible exact HB.out))) hb)
                        clear HO717
                        clear HO724
                        clear HO731
                        clear HO743
                        clear BK720
                        clear BK727
                        clear BK732
                        clear BK739
                        clear BK745
                        clear HB
                        have HO717 := n0_
                        have HO724 := n1_
                        have HO731 := n2_
                        have HO743 := n3_
                        have BK720 := n4_
                        have BK727 := n5_
                        have BK732 := n6_
                        have BK739 := n7_
                        have BK745 := n8_
                        have HB := n9_
                        clear n0_ n1_ n2_ n3_ n4_ n5_ n6_ n7_ n8_ n9_
                        (try clear hb)
                        (try clear hb2)
                        (try clear hk)
                        (try clear hi)
                        refine hK.out _ _ ⟨(blk_cell BK720.out 0).trans rfl, (blk_cell BK720.out 1).trans rfl, (blk_cell BK727.out 0).trans rfl, (blk_cell BK727.out 1).trans rfl, (blk_cell BK739.out 0).trans rfl, (blk_cell BK739.out 1).trans rfl, (blk_cell BK732.out 0).trans rfl, (blk_cell BK732.out 1).trans rfl⟩ (fun hHeld => ?_)
                        clear hK K
                        refine norm_ (a' := ?_) ?_ ?_
                        rotate_left
                        · show Act.put _ (some 104) _ = _
                          simp only [Act.put, List.setIfInBounds_toArray, List.set_cons_zero, List.set_cons_succ, i64_w, i32_w]
                          rfl
                        refine pure_ (i := 36) (N := some 105) (v := ?_) (a' := ?_) #[true, true, true, true, true, true, true, true, true, true, true, true, true, true, true, true, true, true, true, true, true, true, true, true, true, true, true, true, true, true, true, true, true, true, true, true, true, false, false, false, false, false, false, false, false, false, false, false, false, false, false, false, false, false, false, false] rfl rfl (any_of HT_.out (by kernel_rfl)) (fun _ _ _ h => h) (Or.inl ⟨by rfl, ?_⟩) ?_ ?_
                        rotate_left
                        · intro w'
                          go_simp
                          with_reducible rfl
                        rotate_left
                        · simp only [Act.put, List.setIfInBounds_toArray, List.set_cons_zero, List.set_cons_succ, i64_w, i32_w]
                          rfl
                        refine pure_ (i := 37) (N := some 106) (v := ?_) (a' := ?_) #[true, true, true, true, true, true, true, true, true, true, true, true, true, true, true, true, true, true, true, true, true, true, true, true, true, true, true, true, true, true, true, true, true, true, true, true, true, true, false, false, false, false, false, false, false, false, false, false, false, false, false, false, false, false, false, false] rfl rfl (any_of HT_.out (by kernel_rfl)) (fun _ _ _ h => h) (Or.inl ⟨by rfl, ?_⟩) ?_ ?_
                        rotate_left
                        · intro w'
                          go_simp
                          with_reducible rfl
                        rotate_left
                        · simp only [Act.put, List.setIfInBounds_toArray, List.set_cons_zero, List.set_cons_succ, i64_w, i32_w]
                          rfl
                        refine pure_ (i := 38) (N := some 107) (v := ?_) (a' := ?_) #[true, true, true, true, true, true, true, true, true, true, true, true, true, true, true, true, true, true, true, true, true, true, true, true, true, true, true, true, true, true, true, true, true, true, true, true, true, true, true, false, false, false, false, false, false, false, false, false, false, false, false, false, false, false, false, false] rfl rfl (any_of HT_.out (by kernel_rfl)) (fun _ _ _ h => h) (Or.inl ⟨by rfl, ?_⟩) ?_ ?_
                        rotate_left
                        · intro w'
                          go_simp
                          with_reducible rfl
                        rotate_left
                        · simp only [Act.put, List.setIfInBounds_toArray, List.set_cons_zero, List.set_cons_succ, i64_w, i32_w]
                          rfl
                        refine pure_ (i := 39) (N := some 108) (v := ?_) (a' := ?_) #[true, true, true, true, true, true, true, true, true, true, true, true, true, true, true, true, true, true, true, true, true, true, true, true, true, true, true, true, true, true, true, true, true, true, true, true, true, true, true, true, false, false, false, false, false, false, false, false, false, false, false, false, false, false, false, false] rfl rfl (any_of HT_.out (by kernel_rfl)) (fun _ _ _ h => h) (Or.inl ⟨by rfl, ?_⟩) ?_ ?_
                        rotate_left
                        · intro w'
                          go_simp
                          with_reducible rfl
                        rotate_left
                        · simp only [Act.put, List.setIfInBounds_toArray, List.set_cons_zero, List.set_cons_succ, i64_w, i32_w]
                          rfl
                        refine pure_ (i := 40) (N := some 109) (v := ?_) (a' := ?_) #[true, true, true, true, true, true, true, true, true, true, true, true, true, true, true, true, true, true, true, true, true, true, true, true, true, true, true, true, true, true, true, true, true, true, true, true, true, true, true, true, true, false, false, false, false, false, false, false, false, false, false, false, false, false, false, false] rfl rfl (any_of HT_.out (by kernel_rfl)) (fun _ _ _ h => h) (Or.inl ⟨by rfl, ?_⟩) ?_ ?_
                        rotate_left
                        · intro w'
                          go_simp
                          with_reducible rfl
                        rotate_left
                        · simp only [Act.put, List.setIfInBounds_toArray, List.set_cons_zero, List.set_cons_succ, i64_w, i32_w]
                          rfl
                        refine pure_ (i := 41) (N := some 110) (v := ?_) (a' := ?_) #[true, true, true, true, true, true, true, true, true, true, true, true, true, true, true, true, true, true, true, true, true, true, true, true, true, true, true, true, true, true, true, true, true, true, true, true, true, true, true, true, true, true, false, false, false, false, false, false, false, false, false, false, false, false, false, false] rfl rfl (any_of HT_.out (by kernel_rfl)) (fun _ _ _ h => h) (Or.inl ⟨by rfl, ?_⟩) ?_ ?_
                        rotate_left
                        · intro w'
                          go_simp
                          with_reducible rfl
                        rotate_left
                        · simp only [Act.put, List.setIfInBounds_toArray, List.set_cons_zero, List.set_cons_succ, i64_w, i32_w]
                          rfl
                        refine pure_ (i := 42) (N := some 111) (v := ?_) (a' := ?_) #[true, true, true, true, true, true, true, true, true, true, true, true, true, true, true, true, true, true, true, true, true, true, true, true, true, true, true, true, true, true, true, true, true, true, true, true, true, true, true, true, true, true, true, false, false, false, false, false, false, false, false, false, false, false, false, false] rfl rfl (any_of HT_.out (by kernel_rfl)) (fun _ _ _ h => h) (Or.inl ⟨by rfl, ?_⟩) ?_ ?_
                        rotate_left
                        · intro w'
                          go_simp
                          with_reducible rfl
                        rotate_left
                        · simp only [Act.put, List.setIfInBounds_toArray, List.set_cons_zero, List.set_cons_succ, i64_w, i32_w]
                          rfl
                        refine pure_ (i := 43) (N := some 112) (v := ?_) (a' := ?_) #[true, true, true, true, true, true, true, true, true, true, true, true, true, true, true, true, true, true, true, true, true, true, true, true, true, true, true, true, true, true, true, true, true, true, true, true, true, true, true, true, true, true, true, true, false, false, false, false, false, false, false, false, false, false, false, false] rfl rfl (any_of HT_.out (by kernel_rfl)) (fun _ _ _ h => h) (Or.inl ⟨by rfl, ?_⟩) ?_ ?_
                        rotate_left
                        · intro w'
                          go_simp
                          with_reducible rfl
                        rotate_left
                        · simp only [Act.put, List.setIfInBounds_toArray, List.set_cons_zero, List.set_cons_succ, i64_w, i32_w]
                          rfl
                        refine pure_ (i := 44) (N := some 113) (v := ?_) (a' := ?_) #[true, true, true, true, true, true, true, true, true, true, true, true, true, true, true, true, true, true, true, true, true, true, true, true, true, true, true, true, true, true, true, true, true, true, true, true, true, true, true, true, true, true, true, true, true, false, false, false, false, false, false, false, false, false, false, false] rfl rfl (any_of HT_.out (by kernel_rfl)) (fun _ _ _ h => h) (Or.inl ⟨by rfl, ?_⟩) ?_ ?_
                        rotate_left
                        · intro w'
                          go_simp
                          with_reducible rfl
                        rotate_left
                        · simp only [Act.put, List.setIfInBounds_toArray, List.set_cons_zero, List.set_cons_succ, i64_w, i32_w]
                          rfl
                        refine pure_ (i := 45) (N := some 114) (v := ?_) (a' := ?_) #[true, true, true, true, true, true, true, true, true, true, true, true, true, true, true, true, true, true, true, true, true, true, true, true, true, true, true, true, true, true, true, true, true, true, true, true, true, true, true, true, true, true, true, true, true, true, false, false, false, false, false, false, false, false, false, false] rfl rfl (any_of HT_.out (by kernel_rfl)) (fun _ _ _ h => h) (Or.inl ⟨by rfl, ?_⟩) ?_ ?_
                        rotate_left
                        · intro w'
                          go_simp
                          with_reducible rfl
                        rotate_left
                        · simp only [Act.put, List.setIfInBounds_toArray, List.set_cons_zero, List.set_cons_succ, i64_w, i32_w]
                          rfl
                        refine pure_ (i := 46) (N := some 115) (v := ?_) (a' := ?_) #[true, true, true, true, true, true, true, true, true, true, true, true, true, true, true, true, true, true, true, true, true, true, true, true, true, true, true, true, true, true, true, true, true, true, true, true, true, true, true, true, true, true, true, true, true, true, true, false, false, false, false, false, false, false, false, false] rfl rfl (any_of HT_.out (by kernel_rfl)) (fun _ _ _ h => h) (Or.inl ⟨by rfl, ?_⟩) ?_ ?_
                        rotate_left
                        · intro w'
                          go_simp
                          with_reducible rfl
                        rotate_left
                        · simp only [Act.put, List.setIfInBounds_toArray, List.set_cons_zero, List.set_cons_succ, i64_w, i32_w]
                          rfl
                        refine pure_ (i := 47) (N := some 116) (v := ?_) (a' := ?_) #[true, true, true, true, true, true, true, true, true, true, true, true, true, true, true, true, true, true, true, true, true, true, true, true, true, true, true, true, true, true, true, true, true, true, true, true, true, true, true, true, true, true, true, true, true, true, true, true, false, false, false, false, false, false, false, false] rfl rfl (any_of HT_.out (by kernel_rfl)) (fun _ _ _ h => h) (Or.inl ⟨by rfl, ?_⟩) ?_ ?_
                        rotate_left
                        · intro w'
                          go_simp
                          with_reducible rfl
                        rotate_left
                        · simp only [Act.put, List.setIfInBounds_toArray, List.set_cons_zero, List.set_cons_succ, i64_w, i32_w]
                          rfl
                        refine pure_ (i := 48) (N := some 117) (v := ?_) (a' := ?_) #[true, true, true, true, true, true, true, true, true, true, true, true, true, true, true, true, true, true, true, true, true, true, true, true, true, true, true, true, true, true, true, true, true, true, true, true, true, true, true, true, true, true, true, true, true, true, true, true, true, false, false, false, false, false, false, false] rfl rfl (any_of HT_.out (by kernel_rfl)) (fun _ _ _ h => h) (Or.inl ⟨by rfl, ?_⟩) ?_ ?_
                        rotate_left
                        · intro w'
                          go_simp
                          with_reducible rfl
                        rotate_left
                        · simp only [Act.put, List.setIfInBounds_toArray, List.set_cons_zero, List.set_cons_succ, i64_w, i32_w]
                          rfl
                        refine take_ (i := 49) (N := some 118) (v := ?_) (a' := ?_) #[true, true, true, true, true, true, true, true, true, true, true, true, true, true, true, true, true, true, true, true, true, true, true, true, true, true, true, true, true, true, true, true, true, true, true, true, true, true, true, true, true, true, true, true, true, true, true, true, true, true, false, false, false, false, false, false] rfl rfl (take_ofW HT_.out HW_.out (by kernel_rfl)) (fun _ _ _ h => h) (Or.inl ⟨by rfl, ?_⟩) hHeld ?_ ?_
                        rotate_left
                        · rintro w' ⟨s0, s1, s2, s3, s4, s5, s6, s7⟩
                          go_simp
                          with_reducible rfl
                        rotate_left
                        · simp only [Act.put, List.setIfInBounds_toArray, List.set_cons_zero, List.set_cons_succ, i64_w, i32_w]
                          rfl
                        refine take_ (i := 51) (N := some 120) (v := ?_) (a' := ?_) #[true, true, true, true, true, true, true, true, true, true, true, true, true, true, true, true, true, true, true, true, true, true, true, true, true, true, true, true, true, true, true, true, true, true, true, true, true, true, true, true, true, true, true, true, true, true, true, true, true, true, false, true, false, false, false, false] rfl rfl (take_ofW HT_.out HW_.out (by kernel_rfl)) (fun _ _ _ h => h) (Or.inl ⟨by rfl, ?_⟩) hHeld ?_ ?_
                        rotate_left
                        · rintro w' ⟨s0, s1, s2, s3, s4, s5, s6, s7⟩
                          go_simp
                          with_reducible rfl
                        rotate_left
                        · simp only [Act.put, List.setIfInBounds_toArray, List.set_cons_zero, List.set_cons_succ, i64_w, i32_w]
                          rfl
                        refine one_ (i := 50) (N := some 119) #[true, true, true, true, true, true, true, true, true, true, true, true, true, true, true, true, true, true, true, true, true, true, true, true, true, true, true, true, true, true, true, true, true, true, true, true, true, true, true, true, true, true, true, true, true, true, true, true, true, true, true, true, false, false, false, false] rfl rfl (one_of HT_.out (by kernel_rfl)) (by decide) (fun K hK => ?_)
                        refine goes_ Tryd.func19 (by kernel_rfl) rfl #[.agg #[.string t728, .slice Ao31 t729.length co31]] (by rfl) rfl rfl (by (try simp only [List.map_toArray, List.map_cons, List.map_nil]); rfl) ?_
                        with_reducible refine (impl_HeadOk.calls k t728 _ _ t729 t754 _ ?side1 ?side2 A66.out).mono ?_
                        (case side1 => repeat (exact (Kd.R_reads' HO731.out).2.2))
                        (case side2 => exact (Kd.R_reads' HO731.out).2.1)
                        rintro e w73 ⟨rfl, hb⟩
                        refine ⟨_, rfl, ?_⟩
                        have n0_ := Aside0.mk (Kd.R_below (by (with_reducible repeat (first | apply Kd.R_alloc | apply Kd.R_drewN | apply Kd.R_drew )); exact HO717.out) hb)
                        have n1_ := Aside0.mk (Kd.R_below (by (with_reducible repeat (first | apply Kd.R_alloc | apply Kd.R_drewN | apply Kd.R_drew )); exact HO724.out) hb)
                        have n2_ := Aside0.mk (Kd.R_below (by (with_reducible repeat (first | apply Kd.R_alloc | apply Kd.R_drewN | apply Kd.R_drew )); exact HO731.out) hb)
                        have n3_ := Aside0.mk (Kd.R_below (by (with_reducible repeat (first | apply Kd.R_alloc | apply Kd.R_drewN | apply Kd.R_drew )); exact HO743.out) hb)
                        have n4_ := Aside0.mk (blk_below (g := gb720) (o := .cells #[.string t714, .slice Ao20 t715.length co20] 26 (0, 0)) (by (with_reducible repeat (first | refine blk_drewN ?_ _ | refine blk_drew ?_ | refine blk_alloc ?_ _ )); exact BK720.out) hb)
                        have n5_ := Aside0.mk (blk_below (g := gb727) (o := .cells #[.string t721, .slice Ao25 t722.length co25] 26 (0, 0)) (by (with_reducible repeat (first | refine blk_drewN ?_ _ | refine blk_drew ?_ | refine blk_alloc ?_ _ )); exact BK727.out) hb)
                        have n6_ := Aside0.mk (blk_below (g := gb732) (o := .cells #[.string t728, .slice Ao31 t729.length co31] 26 (0, 0)) (by (with_reducible repeat (first | refine blk_drewN ?_ _ | refine blk_drew ?_ | refine blk_alloc ?_ _ )); exact BK732.out) hb)
                        have n7_ := Aside0.mk (blk_below (g := gb739) (o := .cells #[.string t737, .string t738] 40 (0, 0)) (by (with_reducible repeat (first | refine blk_drewN ?_ _ | refine blk_drew ?_ | refine blk_alloc ?_ _ )); exact BK739.out) hb)
                        have n8_ := Aside0.mk (blk_below (g := gb745) (o := .cells #[.string t740, .slice Ao48 t741.length co48] 26 (0, 0)) (by (with_reducible repeat (first | refine blk_drewN ?_ _ | refine blk_drew ?_ | refine blk_alloc ?_ _ )); exact BK745.out) hb)
                        have n9_ := Aside0.mk (below_step (by repeat ((with_reducible exact HB.out))) hb)
                        clear HO717
                        clear HO724
                        clear HO731
                        clear HO743
                        clear BK720
                        clear BK727
                        clear BK732
                        clear BK739
                        clear BK745
                        clear HB
                        have HO717 := n0_
                        have HO724 := n1_
                        have HO731 := n2_
                        have HO743 := n3_
                        have BK720 := n4_
                        have BK727 := n5_
                        have BK732 := n6_
                        have BK739 := n7_
                        have BK745 := n8_
                        have HB := n9_
                        clear n0_ n1_ n2_ n3_ n4_ n5_ n6_ n7_ n8_ n9_
                        (try clear hb)
                        (try clear hb2)
                        (try clear hk)
                        (try clear hi)
                        refine hK.out _ _ ⟨(blk_cell BK720.out 0).trans rfl, (blk_cell BK720.out 1).trans rfl, (blk_cell BK727.out 0).trans rfl, (blk_cell BK727.out 1).trans rfl, (blk_cell BK739.out 0).trans rfl, (blk_cell BK739.out 1).trans rfl, (blk_cell BK732.out 0).trans rfl, (blk_cell BK732.out 1).trans rfl⟩ (fun hHeld => ?_)
                        clear hK K
                        refine norm_ (a' := ?_) ?_ ?_
                        rotate_left
                        · show Act.put _ (some 119) _ = _
                          simp only [Act.put, List.setIfInBounds_toArray, List.set_cons_zero, List.set_cons_succ, i64_w, i32_w]
                          rfl
                        refine one_ (i := 52) (N := some 121) #[true, true, true, true, true, true, true, true, true, true, true, true, true, true, true, true, true, true, true, true, true, true, true, true, true, true, true, true, true, true, true, true, true, true, true, true, true, true, true, true, true, true, true, true, true, true, true, true, true, true, true, true, true, false, false, false] rfl rfl (one_of HT_.out (by kernel_rfl)) (by decide) (fun K hK => ?_)
                        refine goes_ Tryd.func25 (by kernel_rfl) rfl #[.agg #[.string t728, .slice Ao31 t729.length co31]] (by rfl) rfl rfl (by (try simp only [List.map_toArray, List.map_cons, List.map_nil]); rfl) ?_
                        with_reducible refine (spec_HeadOk.calls k t728 _ _ t729 t755 _ ?side1 ?side2 A67.out).mono ?_
                        (case side1 => repeat (exact (Kd.R_reads' HO731.out).2.2))
                        (case side2 => exact (Kd.R_reads' HO731.out).2.1)
                        rintro e w74 ⟨rfl, hb⟩
                        refine ⟨_, rfl, ?_⟩
                        have n0_ := Aside0.mk (Kd.R_below (by (with_reducible repeat (first | apply Kd.R_alloc | apply Kd.R_drewN | apply Kd.R_drew )); exact HO717.out) hb)
                        have n1_ := Aside0.mk (Kd.R_below (by (with_reducible repeat (first | apply Kd.R_alloc | apply Kd.R_drewN | apply Kd.R_drew )); exact HO724.out) hb)
                        have n2_ := Aside0.mk (Kd.R_below (by (with_reducible repeat (first | apply Kd.R_alloc | apply Kd.R_drewN | apply Kd.R_drew )); exact HO731.out) hb)
                        have n3_ := Aside0.mk (Kd.R_below (by (with_reducible repeat (first | apply Kd.R_alloc | apply Kd.R_drewN | apply Kd.R_drew )); exact HO743.out) hb)
                        have n4_ := Aside0.mk (blk_below (g := gb720) (o := .cells #[.string t714, .slice Ao20 t715.length co20] 26 (0, 0)) (by (with_reducible repeat (first | refine blk_drewN ?_ _ | refine blk_drew ?_ | refine blk_alloc ?_ _ )); exact BK720.out) hb)
                        have n5_ := Aside0.mk (blk_below (g := gb727) (o := .cells #[.string t721, .slice Ao25 t722.length co25] 26 (0, 0)) (by (with_reducible repeat (first | refine blk_drewN ?_ _ | refine blk_drew ?_ | refine blk_alloc ?_ _ )); exact BK727.out) hb)
                        have n6_ := Aside0.mk (blk_below (g := gb732) (o := .cells #[.string t728, .slice Ao31 t729.length co31] 26 (0, 0)) (by (with_reducible repeat (first | refine blk_drewN ?_ _ | refine blk_drew ?_ | refine blk_alloc ?_ _ )); exact BK732.out) hb)
                        have n7_ := Aside0.mk (blk_below (g := gb739) (o := .cells #[.string t737, .string t738] 40 (0, 0)) (by (with_reducible repeat (first | refine blk_drewN ?_ _ | refine blk_drew ?_ | refine blk_alloc ?_ _ )); exact BK739.out) hb)
                        have n8_ := Aside0.mk (blk_below (g := gb745) (o := .cells #[.string t740, .slice Ao48 t741.length co48] 26 (0, 0)) (by (with_reducible repeat (first | refine blk_drewN ?_ _ | refine blk_drew ?_ | refine blk_alloc ?_ _ )); exact BK745.out) hb)
                        have n9_ := Aside0.mk (below_step (by repeat ((with_reducible exact HB.out))) hb)
                        clear HO717
                        clear HO724
                        clear HO731
                        clear HO743
                        clear BK720
                        clear BK727
                        clear BK732
                        clear BK739
                        clear BK745
                        clear HB
                        have HO717 := n0_
                        have HO724 := n1_
                        have HO731 := n2_
                        have HO743 := n3_
                        have BK720 := n4_
                        have BK727 := n5_
                        have BK732 := n6_
                        have BK739 := n7_
                        have BK745 := n8_
                        have HB := n9_
                        clear n0_ n1_ n2_ n3_ n4_ n5_ n6_ n7_ n8_ n9_
                        (try clear hb)
                        (try clear hb2)
                        (try clear hk)
                        (try clear hi)
                        refine hK.out _ _ ⟨(blk_cell BK720.out 0).trans rfl, (blk_cell BK720.out 1).trans rfl, (blk_cell BK727.out 0).trans rfl, (blk_cell BK727.out 1).trans rfl, (blk_cell BK739.out 0).trans rfl, (blk_cell BK739.out 1).trans rfl, (blk_cell BK732.out 0).trans rfl, (blk_cell BK732.out 1).trans rfl⟩ (fun hHeld => ?_)
                        clear hK K
                        refine norm_ (a' := ?_) ?_ ?_
                        rotate_left
                        · show Act.put _ (some 121) _ = _
                          simp only [Act.put, List.setIfInBounds_toArray, List.set_cons_zero, List.set_cons_succ, i64_w, i32_w]
                          rfl
                        refine pure_ (i := 53) (N := some 122) (v := ?_) (a' := ?_) #[true, true, true, true, true, true, true, true, true, true, true, true, true, true, true, true, true, true, true, true, true, true, true, true, true, true, true, true, true, true, true, true, true, true, true, true, true, true, true, true, true, true, true, true, true, true, true, true, true, true, true, true, true, true, false, false] rfl rfl (any_of HT_.out (by kernel_rfl)) (fun _ _ _ h => h) (Or.inl ⟨by rfl, ?_⟩) ?_ ?_
                        rotate_left
                        · intro w'
                          go_simp
                          with_reducible rfl
                        rotate_left
                        · simp only [Act.put, List.setIfInBounds_toArray, List.set_cons_zero, List.set_cons_succ, i64_w, i32_w]
                          rfl
                        refine pure_ (i := 54) (N := some 123) (v := ?_) (a' := ?_) #[true, true, true, true, true, true, true, true, true, true, true, true, true, true, true, true, true, true, true, true, true, true, true, true, true, true, true, true, true, true, true, true, true, true, true, true, true, true, true, true, true, true, true, true, true, true, true, true, true, true, true, true, true, true, true, false] rfl rfl (any_of HT_.out (by kernel_rfl)) (fun _ _ _ h => h) (Or.inl ⟨by rfl, ?_⟩) ?_ ?_
                        rotate_left
                        · intro w'
                          go_simp
                          with_reducible rfl
                        rotate_left
                        · simp only [Act.put, List.setIfInBounds_toArray, List.set_cons_zero, List.set_cons_succ, i64_w, i32_w]
                          rfl
                        refine pure_ (i := 55) (N := some 2) (v := ?_) (a' := ?_) #[true, true, true, true, true, true, true, true, true, true, true, true, true, true, true, true, true, true, true, true, true, true, true, true, true, true, true, true, true, true, true, true, true, true, true, true, true, true, true, true, true, true, true, true, true, true, true, true, true, true, true, true, true, true, true, true] rfl rfl (any_of HT_.out (by kernel_rfl)) (fun _ _ _ h => h) (Or.inl ⟨by rfl, ?_⟩) ?_ ?_
                        rotate_left
                        · intro w'
                          go_simp
                          with_reducible rfl
                        rotate_left
                        · simp only [Act.put, List.setIfInBounds_toArray, List.set_cons_zero, List.set_cons_succ, i64_w, i32_w]
                          rfl
                        refine done_ (done_of HT_.out (by kernel_rfl)) ?_
                        go_wp2
                        go_ret
                        exact ⟨by rfl, by repeat ((with_reducible exact HB.out))⟩
                      · rw [if_neg c65] at H
                        have c65b0 : (t747 == t749) = false := by simpa using c65
                        (try (have c65b1 : decide (t747 = t749) = false := by simpa using c65))
                        (try (have c65b2 : (t747 == t749) = false := by simpa using c65))
                        (try (have c65b3 : ¬ (t747 = t749) := by simpa using c65))
                        clear c65
                        exact absurd H (by simp)
                    · rw [if_neg c64] at H
                      have c64b0 : (t746.toList == t748.toList) = false := beq_eq_false_iff_ne.mpr c64
                      have c64b1 : (t746.toList != t748.toList) = true := bne_iff_ne.mpr c64
                      exact absurd H (by simp)
                  · rw [if_neg c63] at H
                    have c63b0 : (t752 == t753) = false := by simpa using c63
                    (try (have c63b1 : decide (t752 = t753) = false := by simpa using c63))
                    (try (have c63b2 : (t752 == t753) = false := by simpa using c63))
                    (try (have c63b3 : ¬ (t752 = t753) := by simpa using c63))
                    clear c63
                    exact absurd H (by simp)
                · rw [if_neg c60] at H
                  have c60b0 : (t733.toList == t735.toList) = false := beq_eq_false_iff_ne.mpr c60
                  have c60b1 : (t733.toList != t735.toList) = true := bne_iff_ne.mpr c60
                  exact absurd H (by simp)
              · rw [if_neg c59] at H
                have c59b0 : (t734 == t736) = false := by simpa using c59
                (try (have c59b1 : decide (t734 = t736) = false := by simpa using c59))
                (try (have c59b2 : (t734 == t736) = false := by simpa using c59))
                (try (have c59b3 : ¬ (t734 = t736) := by simpa using c59))
                clear c59
                exact absurd H (by simp)
            · replace c58 := Bool.eq_false_iff.mpr c58
              subst c58
              have H1 : (none) = some r := by rw [if_neg (show ¬ (false = true) by decide)] at H; exact H
              clear H
              have H := H1
              clear H1
              exact absurd H (by simp)
          · rw [if_neg c56] at H
            have c56b0 : (t719 == 0) = false := beq_eq_false_iff_ne.mpr c56
            have c56b1 : (t719 != 0) = true := bne_iff_ne.mpr c56
            by_cases c75 : (t734 == t736) = true
            · rw [if_pos c75] at H
              have c75b0 : (t734 == t736) = true := c75
              (try (have c75b1 : decide (t734 = t736) = true := by simpa using c75))
              (try (have c75b2 : (t734 == t736) = true := by simpa using c75))
              clear c75
              by_cases c76 : t733.toList = t735.toList
              · rw [if_pos c76] at H
                have c76b0 : (t733.toList == t735.toList) = true := beq_iff_eq.mpr c76
                have c76b1 : (t733.toList != t735.toList) = false := bne_eq_false_iff_eq.mpr c76
                clear c76
                replace H := Option.bind_eq_some_iff.mp H
                obtain ⟨t756, A770, H⟩ := H
                replace H : ((spec_FieldOk.f k t737 t738).bind fun t757 => (if (t756 == t757) = true then (if t746.toList = t748.toList then (if (t747 == t749) = true then ((impl_HeadOk.f k t728 t729).bind fun t758 => ((spec_HeadOk.f k t728 t729).bind fun t759 => (some (t758 == t759)))) else (none)) else (none)) else (none))) = some r := H
                have A77 := Aside0.mk A770
                clear A770
                replace H := Option.bind_eq_some_iff.mp H
                obtain ⟨t757, A780, H⟩ := H
                replace H : (if (t756 == t757) = true then (if t746.toList = t748.toList then (if (t747 == t749) = true then ((impl_HeadOk.f k t728 t729).bind fun t758 => ((spec_HeadOk.f k t728 t729).bind fun t759 => (some (t758 == t759)))) else (none)) else (none)) else (none)) = some r := H
                have A78 := Aside0.mk A780
                clear A780
                by_cases c79 : (t756 == t757) = true
                · rw [if_pos c79] at H
                  have c79b0 : (t756 == t757) = true := c79
                  (try (have c79b1 : decide (t756 = t757) = true := by simpa using c79))
                  (try (have c79b2 : (t756 == t757) = true := by simpa using c79))
                  clear c79
                  by_cases c80 : t746.toList = t748.toList
                  · rw [if_pos c80] at H
                    have c80b0 : (t746.toList == t748.toList) = true := beq_iff_eq.mpr c80
                    have c80b1 : (t746.toList != t748.toList) = false := bne_eq_false_iff_eq.mpr c80
                    clear c80
                    by_cases c81 : (t747 == t749) = true
                    · rw [if_pos c81] at H
                      have c81b0 : (t747 == t749) = true := c81
                      (try (have c81b1 : decide (t747 = t749) = true := by simpa using c81))
                      (try (have c81b2 : (t747 == t749) = true := by simpa using c81))
                      clear c81
                      replace H := Option.bind_eq_some_iff.mp H
                      obtain ⟨t758, A820, H⟩ := H
                      replace H : ((spec_HeadOk.f k t728 t729).bind fun t759 => (some (t758 == t759))) = some r := H
                      have A82 := Aside0.mk A820
                      clear A820
                      replace H := Option.bind_eq_some_iff.mp H
                      obtain ⟨t759, A830, H⟩ := H
                      replace H : (some (t758 == t759)) = some r := H
                      have A83 := Aside0.mk A830
                      clear A830
                      obtain rfl := Option.some.inj H
                      go_wp2
                      have n0_ := Aside0.mk (Kd.R_drew HO717.out)
                      have n1_ := Aside0.mk (Kd.R_drew HO724.out)
                      have n2_ := Aside0.mk (Kd.R_drew HO731.out)
                      have n3_ := Aside0.mk (Kd.R_drew HO743.out)
                      have n4_ := Aside0.mk (blk_drew BK720.out)
                      have n5_ := Aside0.mk (blk_drew BK727.out)
                      have n6_ := Aside0.mk (blk_drew BK732.out)
                      have n7_ := Aside0.mk (blk_drew BK739.out)
                      have n8_ := Aside0.mk (blk_drew BK745.out)
                      have n9_ := Aside0.mk (below_drew1 HB.out)
                      clear HO717
                      clear HO724
                      clear HO731
                      clear HO743
                      clear BK720
                      clear BK727
                      clear BK732
                      clear BK739
                      clear BK745
                      clear HB
                      have HO717 := n0_
                      have HO724 := n1_
                      have HO731 := n2_
                      have HO743 := n3_
                      have BK720 := n4_
                      have BK727 := n5_
                      have BK732 := n6_
                      have BK739 := n7_
                      have BK745 := n8_
                      have HB := n9_
                      clear n0_ n1_ n2_ n3_ n4_ n5_ n6_ n7_ n8_ n9_
                      refine start_ (n := 56) (S := fun w' => w'.cell? ⟨gb720, 0, none⟩ = some (.string t714) ∧ w'.cell? ⟨gb720, 1, none⟩ = some (.slice Ao20 t715.length co20) ∧ w'.cell? ⟨gb727, 0, none⟩ = some (.string t721) ∧ w'.cell? ⟨gb727, 1, none⟩ = some (.slice Ao25 t722.length co25) ∧ w'.cell? ⟨gb739, 0, none⟩ = some (.string t737) ∧ w'.cell? ⟨gb739, 1, none⟩ = some (.string t738) ∧ w'.cell? ⟨gb732, 0, none⟩ = some (.string t728) ∧ w'.cell? ⟨gb732, 1, none⟩ = some (.slice Ao31 t729.length co31)) (ds := []) #[false, false, false, false, false, false, false, false, false, false, false, false, false, false, false, false, false, false, false, false, false, false, false, false, false, false, false, false, false, false, false, false, false, false, false, false, false, false, false, false, false, false, false, false, false, false, false, false, false, false, false, false, false, false, false, false] (by kernel_rfl) rfl rfl ⟨(blk_cell BK720.out 0).trans rfl, (blk_cell BK720.out 1).trans rfl, (blk_cell BK727.out 0).trans rfl, (blk_cell BK727.out 1).trans rfl, (blk_cell BK739.out 0).trans rfl, (blk_cell BK739.out 1).trans rfl, (blk_cell BK732.out 0).trans rfl, (blk_cell BK732.out 1).trans rfl⟩ (fun hHeld => ?_); refine with_tabW laws_FnHeadsTold.tab13 laws_FnHeadsTold.bits13 (fun HT_ HW_ => ?_)
                      generalize w51.drew = w84 at HO717 HO724 HO731 HO743 BK720 BK727 BK732 BK739 BK745 HB hHeld ⊢
                      refine pure_ (i := 0) (N := some 69) (v := ?_) (a' := ?_) #[true, false, false, false, false, false, false, false, false, false, false, false, false, false, false, false, false, false, false, false, false, false, false, false, false, false, false, false, false, false, false, false, false, false, false, false, false, false, false, false, false, false, false, false, false, false, false, false, false, false, false, false, false, false, false, false] rfl rfl (any_of HT_.out (by kernel_rfl)) (fun _ _ _ h => h) (Or.inl ⟨by rfl, ?_⟩) ?_ ?_
                      rotate_left
                      · intro w'
                        go_simp
                        with_reducible rfl
                      rotate_left
                      · simp only [Act.put, List.setIfInBounds_toArray, List.set_cons_zero, List.set_cons_succ, i64_w, i32_w]
                        rfl
                      refine pure_ (i := 1) (N := some 70) (v := ?_) (a' := ?_) #[true, true, false, false, false, false, false, false, false, false, false, false, false, false, false, false, false, false, false, false, false, false, false, false, false, false, false, false, false, false, false, false, false, false, false, false, false, false, false, false, false, false, false, false, false, false, false, false, false, false, false, false, false, false, false, false] rfl rfl (any_of HT_.out (by kernel_rfl)) (fun _ _ _ h => h) (Or.inl ⟨by rfl, ?_⟩) ?_ ?_
                      rotate_left
                      · intro w'
                        go_simp
                        with_reducible rfl
                      rotate_left
                      · simp only [Act.put, List.setIfInBounds_toArray, List.set_cons_zero, List.set_cons_succ, i64_w, i32_w]
                        rfl
                      refine pure_ (i := 2) (N := some 71) (v := ?_) (a' := ?_) #[true, true, true, false, false, false, false, false, false, false, false, false, false, false, false, false, false, false, false, false, false, false, false, false, false, false, false, false, false, false, false, false, false, false, false, false, false, false, false, false, false, false, false, false, false, false, false, false, false, false, false, false, false, false, false, false] rfl rfl (any_of HT_.out (by kernel_rfl)) (fun _ _ _ h => h) (Or.inl ⟨by rfl, ?_⟩) ?_ ?_
                      rotate_left
                      · intro w'
                        go_simp
                        with_reducible rfl
                      rotate_left
                      · simp only [Act.put, List.setIfInBounds_toArray, List.set_cons_zero, List.set_cons_succ, i64_w, i32_w]
                        rfl
                      refine pure_ (i := 3) (N := some 72) (v := ?_) (a' := ?_) #[true, true, true, true, false, false, false, false, false, false, false, false, false, false, false, false, false, false, false, false, false, false, false, false, false, false, false, false, false, false, false, false, false, false, false, false, false, false, false, false, false, false, false, false, false, false, false, false, false, false, false, false, false, false, false, false] rfl rfl (any_of HT_.out (by kernel_rfl)) (fun _ _ _ h => h) (Or.inl ⟨by rfl, ?_⟩) ?_ ?_
                      rotate_left
                      · intro w'
                        go_simp
                        with_reducible rfl
                      rotate_left
                      · simp only [Act.put, List.setIfInBounds_toArray, List.set_cons_zero, List.set_cons_succ, i64_w, i32_w]
                        rfl
                      refine pure_ (i := 4) (N := some 73) (v := ?_) (a' := ?_) #[true, true, true, true, true, false, false, false, false, false, false, false, false, false, false, false, false, false, false, false, false, false, false, false, false, false, false, false, false, false, false, false, false, false, false, false, false, false, false, false, false, false, false, false, false, false, false, false, false, false, false, false, false, false, false, false] rfl rfl (any_of HT_.out (by kernel_rfl)) (fun _ _ _ h => h) (Or.inl ⟨by rfl, ?_⟩) ?_ ?_
                      rotate_left
                      · intro w'
                        go_simp
                        with_reducible rfl
                      rotate_left
                      · simp only [Act.put, List.setIfInBounds_toArray, List.set_cons_zero, List.set_cons_succ, i64_w, i32_w]
                        rfl
                      refine pure_ (i := 5) (N := some 74) (v := ?_) (a' := ?_) #[true, true, true, true, true, true, false, false, false, false, false, false, false, false, false, false, false, false, false, false, false, false, false, false, false, false, false, false, false, false, false, false, false, false, false, false, false, false, false, false, false, false, false, false, false, false, false, false, false, false, false, false, false, false, false, false] rfl rfl (any_of HT_.out (by kernel_rfl)) (fun _ _ _ h => h) (Or.inl ⟨by rfl, ?_⟩) ?_ ?_
                      rotate_left
                      · intro w'
                        go_simp
                        with_reducible rfl
                      rotate_left
                      · simp only [Act.put, List.setIfInBounds_toArray, List.set_cons_zero, List.set_cons_succ, i64_w, i32_w]
                        rfl
                      refine pure_ (i := 6) (N := some 75) (v := ?_) (a' := ?_) #[true, true, true, true, true, true, true, false, false, false, false, false, false, false, false, false, false, false, false, false, false, false, false, false, false, false, false, false, false, false, false, false, false, false, false, false, false, false, false, false, false, false, false, false, false, false, false, false, false, false, false, false, false, false, false, false] rfl rfl (any_of HT_.out (by kernel_rfl)) (fun _ _ _ h => h) (Or.inl ⟨by rfl, ?_⟩) ?_ ?_
                      rotate_left
                      · intro w'
                        go_simp
                        with_reducible rfl
                      rotate_left
                      · simp only [Act.put, List.setIfInBounds_toArray, List.set_cons_zero, List.set_cons_succ, i64_w, i32_w]
                        rfl
                      refine pure_ (i := 7) (N := some 76) (v := ?_) (a' := ?_) #[true, true, true, true, true, true, true, true, false, false, false, false, false, false, false, false, false, false, false, false, false, false, false, false, false, false, false, false, false, false, false, false, false, false, false, false, false, false, false, false, false, false, false, false, false, false, false, false, false, false, false, false, false, false, false, false] rfl rfl (any_of HT_.out (by kernel_rfl)) (fun _ _ _ h => h) (Or.inl ⟨by rfl, ?_⟩) ?_ ?_
                      rotate_left
                      · intro w'
                        go_simp
                        with_reducible rfl
                      rotate_left
                      · simp only [Act.put, List.setIfInBounds_toArray, List.set_cons_zero, List.set_cons_succ, i64_w, i32_w]
                        rfl
                      refine pure_ (i := 8) (N := some 77) (v := ?_) (a' := ?_) #[true, true, true, true, true, true, true, true, true, false, false, false, false, false, false, false, false, false, false, false, false, false, false, false, false, false, false, false, false, false, false, false, false, false, false, false, false, false, false, false, false, false, false, false, false, false, false, false, false, false, false, false, false, false, false, false] rfl rfl (any_of HT_.out (by kernel_rfl)) (fun _ _ _ h => h) (Or.inl ⟨by rfl, ?_⟩) ?_ ?_
                      rotate_left
                      · intro w'
                        go_simp
                        with_reducible rfl
                      rotate_left
                      · simp only [Act.put, List.setIfInBounds_toArray, List.set_cons_zero, List.set_cons_succ, i64_w, i32_w]
                        rfl
                      refine take_ (i := 9) (N := some 78) (v := ?_) (a' := ?_) #[true, true, true, true, true, true, true, true, true, true, false, false, false, false, false, false, false, false, false, false, false, false, false, false, false, false, false, false, false, false, false, false, false, false, false, false, false, false, false, false, false, false, false, false, false, false, false, false, false, false, false, false, false, false, false, false] rfl rfl (take_ofW HT_.out HW_.out (by kernel_rfl)) (fun _ _ _ h => h) (Or.inl ⟨by rfl, ?_⟩) hHeld ?_ ?_
                      rotate_left
                      · rintro w' ⟨s0, s1, s2, s3, s4, s5, s6, s7⟩
                        go_simp
                        with_reducible rfl
                      rotate_left
                      · simp only [Act.put, List.setIfInBounds_toArray, List.set_cons_zero, List.set_cons_succ, i64_w, i32_w]
                        rfl
                      refine take_ (i := 10) (N := some 79) (v := ?_) (a' := ?_) #[true, true, true, true, true, true, true, true, true, true, true, false, false, false, false, false, false, false, false, false, false, false, false, false, false, false, false, false, false, false, false, false, false, false, false, false, false, false, false, false, false, false, false, false, false, false, false, false, false, false, false, false, false, false, false, false] rfl rfl (take_ofW HT_.out HW_.out (by kernel_rfl)) (fun _ _ _ h => h) (Or.inl ⟨by rfl, ?_⟩) hHeld ?_ ?_
                      rotate_left
                      · rintro w' ⟨s0, s1, s2, s3, s4, s5, s6, s7⟩
                        go_simp
                        with_reducible rfl
                      rotate_left
                      · simp only [Act.put, List.setIfInBounds_toArray, List.set_cons_zero, List.set_cons_succ, i64_w, i32_w]
                        rfl
                      refine one_ (i := 11) (N := some 80) #[true, true, true, true, true, true, true, true, true, true, true, true, false, false, false, false, false, false, false, false, false, false, false, false, false, false, false, false, false, false, false, false, false, false, false, false, false, false, false, false, false, false, false, false, false, false, false, false, false, false, false, false, false, false, false, false] rfl rfl (one_of HT_.out (by kernel_rfl)) (by decide) (fun K hK => ?_)
                      refine goes_ Tryd.func17 (by kernel_rfl) rfl #[.agg #[.string t714, .slice Ao20 t715.length co20], .agg #[.string t721, .slice Ao25 t722.length co25]] (by rfl) rfl rfl (by (try simp only [List.map_toArray, List.map_cons, List.map_nil]); rfl) ?_
                      with_reducible refine (laws_sameHead.calls k t714 _ _ t715 t721 _ _ t722 true _ ?side1 ?side2 ?side3 ?side4 A54.out).mono ?_
                      (case side1 => repeat (exact (Kd.R_reads' HO717.out).2.2))
                      (case side2 => exact (Kd.R_reads' HO717.out).2.1)
                      (case side3 => repeat (exact (Kd.R_reads' HO724.out).2.2))
                      (case side4 => exact (Kd.R_reads' HO724.out).2.1)
                      rintro e w85 ⟨rfl, hb⟩
                      refine ⟨_, rfl, ?_⟩
                      have n0_ := Aside0.mk (Kd.R_below (by (with_reducible repeat (first | apply Kd.R_alloc | apply Kd.R_drewN | apply Kd.R_drew )); exact HO717.out) hb)
                      have n1_ := Aside0.mk (Kd.R_below (by (with_reducible repeat (first | apply Kd.R_alloc | apply Kd.R_drewN | apply Kd.R_drew )); exact HO724.out) hb)
                      have n2_ := Aside0.mk (Kd.R_below (by (with_reducible repeat (first | apply Kd.R_alloc | apply Kd.R_drewN | apply Kd.R_drew )); exact HO731.out) hb)
                      have n3_ := Aside0.mk (Kd.R_below (by (with_reducible repeat (first | apply Kd.R_alloc | apply Kd.R_drewN | apply Kd.R_drew )); exact HO743.out) hb)
                      have n4_ := Aside0.mk (blk_below (g := gb720) (o := .cells #[.string t714, .slice Ao20 t715.length co20] 26 (0, 0)) (by (with_reducible repeat (first | refine blk_drewN ?_ _ | refine blk_drew ?_ | refine blk_alloc ?_ _ )); exact BK720.out) hb)
                      have n5_ := Aside0.mk (blk_below (g := gb727) (o := .cells #[.string t721, .slice Ao25 t722.length co25] 26 (0, 0)) (by (with_reducible repeat (first | refine blk_drewN ?_ _ | refine blk_drew ?_ | refine blk_alloc ?_ _ )); exact BK727.out) hb)
                      have n6_ := Aside0.mk (blk_below (g := gb732) (o := .cells #[.string t728, .slice Ao31 t729.length co31] 26 (0, 0)) (by (with_reducible repeat (first | refine blk_drewN ?_ _ | refine blk_drew ?_ | refine blk_alloc ?_ _ )); exact BK732.out) hb)
                      have n7_ := Aside0.mk (blk_below (g := gb739) (o := .cells #[.string t737, .string t738] 40 (0, 0)) (by (with_reducible repeat (first | refine blk_drewN ?_ _ | refine blk_drew ?_ | refine blk_alloc ?_ _ )); exact BK739.out) hb)
                      have n8_ := Aside0.mk (blk_below (g := gb745) (o := .cells #[.string t740, .slice Ao48 t741.length co48] 26 (0, 0)) (by (with_reducible repeat (first | refine blk_drewN ?_ _ | refine blk_drew ?_ | refine blk_alloc ?_ _ )); exact BK745.out) hb)
                      have n9_ := Aside0.mk (below_step (by repeat ((with_reducible exact HB.out))) hb)
                      clear HO717
                      clear HO724
                      clear HO731
                      clear HO743
                      clear BK720
                      clear BK727
                      clear BK732
                      clear BK739
                      clear BK745
                      clear HB
                      have HO717 := n0_
                      have HO724 := n1_
                      have HO731 := n2_
                      have HO743 := n3_
                      have BK720 := n4_
                      have BK727 := n5_
                      have BK732 := n6_
                      have BK739 := n7_
                      have BK745 := n8_
                      have HB := n9_
                      clear n0_ n1_ n2_ n3_ n4_ n5_ n6_ n7_ n8_ n9_
                      (try clear hb)
                      (try clear hb2)
                      (try clear hk)
                      (try clear hi)
                      refine hK.out _ _ ⟨(blk_cell BK720.out 0).trans rfl, (blk_cell BK720.out 1).trans rfl, (blk_cell BK727.out 0).trans rfl, (blk_cell BK727.out 1).trans rfl, (blk_cell BK739.out 0).trans rfl, (blk_cell BK739.out 1).trans rfl, (blk_cell BK732.out 0).trans rfl, (blk_cell BK732.out 1).trans rfl⟩ (fun hHeld => ?_)
                      clear hK K
                      refine norm_ (a' := ?_) ?_ ?_
                      rotate_left
                      · show Act.put _ (some 80) _ = _
                        simp only [Act.put, List.setIfInBounds_toArray, List.set_cons_zero, List.set_cons_succ, i64_w, i32_w]
                        rfl
                      refine pure_ (i := 12) (N := some 81) (v := ?_) (a' := ?_) #[true, true, true, true, true, true, true, true, true, true, true, true, true, false, false, false, false, false, false, false, false, false, false, false, false, false, false, false, false, false, false, false, false, false, false, false, false, false, false, false, false, false, false, false, false, false, false, false, false, false, false, false, false, false, false, false] rfl rfl (any_of HT_.out (by kernel_rfl)) (fun _ _ _ h => h) (Or.inl ⟨by rfl, ?_⟩) ?_ ?_
                      rotate_left
                      · intro w'
                        go_simp
                        with_reducible rfl
                      rotate_left
                      · simp only [Act.put, List.setIfInBounds_toArray, List.set_cons_zero, List.set_cons_succ, i64_w, i32_w]
                        rfl
                      refine pure_ (i := 13) (N := some 82) (v := ?_) (a' := ?_) #[true, true, true, true, true, true, true, true, true, true, true, true, true, true, false, false, false, false, false, false, false, false, false, false, false, false, false, false, false, false, false, false, false, false, false, false, false, false, false, false, false, false, false, false, false, false, false, false, false, false, false, false, false, false, false, false] rfl rfl (any_of HT_.out (by kernel_rfl)) (fun _ _ _ h => h) (Or.inl ⟨by rfl, ?_⟩) ?_ ?_
                      rotate_left
                      · intro w'
                        go_simp
                        with_reducible rfl
                      rotate_left
                      · simp only [Act.put, List.setIfInBounds_toArray, List.set_cons_zero, List.set_cons_succ, i64_w, i32_w]
                        rfl
                      refine pure_ (i := 14) (N := some 83) (v := ?_) (a' := ?_) #[true, true, true, true, true, true, true, true, true, true, true, true, true, true, true, false, false, false, false, false, false, false, false, false, false, false, false, false, false, false, false, false, false, false, false, false, false, false, false, false, false, false, false, false, false, false, false, false, false, false, false, false, false, false, false, false] rfl rfl (any_of HT_.out (by kernel_rfl)) (fun _ _ _ h => h) (Or.inl ⟨by rfl, ?_⟩) ?_ ?_
                      rotate_left
                      · intro w'
                        go_simp
                        with_reducible rfl
                      rotate_left
                      · simp only [Act.put, List.setIfInBounds_toArray, List.set_cons_zero, List.set_cons_succ, i64_w, i32_w]
                        rfl
                      refine pure_ (i := 15) (N := some 84) (v := ?_) (a' := ?_) #[true, true, true, true, true, true, true, true, true, true, true, true, true, true, true, true, false, false, false, false, false, false, false, false, false, false, false, false, false, false, false, false, false, false, false, false, false, false, false, false, false, false, false, false, false, false, false, false, false, false, false, false, false, false, false, false] rfl rfl (any_of HT_.out (by kernel_rfl)) (fun _ _ _ h => h) (Or.inl ⟨by rfl, ?_⟩) ?_ ?_
                      rotate_left
                      · intro w'
                        go_simp
                        with_reducible rfl
                      rotate_left
                      · simp only [Act.put, List.setIfInBounds_toArray, List.set_cons_zero, List.set_cons_succ, i64_w, i32_w]
                        rfl
                      refine pure_ (i := 16) (N := some 85) (v := ?_) (a' := ?_) #[true, true, true, true, true, true, true, true, true, true, true, true, true, true, true, true, true, false, false, false, false, false, false, false, false, false, false, false, false, false, false, false, false, false, false, false, false, false, false, false, false, false, false, false, false, false, false, false, false, false, false, false, false, false, false, false] rfl rfl (any_of HT_.out (by kernel_rfl)) (fun _ _ _ h => h) (Or.inl ⟨by rfl, ?_⟩) ?_ ?_
                      rotate_left
                      · intro w'
                        go_simp
                        with_reducible rfl
                      rotate_left
                      · simp only [Act.put, List.setIfInBounds_toArray, List.set_cons_zero, List.set_cons_succ, i64_w, i32_w]
                        rfl
                      refine pure_ (i := 17) (N := some 86) (v := undef) (a' := ?_) #[true, true, true, true, true, true, true, true, true, true, true, true, true, true, true, true, true, true, false, false, false, false, false, false, false, false, false, false, false, false, false, false, false, false, false, false, false, false, false, false, false, false, false, false, false, false, false, false, false, false, false, false, false, false, false, false] rfl rfl (any_of HT_.out (by kernel_rfl)) (fun _ _ _ h => h) (Or.inr ⟨by rfl, rfl⟩) ?_ ?_
                      rotate_left
                      · simp only [Act.put, List.setIfInBounds_toArray, List.set_cons_zero, List.set_cons_succ, i64_w, i32_w]
                        rfl
                      refine pure_ (i := 18) (N := some 87) (v := undef) (a' := ?_) #[true, true, true, true, true, true, true, true, true, true, true, true, true, true, true, true, true, true, true, false, false, false, false, false, false, false, false, false, false, false, false, false, false, false, false, false, false, false, false, false, false, false, false, false, false, false, false, false, false, false, false, false, false, false, false, false] rfl rfl (any_of HT_.out (by kernel_rfl)) (fun _ _ _ h => h) (Or.inr ⟨by rfl, rfl⟩) ?_ ?_
                      rotate_left
                      · simp only [Act.put, List.setIfInBounds_toArray, List.set_cons_zero, List.set_cons_succ, i64_w, i32_w]
                        rfl
                      refine pure_ (i := 19) (N := some 88) (v := ?_) (a' := ?_) #[true, true, true, true, true, true, true, true, true, true, true, true, true, true, true, true, true, true, true, true, false, false, false, false, false, false, false, false, false, false, false, false, false, false, false, false, false, false, false, false, false, false, false, false, false, false, false, false, false, false, false, false, false, false, false, false] rfl rfl (any_of HT_.out (by kernel_rfl)) (fun _ _ _ h => h) (Or.inl ⟨by rfl, ?_⟩) ?_ ?_
                      rotate_left
                      · intro w'
                        go_simp
                        with_reducible rfl
                      rotate_left
                      · simp only [Act.put, List.setIfInBounds_toArray, List.set_cons_zero, List.set_cons_succ, i64_w, i32_w]
                        rfl
                      refine pure_ (i := 20) (N := some 89) (v := ?_) (a' := ?_) #[true, true, true, true, true, true, true, true, true, true, true, true, true, true, true, true, true, true, true, true, true, false, false, false, false, false, false, false, false, false, false, false, false, false, false, false, false, false, false, false, false, false, false, false, false, false, false, false, false, false, false, false, false, false, false, false] rfl rfl (any_of HT_.out (by kernel_rfl)) (fun _ _ _ h => h) (Or.inl ⟨by rfl, ?_⟩) ?_ ?_
                      rotate_left
                      · intro w'
                        go_simp
                        with_reducible rfl
                      rotate_left
                      · simp only [Act.put, List.setIfInBounds_toArray, List.set_cons_zero, List.set_cons_succ, i64_w, i32_w]
                        rfl
                      refine pure_ (i := 21) (N := some 90) (v := ?_) (a' := ?_) #[true, true, true, true, true, true, true, true, true, true, true, true, true, true, true, true, true, true, true, true, true, true, false, false, false, false, false, false, false, false, false, false, false, false, false, false, false, false, false, false, false, false, false, false, false, false, false, false, false, false, false, false, false, false, false, false] rfl rfl (any_of HT_.out (by kernel_rfl)) (fun _ _ _ h => h) (Or.inl ⟨by rfl, ?_⟩) ?_ ?_
                      rotate_left
                      · intro w'
                        go_simp
                        with_reducible rfl
                      rotate_left
                      · simp only [Act.put, List.setIfInBounds_toArray, List.set_cons_zero, List.set_cons_succ, i64_w, i32_w]
                        rfl
                      refine pure_ (i := 22) (N := some 91) (v := ?_) (a' := ?_) #[true, true, true, true, true, true, true, true, true, true, true, true, true, true, true, true, true, true, true, true, true, true, true, false, false, false, false, false, false, false, false, false, false, false, false, false, false, false, false, false, false, false, false, false, false, false, false, false, false, false, false, false, false, false, false, false] rfl rfl (any_of HT_.out (by kernel_rfl)) (fun _ _ _ h => h) (Or.inl ⟨by rfl, ?_⟩) ?_ ?_
                      rotate_left
                      · intro w'
                        go_simp
                        with_reducible rfl
                      rotate_left
                      · simp only [Act.put, List.setIfInBounds_toArray, List.set_cons_zero, List.set_cons_succ, i64_w, i32_w]
                        rfl
                      refine pure_ (i := 23) (N := some 92) (v := ?_) (a' := ?_) #[true, true, true, true, true, true, true, true, true, true, true, true, true, true, true, true, true, true, true, true, true, true, true, true, false, false, false, false, false, false, false, false, false, false, false, false, false, false, false, false, false, false, false, false, false, false, false, false, false, false, false, false, false, false, false, false] rfl rfl (any_of HT_.out (by kernel_rfl)) (fun _ _ _ h => h) (Or.inl ⟨by rfl, ?_⟩) ?_ ?_
                      rotate_left
                      · intro w'
                        go_simp
                        with_reducible rfl
                      rotate_left
                      · simp only [Act.put, List.setIfInBounds_toArray, List.set_cons_zero, List.set_cons_succ, i64_w, i32_w]
                        rfl
                      refine pure_ (i := 24) (N := some 93) (v := ?_) (a' := ?_) #[true, true, true, true, true, true, true, true, true, true, true, true, true, true, true, true, true, true, true, true, true, true, true, true, true, false, false, false, false, false, false, false, false, false, false, false, false, false, false, false, false, false, false, false, false, false, false, false, false, false, false, false, false, false, false, false] rfl rfl (any_of HT_.out (by kernel_rfl)) (fun _ _ _ h => h) (Or.inl ⟨by rfl, ?_⟩) ?_ ?_
                      rotate_left
                      · intro w'
                        go_simp
                        with_reducible rfl
                      rotate_left
                      · simp only [Act.put, List.setIfInBounds_toArray, List.set_cons_zero, List.set_cons_succ, i64_w, i32_w]
                        rfl
                      refine pure_ (i := 25) (N := some 94) (v := ?_) (a' := ?_) #[true, true, true, true, true, true, true, true, true, true, true, true, true, true, true, true, true, true, true, true, true, true, true, true, true, true, false, false, false, false, false, false, false, false, false, false, false, false, false, false, false, false, false, false, false, false, false, false, false, false, false, false, false, false, false, false] rfl rfl (any_of HT_.out (by kernel_rfl)) (fun _ _ _ h => h) (Or.inl ⟨by rfl, ?_⟩) ?_ ?_
                      rotate_left
                      · intro w'
                        go_simp
                        with_reducible rfl
                      rotate_left
                      · simp only [Act.put, List.setIfInBounds_toArray, List.set_cons_zero, List.set_cons_succ, i64_w, i32_w]
                        rfl
                      refine pure_ (i := 26) (N := some 95) (v := ?_) (a' := ?_) #[true, true, true, true, true, true, true, true, true, true, true, true, true, true, true, true, true, true, true, true, true, true, true, true, true, true, true, false, false, false, false, false, false, false, false, false, false, false, false, false, false, false, false, false, false, false, false, false, false, false, false, false, false, false, false, false] rfl rfl (any_of HT_.out (by kernel_rfl)) (fun _ _ _ h => h) (Or.inl ⟨by rfl, ?_⟩) ?_ ?_
                      rotate_left
                      · intro w'
                        go_simp
                        with_reducible rfl
                      rotate_left
                      · simp only [Act.put, List.setIfInBounds_toArray, List.set_cons_zero, List.set_cons_succ, i64_w, i32_w]
                        rfl
                      refine pure_ (i := 27) (N := some 96) (v := ?_) (a' := ?_) #[true, true, true, true, true, true, true, true, true, true, true, true, true, true, true, true, true, true, true, true, true, true, true, true, true, true, true, true, false, false, false, false, false, false, false, false, false, false, false, false, false, false, false, false, false, false, false, false, false, false, false, false, false, false, false, false] rfl rfl (any_of HT_.out (by kernel_rfl)) (fun _ _ _ h => h) (Or.inl ⟨by rfl, ?_⟩) ?_ ?_
                      rotate_left
                      · intro w'
                        go_simp
                        with_reducible rfl
                      rotate_left
                      · simp only [Act.put, List.setIfInBounds_toArray, List.set_cons_zero, List.set_cons_succ, i64_w, i32_w]
                        rfl
                      refine pure_ (i := 28) (N := some 97) (v := ?_) (a' := ?_) #[true, true, true, true, true, true, true, true, true, true, true, true, true, true, true, true, true, true, true, true, true, true, true, true, true, true, true, true, true, false, false, false, false, false, false, false, false, false, false, false, false, false, false, false, false, false, false, false, false, false, false, false, false, false, false, false] rfl rfl (any_of HT_.out (by kernel_rfl)) (fun _ _ _ h => h) (Or.inl ⟨by rfl, ?_⟩) ?_ ?_
                      rotate_left
                      · intro w'
                        go_simp
                        with_reducible rfl
                      rotate_left
                      · simp only [Act.put, List.setIfInBounds_toArray, List.set_cons_zero, List.set_cons_succ, i64_w, i32_w]
                        rfl
                      refine pure_ (i := 29) (N := some 98) (v := ?_) (a' := ?_) #[true, true, true, true, true, true, true, true, true, true, true, true, true, true, true, true, true, true, true, true, true, true, true, true, true, true, true, true, true, true, false, false, false, false, false, false, false, false, false, false, false, false, false, false, false, false, false, false, false, false, false, false, false, false, false, false] rfl rfl (any_of HT_.out (by kernel_rfl)) (fun _ _ _ h => h) (Or.inl ⟨by rfl, ?_⟩) ?_ ?_
                      rotate_left
                      · intro w'
                        go_simp
                        with_reducible rfl
                      rotate_left
                      · simp only [Act.put, List.setIfInBounds_toArray, List.set_cons_zero, List.set_cons_succ, i64_w, i32_w]
                        rfl
                      refine pure_ (i := 30) (N := some 99) (v := ?_) (a' := ?_) #[true, true, true, true, true, true, true, true, true, true, true, true, true, true, true, true, true, true, true, true, true, true, true, true, true, true, true, true, true, true, true, false, false, false, false, false, false, false, false, false, false, false, false, false, false, false, false, false, false, false, false, false, false, false, false, false] rfl rfl (any_of HT_.out (by kernel_rfl)) (fun _ _ _ h => h) (Or.inl ⟨by rfl, ?_⟩) ?_ ?_
                      rotate_left
                      · intro w'
                        go_simp
                        with_reducible rfl
                      rotate_left
                      · simp only [Act.put, List.setIfInBounds_toArray, List.set_cons_zero, List.set_cons_succ, i64_w, i32_w]
                        rfl
                      refine pure_ (i := 31) (N := some 100) (v := ?_) (a' := ?_) #[true, true, true, true, true, true, true, true, true, true, true, true, true, true, true, true, true, true, true, true, true, true, true, true, true, true, true, true, true, true, true, true, false, false, false, false, false, false, false, false, false, false, false, false, false, false, false, false, false, false, false, false, false, false, false, false] rfl rfl (any_of HT_.out (by kernel_rfl)) (fun _ _ _ h => h) (Or.inl ⟨by rfl, ?_⟩) ?_ ?_
                      rotate_left
                      · intro w'
                        go_simp
                        with_reducible rfl
                      rotate_left
                      · simp only [Act.put, List.setIfInBounds_toArray, List.set_cons_zero, List.set_cons_succ, i64_w, i32_w]
                        rfl
                      refine take_ (i := 32) (N := some 101) (v := ?_) (a' := ?_) #[true, true, true, true, true, true, true, true, true, true, true, true, true, true, true, true, true, true, true, true, true, true, true, true, true, true, true, true, true, true, true, true, true, false, false, false, false, false, false, false, false, false, false, false, false, false, false, false, false, false, false, false, false, false, false, false] rfl rfl (take_ofW HT_.out HW_.out (by kernel_rfl)) (fun _ _ _ h => h) (Or.inl ⟨by rfl, ?_⟩) hHeld ?_ ?_
                      rotate_left
                      · rintro w' ⟨s0, s1, s2, s3, s4, s5, s6, s7⟩
                        go_simp
                        with_reducible rfl
                      rotate_left
                      · simp only [Act.put, List.setIfInBounds_toArray, List.set_cons_zero, List.set_cons_succ, i64_w, i32_w]
                        rfl
                      refine take_ (i := 34) (N := some 103) (v := ?_) (a' := ?_) #[true, true, true, true, true, true, true, true, true, true, true, true, true, true, true, true, true, true, true, true, true, true, true, true, true, true, true, true, true, true, true, true, true, false, true, false, false, false, false, false, false, false, false, false, false, false, false, false, false, false, false, false, false, false, false, false] rfl rfl (take_ofW HT_.out HW_.out (by kernel_rfl)) (fun _ _ _ h => h) (Or.inl ⟨by rfl, ?_⟩) hHeld ?_ ?_
                      rotate_left
                      · rintro w' ⟨s0, s1, s2, s3, s4, s5, s6, s7⟩
                        go_simp
                        with_reducible rfl
                      rotate_left
                      · simp only [Act.put, List.setIfInBounds_toArray, List.set_cons_zero, List.set_cons_succ, i64_w, i32_w]
                        rfl
                      refine one_ (i := 33) (N := some 102) #[true, true, true, true, true, true, true, true, true, true, true, true, true, true, true, true, true, true, true, true, true, true, true, true, true, true, true, true, true, true, true, true, true, true, true, false, false, false, false, false, false, false, false, false, false, false, false, false, false, false, false, false, false, false, false, false] rfl rfl (one_of HT_.out (by kernel_rfl)) (by decide) (fun K hK => ?_)
                      refine goes_ Tryd.func23 (by kernel_rfl) rfl #[.agg #[.string t737, .string t738]] (by rfl) rfl rfl (by (try simp only [List.map_toArray, List.map_cons, List.map_nil]); rfl) ?_
                      with_reducible refine (impl_FieldOk.calls k t737 t738 t756 _ A77.out).mono ?_
                      rintro e w86 ⟨rfl, hb⟩
                      refine ⟨_, rfl, ?_⟩
                      have n0_ := Aside0.mk (Kd.R_below (by (with_reducible repeat (first | apply Kd.R_alloc | apply Kd.R_drewN | apply Kd.R_drew )); exact HO717.out) hb)
                      have n1_ := Aside0.mk (Kd.R_below (by (with_reducible repeat (first | apply Kd.R_alloc | apply Kd.R_drewN | apply Kd.R_drew )); exact HO724.out) hb)
                      have n2_ := Aside0.mk (Kd.R_below (by (with_reducible repeat (first | apply Kd.R_alloc | apply Kd.R_drewN | apply Kd.R_drew )); exact HO731.out) hb)
                      have n3_ := Aside0.mk (Kd.R_below (by (with_reducible repeat (first | apply Kd.R_alloc | apply Kd.R_drewN | apply Kd.R_drew )); exact HO743.out) hb)
                      have n4_ := Aside0.mk (blk_below (g := gb720) (o := .cells #[.string t714, .slice Ao20 t715.length co20] 26 (0, 0)) (by (with_reducible repeat (first | refine blk_drewN ?_ _ | refine blk_drew ?_ | refine blk_alloc ?_ _ )); exact BK720.out) hb)
                      have n5_ := Aside0.mk (blk_below (g := gb727) (o := .cells #[.string t721, .slice Ao25 t722.length co25] 26 (0, 0)) (by (with_reducible repeat (first | refine blk_drewN ?_ _ | refine blk_drew ?_ | refine blk_alloc ?_ _ )); exact BK727.out) hb)
                      have n6_ := Aside0.mk (blk_below (g := gb732) (o := .cells #[.string t728, .slice Ao31 t729.length co31] 26 (0, 0)) (by (with_reducible repeat (first | refine blk_drewN ?_ _ | refine blk_drew ?_ | refine blk_alloc ?_ _ )); exact BK732.out) hb)
                      have n7_ := Aside0.mk (blk_below (g := gb739) (o := .cells #[.string t737, .string t738] 40 (0, 0)) (by (with_reducible repeat (first | refine blk_drewN ?_ _ | refine blk_drew ?_ | refine blk_alloc ?_ _ )); exact BK739.out) hb)
                      have n8_ := Aside0.mk (blk_below (g := gb745) (o := .cells #[.string t740, .slice Ao48 t741.length co48] 26 (0, 0)) (by (with_reducible repeat (first | refine blk_drewN ?_ _ | refine blk_drew ?_ | refine blk_alloc ?_ _ )); exact BK745.out) hb)
                      have n9_ := Aside0.mk (below_step (by repeat ((with_reducible exact HB.out))) hb)
                      clear HO717
                      clear HO724
                      clear HO731
                      clear HO743
                      clear BK720
                      clear BK727
                      clear BK732
                      clear BK739
                      clear BK745
                      clear HB
                      have HO717 := n0_
                      have HO724 := n1_
                      have HO731 := n2_
                      have HO743 := n3_
                      have BK720 := n4_
                      have BK727 := n5_
                      have BK732 := n6_
                      have BK739 := n7_
                      have BK745 := n8_
                      have HB := n9_
                      clear n0_ n1_ n2_ n3_ n4_ n5_ n6_ n7_ n8_ n9_
                      (try clear hb)
                      (try clear hb2)
                      (try clear hk)
                      (try clear hi)
                      refine hK.out _ _ ⟨(blk_cell BK720.out 0).trans rfl, (blk_cell BK720.out 1).trans rfl, (blk_cell BK727.out 0).trans rfl, (blk_cell BK727.out 1).trans rfl, (blk_cell BK739.out 0).trans rfl, (blk_cell BK739.out 1).trans rfl, (blk_cell BK732.out 0).trans rfl, (blk_cell BK732.out 1).trans rfl⟩ (fun hHeld => ?_)
                      clear hK K
                      refine norm_ (a' := ?_) ?_ ?_
                      rotate_left
                      · show Act.put _ (some 102) _ = _
                        simp only [Act.put, List.setIfInBounds_toArray, List.set_cons_zero, List.set_cons_succ, i64_w, i32_w]
                        rfl
                      refine one_ (i := 35) (N := some 104) #[true, true, true, true, true, true, true, true, true, true, true, true, true, true, true, true, true, true, true, true, true, true, true, true, true, true, true, true, true, true, true, true, true, true, true, true, false, false, false, false, false, false, false, false, false, false, false, false, false, false, false, false, false, false, false, false] rfl rfl (one_of HT_.out (by kernel_rfl)) (by decide) (fun K hK => ?_)
                      refine goes_ Tryd.func21 (by kernel_rfl) rfl #[.agg #[.string t737, .string t738]] (by rfl) rfl rfl (by (try simp only [List.map_toArray, List.map_cons, List.map_nil]); rfl) ?_
                      with_reducible refine (spec_FieldOk.calls k t737 t738 t757 _ A78.out).mono ?_
                      rintro e w87 ⟨rfl, hb⟩
                      refine ⟨_, rfl, ?_⟩
                      have n0_ := Aside0.mk (Kd.R_below (by (with_reducible repeat (first | apply Kd.R_alloc | apply Kd.R_drewN | apply Kd.R_drew )); exact HO717.out) hb)
                      have n1_ := Aside0.mk (Kd.R_below (by (with_reducible repeat (first | apply Kd.R_alloc | apply Kd.R_drewN | apply Kd.R_drew )); exact HO724.out) hb)
                      have n2_ := Aside0.mk (Kd.R_below (by (with_reducible repeat (first | apply Kd.R_alloc | apply Kd.R_drewN | apply Kd.R_drew )); exact HO731.out) hb)
                      have n3_ := Aside0.mk (Kd.R_below (by (with_reducible repeat (first | apply Kd.R_alloc | apply Kd.R_drewN | apply Kd.R_drew )); exact HO743.out) hb)
                      have n4_ := Aside0.mk (blk_below (g := gb720) (o := .cells #[.string t714, .slice Ao20 t715.length co20] 26 (0, 0)) (by (with_reducible repeat (first | refine blk_drewN ?_ _ | refine blk_drew ?_ | refine blk_alloc ?_ _ )); exact BK720.out) hb)
                      have n5_ := Aside0.mk (blk_below (g := gb727) (o := .cells #[.string t721, .slice Ao25 t722.length co25] 26 (0, 0)) (by (with_reducible repeat (first | refine blk_drewN ?_ _ | refine blk_drew ?_ | refine blk_alloc ?_ _ )); exact BK727.out) hb)
                      have n6_ := Aside0.mk (blk_below (g := gb732) (o := .cells #[.string t728, .slice Ao31 t729.length co31] 26 (0, 0)) (by (with_reducible repeat (first | refine blk_drewN ?_ _ | refine blk_drew ?_ | refine blk_alloc ?_ _ )); exact BK732.out) hb)
                      have n7_ := Aside0.mk (blk_below (g := gb739) (o := .cells #[.string t737, .string t738] 40 (0, 0)) (by (with_reducible repeat (first | refine blk_drewN ?_ _ | refine blk_drew ?_ | refine blk_alloc ?_ _ )); exact BK739.out) hb)
                      have n8_ := Aside0.mk (blk_below (g := gb745) (o := .cells #[.string t740, .slice Ao48 t741.length co48] 26 (0, 0)) (by (with_reducible repeat (first | refine blk_drewN ?_ _ | refine blk_drew ?_ | refine blk_alloc ?_ _ )); exact BK745.out) hb)
                      have n9_ := Aside0.mk (below_step (by repeat ((with_reducible exact HB.out))) hb)
                      clear HO717
                      clear HO724
                      clear HO731
                      clear HO743
                      clear BK720
                      clear BK727
                      clear BK732
                      clear BK739
                      clear BK745
                      clear HB
                      have HO717 := n0_
                      have HO724 := n1_
                      have HO731 := n2_
                      have HO743 := n3_
                      have BK720 := n4_
                      have BK727 := n5_
                      have BK732 := n6_
                      have BK739 := n7_
                      have BK745 := n8_
                      have HB := n9_
                      clear n0_ n1_ n2_ n3_ n4_ n5_ n6_ n7_ n8_ n9_
                      (try clear hb)
                      (try clear hb2)
                      (try clear hk)
                      (try clear hi)
                      refine hK.out _ _ ⟨(blk_cell BK720.out 0).trans rfl, (blk_cell BK720.out 1).trans rfl, (blk_cell BK727.out 0).trans rfl, (blk_cell BK727.out 1).trans rfl, (blk_cell BK739.out 0).trans rfl, (blk_cell BK739.out 1).trans rfl, (blk_cell BK732.out 0).trans rfl, (blk_cell BK732.out 1).trans rfl⟩ (fun hHeld => ?_)
                      clear hK K
                      refine norm_ (a' := ?_) ?_ ?_
                      rotate_left
                      · show Act.put _ (some 104) _ = _
                        simp only [Act.put, List.setIfInBounds_toArray, List.set_cons_zero, List.set_cons_succ, i64_w, i32_w]
                        rfl
                      refine pure_ (i := 36) (N := some 105) (v := ?_) (a' := ?_) #[true, true, true, true, true, true, true, true, true, true, true, true, true, true, true, true, true, true, true, true, true, true, true, true, true, true, true, true, true, true, true, true, true, true, true, true, true, false, false, false, false, false, false, false, false, false, false, false, false, false, false, false, false, false, false, false] rfl rfl (any_of HT_.out (by kernel_rfl)) (fun _ _ _ h => h) (Or.inl ⟨by rfl, ?_⟩) ?_ ?_
                      rotate_left
                      · intro w'
                        go_simp
                        with_reducible rfl
                      rotate_left
                      · simp only [Act.put, List.setIfInBounds_toArray, List.set_cons_zero, List.set_cons_succ, i64_w, i32_w]
                        rfl
                      refine pure_ (i := 37) (N := some 106) (v := ?_) (a' := ?_) #[true, true, true, true, true, true, true, true, true, true, true, true, true, true, true, true, true, true, true, true, true, true, true, true, true, true, true, true, true, true, true, true, true, true, true, true, true, true, false, false, false, false, false, false, false, false, false, false, false, false, false, false, false, false, false, false] rfl rfl (any_of HT_.out (by kernel_rfl)) (fun _ _ _ h => h) (Or.inl ⟨by rfl, ?_⟩) ?_ ?_
                      rotate_left
                      · intro w'
                        go_simp
                        with_reducible rfl
                      rotate_left
                      · simp only [Act.put, List.setIfInBounds_toArray, List.set_cons_zero, List.set_cons_succ, i64_w, i32_w]
                        rfl
                      refine pure_ (i := 38) (N := some 107) (v := ?_) (a' := ?_) #[true, true, true, true, true, true, true, true, true, true, true, true, true, true, true, true, true, true, true, true, true, true, true, true, true, true, true, true, true, true, true, true, true, true, true, true, true, true, true, false, false, false, false, false, false, false, false, false, false, false, false, false, false, false, false, false] rfl rfl (any_of HT_.out (by kernel_rfl)) (fun _ _ _ h => h) (Or.inl ⟨by rfl, ?_⟩) ?_ ?_
                      rotate_left
                      · intro w'
                        go_simp
                        with_reducible rfl
                      rotate_left
                      · simp only [Act.put, List.setIfInBounds_toArray, List.set_cons_zero, List.set_cons_succ, i64_w, i32_w]
                        rfl
                      refine pure_ (i := 39) (N := some 108) (v := ?_) (a' := ?_) #[true, true, true, true, true, true, true, true, true, true, true, true, true, true, true, true, true, true, true, true, true, true, true, true, true, true, true, true, true, true, true, true, true, true, true, true, true, true, true, true, false, false, false, false, false, false, false, false, false, false, false, false, false, false, false, false] rfl rfl (any_of HT_.out (by kernel_rfl)) (fun _ _ _ h => h) (Or.inl ⟨by rfl, ?_⟩) ?_ ?_
                      rotate_left
                      · intro w'
                        go_simp
                        with_reducible rfl
                      rotate_left
                      · simp only [Act.put, List.setIfInBounds_toArray, List.set_cons_zero, List.set_cons_succ, i64_w, i32_w]
                        rfl
                      refine pure_ (i := 40) (N := some 109) (v := ?_) (a' := ?_) #[true, true, true, true, true, true, true, true, true, true, true, true, true, true, true, true, true, true, true, true, true, true, true, true, true, true, true, true, true, true, true, true, true, true, true, true, true, true, true, true, true, false, false, false, false, false, false, false, false, false, false, false, false, false, false, false] rfl rfl (any_of HT_.out (by kernel_rfl)) (fun _ _ _ h => h) (Or.inl ⟨by rfl, ?_⟩) ?_ ?_
                      rotate_left
                      · intro w'
                        go_simp
                        with_reducible rfl
                      rotate_left
                      · simp only [Act.put, List.setIfInBounds_toArray, List.set_cons_zero, List.set_cons_succ, i64_w, i32_w]
                        rfl
                      refine pure_ (i := 41) (N := some 110) (v := ?_) (a' := ?_) #[true, true, true, true, true, true, true, true, true, true, true, true, true, true, true, true, true, true, true, true, true, true, true, true, true, true, true, true, true, true, true, true, true, true, true, true, true, true, true, true, true, true, false, false, false, false, false, false, false, false, false, false, false, false, false, false] rfl rfl (any_of HT_.out (by kernel_rfl)) (fun _ _ _ h => h) (Or.inl ⟨by rfl, ?_⟩) ?_ ?_
                      rotate_left
                      · intro w'
                        go_simp
                        with_reducible rfl
                      rotate_left
                      · simp only [Act.put, List.setIfInBounds_toArray, List.set_cons_zero, List.set_cons_succ, i64_w, i32_w]
                        rfl
                      refine pure_ (i := 42) (N := some 111) (v := ?_) (a' := ?_) #[true, true, true, true, true, true, true, true, true, true, true, true, true, true, true, true, true, true, true, true, true, true, true, true, true, true, true, true, true, true, true, true, true, true, true, true, true, true, true, true, true, true, true, false, false, false, false, false, false, false, false, false, false, false, false, false] rfl rfl (any_of HT_.out (by kernel_rfl)) (fun _ _ _ h => h) (Or.inl ⟨by rfl, ?_⟩) ?_ ?_
                      rotate_left
                      · intro w'
                        go_simp
                        with_reducible rfl
                      rotate_left
                      · simp only [Act.put, List.setIfInBounds_toArray, List.set_cons_zero, List.set_cons_succ, i64_w, i32_w]
                        rfl
                      refine pure_ (i := 43) (N := some 112) (v := ?_) (a' := ?_) #[true, true, true, true, true, true, true, true, true, true, true, true, true, true, true, true, true, true, true, true, true, true, true, true, true, true, true, true, true, true, true, true, true, true, true, true, true, true, true, true, true, true, true, true, false, false, false, false, false, false, false, false, false, false, false, false] rfl rfl (any_of HT_.out (by kernel_rfl)) (fun _ _ _ h => h) (Or.inl ⟨by rfl, ?_⟩) ?_ ?_
                      rotate_left
                      · intro w'
                        go_simp
                        with_reducible rfl
                      rotate_left
                      · simp only [Act.put, List.setIfInBounds_toArray, List.set_cons_zero, List.set_cons_succ, i64_w, i32_w]
                        rfl
                      refine pure_ (i := 44) (N := some 113) (v := ?_) (a' := ?_) #[true, true, true, true, true, true, true, true, true, true, true, true, true, true, true, true, true, true, true, true, true, true, true, true, true, true, true, true, true, true, true, true, true, true, true, true, true, true, true, true, true, true, true, true, true, false, false, false, false, false, false, false, false, false, false, false] rfl rfl (any_of HT_.out (by kernel_rfl)) (fun _ _ _ h => h) (Or.inl ⟨by rfl, ?_⟩) ?_ ?_
                      rotate_left
                      · intro w'
                        go_simp
                        with_reducible rfl
                      rotate_left
                      · simp only [Act.put, List.setIfInBounds_toArray, List.set_cons_zero, List.set_cons_succ, i64_w, i32_w]
                        rfl
                      refine pure_ (i := 45) (N := some 114) (v := ?_) (a' := ?_) #[true, true, true, true, true, true, true, true, true, true, true, true, true, true, true, true, true, true, true, true, true, true, true, true, true, true, true, true, true, true, true, true, true, true, true, true, true, true, true, true, true, true, true, true, true, true, false, false, false, false, false, false, false, false, false, false] rfl rfl (any_of HT_.out (by kernel_rfl)) (fun _ _ _ h => h) (Or.inl ⟨by rfl, ?_⟩) ?_ ?_
                      rotate_left
                      · intro w'
                        go_simp
                        with_reducible rfl
                      rotate_left
                      · simp only [Act.put, List.setIfInBounds_toArray, List.set_cons_zero, List.set_cons_succ, i64_w, i32_w]
                        rfl
                      refine pure_ (i := 46) (N := some 115) (v := ?_) (a' := ?_) #[true, true, true, true, true, true, true, true, true, true, true, true, true, true, true, true, true, true, true, true, true, true, true, true, true, true, true, true, true, true, true, true, true, true, true, true, true, true, true, true, true, true, true, true, true, true, true, false, false, false, false, false, false, false, false, false] rfl rfl (any_of HT_.out (by kernel_rfl)) (fun _ _ _ h => h) (Or.inl ⟨by rfl, ?_⟩) ?_ ?_
                      rotate_left
                      · intro w'
                        go_simp
                        with_reducible rfl
                      rotate_left
                      · simp only [Act.put, List.setIfInBounds_toArray, List.set_cons_zero, List.set_cons_succ, i64_w, i32_w]
                        rfl
                      refine pure_ (i := 47) (N := some 116) (v := ?_) (a' := ?_) #[true, true, true, true, true, true, true, true, true, true, true, true, true, true, true, true, true, true, true, true, true, true, true, true, true, true, true, true, true, true, true, true, true, true, true, true, true, true, true, true, true, true, true, true, true, true, true, true, false, false, false, false, false, false, false, false] rfl rfl (any_of HT_.out (by kernel_rfl)) (fun _ _ _ h => h) (Or.inl ⟨by rfl, ?_⟩) ?_ ?_
                      rotate_left
                      · intro w'
                        go_simp
                        with_reducible rfl
                      rotate_left
                      · simp only [Act.put, List.setIfInBounds_toArray, List.set_cons_zero, List.set_cons_succ, i64_w, i32_w]
                        rfl
                      refine pure_ (i := 48) (N := some 117) (v := ?_) (a' := ?_) #[true, true, true, true, true, true, true, true, true, true, true, true, true, true, true, true, true, true, true, true, true, true, true, true, true, true, true, true, true, true, true, true, true, true, true, true, true, true, true, true, true, true, true, true, true, true, true, true, true, false, false, false, false, false, false, false] rfl rfl (any_of HT_.out (by kernel_rfl)) (fun _ _ _ h => h) (Or.inl ⟨by rfl, ?_⟩) ?_ ?_
                      rotate_left
                      · intro w'
                        go_simp
                        with_reducible rfl
                      rotate_left
                      · simp only [Act.put, List.setIfInBounds_toArray, List.set_cons_zero, List.set_cons_succ, i64_w, i32_w]
                        rfl
                      refine take_ (i := 49) (N := some 118) (v := ?_) (a' := ?_) #[true, true, true, true, true, true, true, true, true, true, true, true, true, true, true, true, true, true, true, true, true, true, true, true, true, true, true, true, true, true, true, true, true, true, true, true, true, true, true, true, true, true, true, true, true, true, true, true, true, true, false, false, false, false, false, false] rfl rfl (take_ofW HT_.out HW_.out (by kernel_rfl)) (fun _ _ _ h => h) (Or.inl ⟨by rfl, ?_⟩) hHeld ?_ ?_
                      rotate_left
                      · rintro w' ⟨s0, s1, s2, s3, s4, s5, s6, s7⟩
                        go_simp
                        with_reducible rfl
                      rotate_left
                      · simp only [Act.put, List.setIfInBounds_toArray, List.set_cons_zero, List.set_cons_succ, i64_w, i32_w]
                        rfl
                      refine take_ (i := 51) (N := some 120) (v := ?_) (a' := ?_) #[true, true, true, true, true, true, true, true, true, true, true, true, true, true, true, true, true, true, true, true, true, true, true, true, true, true, true, true, true, true, true, true, true, true, true, true, true, true, true, true, true, true, true, true, true, true, true, true, true, true, false, true, false, false, false, false] rfl rfl (take_ofW HT_.out HW_.out (by kernel_rfl)) (fun _ _ _ h => h) (Or.inl ⟨by rfl, ?_⟩) hHeld ?_ ?_
                      rotate_left
                      · rintro w' ⟨s0, s1, s2, s3, s4, s5, s6, s7⟩
                        go_simp
                        with_reducible rfl
                      rotate_left
                      · simp only [Act.put, List.setIfInBounds_toArray, List.set_cons_zero, List.set_cons_succ, i64_w, i32_w]
                        rfl
                      refine one_ (i := 50) (N := some 119) #[true, true, true, true, true, true, true, true, true, true, true, true, true, true, true, true, true, true, true, true, true, true, true, true, true, true, true, true, true, true, true, true, true, true, true, true, true, true, true, true, true, true, true, true, true, true, true, true, true, true, true, true, false, false, false, false] rfl rfl (one_of HT_.out (by kernel_rfl)) (by decide) (fun K hK => ?_)
                      refine goes_ Tryd.func19 (by kernel_rfl) rfl #[.agg #[.string t728, .slice Ao31 t729.length co31]] (by rfl) rfl rfl (by (try simp only [List.map_toArray, List.map_cons, List.map_nil]); rfl) ?_
                      with_reducible refine (impl_HeadOk.calls k t728 _ _ t729 t758 _ ?side1 ?side2 A82.out).mono ?_
                      (case side1 => repeat (exact (Kd.R_reads' HO731.out).2.2))
                      (case side2 => exact (Kd.R_reads' HO731.out).2.1)
                      rintro e w88 ⟨rfl, hb⟩
                      refine ⟨_, rfl, ?_⟩
                      have n0_ := Aside0.mk (Kd.R_below (by (with_reducible repeat (first | apply Kd.R_alloc | apply Kd.R_drewN | apply Kd.R_drew )); exact HO717.out) hb)
                      have n1_ := Aside0.mk (Kd.R_below (by (with_reducible repeat (first | apply Kd.R_alloc | apply Kd.R_drewN | apply Kd.R_drew )); exact HO724.out) hb)
                      have n2_ := Aside0.mk (Kd.R_below (by (with_reducible repeat (first | apply Kd.R_alloc | apply Kd.R_drewN | apply Kd.R_drew )); exact HO731.out) hb)
                      have n3_ := Aside0.mk (Kd.R_below (by (with_reducible repeat (first | apply Kd.R_alloc | apply Kd.R_drewN | apply Kd.R_drew )); exact HO743.out) hb)
                      have n4_ := Aside0.mk (blk_below (g := gb720) (o := .cells #[.string t714, .slice Ao20 t715.length co20] 26 (0, 0)) (by (with_reducible repeat (first | refine blk_drewN ?_ _ | refine blk_drew ?_ | refine blk_alloc ?_ _ )); exact BK720.out) hb)
                      have n5_ := Aside0.mk (blk_below (g := gb727) (o := .cells #[.string t721, .slice Ao25 t722.length co25] 26 (0, 0)) (by (with_reducible repeat (first | refine blk_drewN ?_ _ | refine blk_drew ?_ | refine blk_alloc ?_ _ )); exact BK727.out) hb)
                      have n6_ := Aside0.mk (blk_below (g := gb732) (o := .cells #[.string t728, .slice Ao31 t729.length co31] 26 (0, 0)) (by (with_reducible repeat (first | refine blk_drewN ?_ _ | refine blk_drew ?_ | refine blk_alloc ?_ _ )); exact BK732.out) hb)
                      have n7_ := Aside0.mk (blk_below (g := gb739) (o := .cells #[.string t737, .string t738] 40 (0, 0)) (by (with_reducible repeat (first | refine blk_drewN ?_ _ | refine blk_drew ?_ | refine blk_alloc ?_ _ )); exact BK739.out) hb)
                      have n8_ := Aside0.mk (blk_below (g := gb745) (o := .cells #[.string t740, .slice Ao48 t741.length co48] 26 (0, 0)) (by (with_reducible repeat (first | refine blk_drewN ?_ _ | refine blk_drew ?_ | refine blk_alloc ?_ _ )); exact BK745.out) hb)
                      have n9_ := Aside0.mk (below_step (by repeat ((with_reducible exact HB.out))) hb)
                      clear HO717
                      clear HO724
                      clear HO731
                      clear HO743
                      clear BK720
                      clear BK727
                      clear BK732
                      clear BK739
                      clear BK745
                      clear HB
                      have HO717 := n0_
                      have HO724 := n1_
                      have HO731 := n2_
                      have HO743 := n3_
                      have BK720 := n4_
                      have BK727 := n5_
                      have BK732 := n6_
                      have BK739 := n7_
                      have BK745 := n8_
                      have HB := n9_
                      clear n0_ n1_ n2_ n3_ n4_ n5_ n6_ n7_ n8_ n9_
                      (try clear hb)
                      (try clear hb2)
                      (try clear hk)
                      (try clear hi)
                      refine hK.out _ _ ⟨(blk_cell BK720.out 0).trans rfl, (blk_cell BK720.out 1).trans rfl, (blk_cell BK727.out 0).trans rfl, (blk_cell BK727.out 1).trans rfl, (blk_cell BK739.out 0).trans rfl, (blk_cell BK739.out 1).trans rfl, (blk_cell BK732.out 0).trans rfl, (blk_cell BK732.out 1).trans rfl⟩ (fun hHeld => ?_)
                      clear hK K
                      refine norm_ (a' := ?_) ?_ ?_
                      rotate_left
                      · show Act.put _ (some 119) _ = _
                        simp only [Act.put, List.setIfInBounds_toArray, List.set_cons_zero, List.set_cons_succ, i64_w, i32_w]
                        rfl
                      refine one_ (i := 52) (N := some 121) #[true, true, true, true, true, true, true, true, true, true, true, true, true, true, true, true, true, true, true, true, true, true, true, true, true, true, true, true, true, true, true, true, true, true, true, true, true, true, true, true, true, true, true, true, true, true, true, true, true, true, true, true, true, false, false, false] rfl rfl (one_of HT_.out (by kernel_rfl)) (by decide) (fun K hK => ?_)
                      refine goes_ Tryd.func25 (by kernel_rfl) rfl #[.agg #[.string t728, .slice Ao31 t729.length co31]] (by rfl) rfl rfl (by (try simp only [List.map_toArray, List.map_cons, List.map_nil]); rfl) ?_
                      with_reducible refine (spec_HeadOk.calls k t728 _ _ t729 t759 _ ?side1 ?side2 A83.out).mono ?_
                      (case side1 => repeat (exact (Kd.R_reads' HO731.out).2.2))
                      (case side2 => exact (Kd.R_reads' HO731.out).2.1)
                      rintro e w89 ⟨rfl, hb⟩
                      refine ⟨_, rfl, ?_⟩
                      have n0_ := Aside0.mk (Kd.R_below (by (with_reducible repeat (first | apply Kd.R_alloc | apply Kd.R_drewN | apply Kd.R_drew )); exact HO717.out) hb)
                      have n1_ := Aside0.mk (Kd.R_below (by (with_reducible repeat (first | apply Kd.R_alloc | apply Kd.R_drewN | apply Kd.R_drew )); exact HO724.out) hb)
                      have n2_ := Aside0.mk (Kd.R_below (by (with_reducible repeat (first | apply Kd.R_alloc | apply Kd.R_drewN | apply Kd.R_drew )); exact HO731.out) hb)
                      have n3_ := Aside0.mk (Kd.R_below (by (with_reducible repeat (first | apply Kd.R_alloc | apply Kd.R_drewN | apply Kd.R_drew )); exact HO743.out) hb)
                      have n4_ := Aside0.mk (blk_below (g := gb720) (o := .cells #[.string t714, .slice Ao20 t715.length co20] 26 (0, 0)) (by (with_reducible repeat (first | refine blk_drewN ?_ _ | refine blk_drew ?_ | refine blk_alloc ?_ _ )); exact BK720.out) hb)
                      have n5_ := Aside0.mk (blk_below (g := gb727) (o := .cells #[.string t721, .slice Ao25 t722.length co25] 26 (0, 0)) (by (with_reducible repeat (first | refine blk_drewN ?_ _ | refine blk_drew ?_ | refine blk_alloc ?_ _ )); exact BK727.out) hb)
                      have n6_ := Aside0.mk (blk_below (g := gb732) (o := .cells #[.string t728, .slice Ao31 t729.length co31] 26 (0, 0)) (by (with_reducible repeat (first | refine blk_drewN ?_ _ | refine blk_drew ?_ | refine blk_alloc ?_ _ )); exact BK732.out) hb)
                      have n7_ := Aside0.mk (blk_below (g := gb739) (o := .cells #[.string t737, .string t738] 40 (0, 0)) (by (with_reducible repeat (first | refine blk_drewN ?_ _ | refine blk_drew ?_ | refine blk_alloc ?_ _ )); exact BK739.out) hb)
                      have n8_ := Aside0.mk (blk_below (g := gb745) (o := .cells #[.string t740, .slice Ao48 t741.length co48] 26 (0, 0)) (by (with_reducible repeat (first | refine blk_drewN ?_ _ | refine blk_drew ?_ | refine blk_alloc ?_ _ )); exact BK745.out) hb)
                      have n9_ := Aside0.mk (below_step (by repeat ((with_reducible exact HB.out))) hb)
                      clear HO717
                      clear HO724
                      clear HO731
                      clear HO743
                      clear BK720
                      clear BK727
                      clear BK732
                      clear BK739
                      clear BK745
                      clear HB
                      have HO717 := n0_
                      have HO724 := n1_
                      have HO731 := n2_
                      have HO743 := n3_
                      have BK720 := n4_
                      have BK727 := n5_
                      have BK732 := n6_
                      have BK739 := n7_
                      have BK745 := n8_
                      have HB := n9_
                      clear n0_ n1_ n2_ n3_ n4_ n5_ n6_ n7_ n8_ n9_
                      (try clear hb)
                      (try clear hb2)
                      (try clear hk)
                      (try clear hi)
                      refine hK.out _ _ ⟨(blk_cell BK720.out 0).trans rfl, (blk_cell BK720.out 1).trans rfl, (blk_cell BK727.out 0).trans rfl, (blk_cell BK727.out 1).trans rfl, (blk_cell BK739.out 0).trans rfl, (blk_cell BK739.out 1).trans rfl, (blk_cell BK732.out 0).trans rfl, (blk_cell BK732.out 1).trans rfl⟩ (fun hHeld => ?_)
                      clear hK K
                      refine norm_ (a' := ?_) ?_ ?_
                      rotate_left
                      · show Act.put _ (some 121) _ = _
                        simp only [Act.put, List.setIfInBounds_toArray, List.set_cons_zero, List.set_cons_succ, i64_w, i32_w]
                        rfl
                      refine pure_ (i := 53) (N := some 122) (v := ?_) (a' := ?_) #[true, true, true, true, true, true, true, true, true, true, true, true, true, true, true, true, true, true, true, true, true, true, true, true, true, true, true, true, true, true, true, true, true, true, true, true, true, true, true, true, true, true, true, true, true, true, true, true, true, true, true, true, true, true, false, false] rfl rfl (any_of HT_.out (by kernel_rfl)) (fun _ _ _ h => h) (Or.inl ⟨by rfl, ?_⟩) ?_ ?_
                      rotate_left
                      · intro w'
                        go_simp
                        with_reducible rfl
                      rotate_left
                      · simp only [Act.put, List.setIfInBounds_toArray, List.set_cons_zero, List.set_cons_succ, i64_w, i32_w]
                        rfl
                      refine pure_ (i := 54) (N := some 123) (v := ?_) (a' := ?_) #[true, true, true, true, true, true, true, true, true, true, true, true, true, true, true, true, true, true, true, true, true, true, true, true, true, true, true, true, true, true, true, true, true, true, true, true, true, true, true, true, true, true, true, true, true, true, true, true, true, true, true, true, true, true, true, false] rfl rfl (any_of HT_.out (by kernel_rfl)) (fun _ _ _ h => h) (Or.inl ⟨by rfl, ?_⟩) ?_ ?_
                      rotate_left
                      · intro w'
                        go_simp
                        with_reducible rfl
                      rotate_left
                      · simp only [Act.put, List.setIfInBounds_toArray, List.set_cons_zero, List.set_cons_succ, i64_w, i32_w]
                        rfl
                      refine pure_ (i := 55) (N := some 2) (v := ?_) (a' := ?_) #[true, true, true, true, true, true, true, true, true, true, true, true, true, true, true, true, true, true, true, true, true, true, true, true, true, true, true, true, true, true, true, true, true, true, true, true, true, true, true, true, true, true, true, true, true, true, true, true, true, true, true, true, true, true, true, true] rfl rfl (any_of HT_.out (by kernel_rfl)) (fun _ _ _ h => h) (Or.inl ⟨by rfl, ?_⟩) ?_ ?_
                      rotate_left
                      · intro w'
                        go_simp
                        with_reducible rfl
                      rotate_left
                      · simp only [Act.put, List.setIfInBounds_toArray, List.set_cons_zero, List.set_cons_succ, i64_w, i32_w]
                        rfl
                      refine done_ (done_of HT_.out (by kernel_rfl)) ?_
                      go_wp2
                      go_ret
                      exact ⟨by rfl, by repeat ((with_reducible exact HB.out))⟩
                    · rw [if_neg c81] at H
                      have c81b0 : (t747 == t749) = false := by simpa using c81
                      (try (have c81b1 : decide (t747 = t749) = false := by simpa using c81))
                      (try (have c81b2 : (t747 == t749) = false := by simpa using c81))
                      (try (have c81b3 : ¬ (t747 = t749) := by simpa using c81))
                      clear c81
                      exact absurd H (by simp)
                  · rw [if_neg c80] at H
                    have c80b0 : (t746.toList == t748.toList) = false := beq_eq_false_iff_ne.mpr c80
                    have c80b1 : (t746.toList != t748.toList) = true := bne_iff_ne.mpr c80
                    exact absurd H (by simp)
                · rw [if_neg c79] at H
                  have c79b0 : (t756 == t757) = false := by simpa using c79
                  (try (have c79b1 : decide (t756 = t757) = false := by simpa using c79))
                  (try (have c79b2 : (t756 == t757) = false := by simpa using c79))
                  (try (have c79b3 : ¬ (t756 = t757) := by simpa using c79))
                  clear c79
                  exact absurd H (by simp)
              · rw [if_neg c76] at H
                have c76b0 : (t733.toList == t735.toList) = false := beq_eq_false_iff_ne.mpr c76
                have c76b1 : (t733.toList != t735.toList) = true := bne_iff_ne.mpr c76
                exact absurd H (by simp)
            · rw [if_neg c75] at H
              have c75b0 : (t734 == t736) = false := by simpa using c75
              (try (have c75b1 : decide (t734 = t736) = false := by simpa using c75))
              (try (have c75b2 : (t734 == t736) = false := by simpa using c75))
              (try (have c75b3 : ¬ (t734 = t736) := by simpa using c75))
              clear c75
              exact absurd H (by simp)
        · replace c55 := Bool.eq_false_iff.mpr c55
          subst c55
          have H1 : (none) = some r := by rw [if_neg (show ¬ (false = true) by decide)] at H; exact H
          clear H
          have H := H1
          clear H1
          exact absurd H (by simp)
      · rw [if_neg c53] at H
        have c53b0 : (t718 == t725) = false := beq_eq_false_iff_ne.mpr c53
        have c53b1 : (t718 != t725) = true := bne_iff_ne.mpr c53
        exact absurd H (by simp)
    · rw [if_neg c52] at H
      have c52b0 : (t719 == t726) = false := beq_eq_false_iff_ne.mpr c52
      have c52b1 : (t719 != t726) = true := bne_iff_ne.mpr c52
      exact absurd H (by simp)
end Go.Proofs.YtiibecpllokhiaaDoor.Q
