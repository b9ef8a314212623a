import Derived.Test.YthjigecaojaalaaDoorKcB0
import Derived.Test.YthjigecaojaalaaDoorKcG8
import Derived.Test.YthjigecaojaalaaDoorKcG14
import Derived.Test.YthjigecaojaalaaDoorKcG34
import Derived.Test.YthjigecaojaalaaDoorKcG44
import Derived.Test.YthjigecaojaalaaDoorKcG46
import Derived.Test.YthjigecaojaalaaDoorKcG64
import Derived.Test.YthjigecaojaalaaDoorKcWords
namespace Go.Proofs.YthjigecaojaalaaDoor.Q
open Go.RowKit Go.Proofs.YthjigecaojaalaaDoorW.PrintWords Go.Proofs.YthjigecaojaalaaDoorW.PrintLast Go.Proofs.YthjigecaojaalaaDoorW.PrintMore
attribute [local go_sem] max2_int min2_int max_two min_two max_three min_three max_four min_four   -- for this text's walks alone
set_option linter.unusedVariables false
set_option linter.unusedSimpArgs false
def spec_DrawControlOf.f (k : Nat) (l0 : List Int) : Option (ByteArray) := (spec_l01New.f k l0).bind fun bt333 => ((spec_l01Below.f bt333.1 bt333.2.1 bt333.2.2 4).bind fun bt337 => ((spec_l01Pick.f bt333.1 bt337.2.1 bt337.2.2 (([(⟨#[]⟩ : ByteArray), (⟨#[32, 77, 97, 120, 45, 65, 103, 101, 61, 49, 50, 32, 44, 32, 32]⟩ : ByteArray), (⟨#[44, 44, 112, 114, 105, 118, 97, 116, 101]⟩ : ByteArray), (⟨#[109, 97, 120, 45, 97, 103, 101, 61, 120, 44, 32, 115, 45, 109, 97, 120, 97, 103, 101, 61, 51]⟩ : ByteArray), (⟨#[109, 97, 120, 45, 97, 103, 101, 61, 49, 50, 51, 52, 53, 54, 55]⟩ : ByteArray), (⟨#[78, 79, 45, 67, 65, 67, 72, 69]⟩ : ByteArray), (⟨#[109, 97, 120, 45, 97, 103, 101, 61, 49, 44, 32, 109, 97, 120, 45, 97, 103, 101, 61, 50]⟩ : ByteArray)] : List ByteArray))).bind fun bt343 => ((spec_l10Control.f bt333.1 bt343.2.1 bt343.2.2).bind fun bt346 => ((spec_ControlText.f k bt346.1 bt346.2.1 bt346.2.2.1 bt346.2.2.2.1).bind fun t352 => (if bt337.1 = 0 then (some bt343.1) else (if bt337.1 = 1 then (if t352.size + 1 ≤ 9223372036854775807 then (if (t352 ++ (⟨#[44]⟩ : ByteArray)).size + bt343.1.size ≤ 9223372036854775807 then (some ((t352 ++ (⟨#[44]⟩ : ByteArray)) ++ bt343.1)) else (none)) else (none)) else (some t352)))))))
set_option maxHeartbeats 8000000 in
set_option maxRecDepth 100000 in
theorem spec_DrawControlOf.calls (k : Nat) (A0 : Option Addr) (c0 : Nat) (l0 : List Int) (r : ByteArray) (w : World) (hr0 : Kd.C (Kd.int .u8) w A0 l0.length l0) (hc0 : l0.length ≤ c0) (h : spec_DrawControlOf.f k l0 = some r) :
    Calls Tryd.prog 20 #[.slice A0 l0.length c0] w fun e w' => e = .returned (.string r) ∧ Below w.heap.size w w' := by
  have HR0 := Aside0.mk hr0
  have HC0 := Aside0.mk hc0
  clear hr0 hc0
  have HB := Aside0.mk (Below.refl w.heap.size w)
  have H : ((spec_l01New.f k l0).bind fun bt333 => ((spec_l01Below.f bt333.1 bt333.2.1 bt333.2.2 4).bind fun bt337 => ((spec_l01Pick.f bt333.1 bt337.2.1 bt337.2.2 (([(⟨#[]⟩ : ByteArray), (⟨#[32, 77, 97, 120, 45, 65, 103, 101, 61, 49, 50, 32, 44, 32, 32]⟩ : ByteArray), (⟨#[44, 44, 112, 114, 105, 118, 97, 116, 101]⟩ : ByteArray), (⟨#[109, 97, 120, 45, 97, 103, 101, 61, 120, 44, 32, 115, 45, 109, 97, 120, 97, 103, 101, 61, 51]⟩ : ByteArray), (⟨#[109, 97, 120, 45, 97, 103, 101, 61, 49, 50, 51, 52, 53, 54, 55]⟩ : ByteArray), (⟨#[78, 79, 45, 67, 65, 67, 72, 69]⟩ : ByteArray), (⟨#[109, 97, 120, 45, 97, 103, 101, 61, 49, 44, 32, 109, 97, 120, 45, 97, 103, 101, 61, 50]⟩ : ByteArray)] : List ByteArray))).bind fun bt343 => ((spec_l10Control.f bt333.1 bt343.2.1 bt343.2.2).bind fun bt346 => ((spec_ControlText.f k bt346.1 bt346.2.1 bt346.2.2.1 bt346.2.2.2.1).bind fun t352 => (if bt337.1 = 0 then (some bt343.1) else (if bt337.1 = 1 then (if t352.size + 1 ≤ 9223372036854775807 then (if (t352 ++ (⟨#[44]⟩ : ByteArray)).size + bt343.1.size ≤ 9223372036854775807 then (some ((t352 ++ (⟨#[44]⟩ : ByteArray)) ++ bt343.1)) else (none)) else (none)) else (some t352)))))))) = some r := h
  clear h
  replace H := Option.bind_eq_some_iff.mp H
  obtain ⟨⟨t333, t334, t335⟩, A20, H⟩ := H
  replace H : ((spec_l01Below.f t333 t334 t335 4).bind fun bt337 => ((spec_l01Pick.f t333 bt337.2.1 bt337.2.2 (([(⟨#[]⟩ : ByteArray), (⟨#[32, 77, 97, 120, 45, 65, 103, 101, 61, 49, 50, 32, 44, 32, 32]⟩ : ByteArray), (⟨#[44, 44, 112, 114, 105, 118, 97, 116, 101]⟩ : ByteArray), (⟨#[109, 97, 120, 45, 97, 103, 101, 61, 120, 44, 32, 115, 45, 109, 97, 120, 97, 103, 101, 61, 51]⟩ : ByteArray), (⟨#[109, 97, 120, 45, 97, 103, 101, 61, 49, 50, 51, 52, 53, 54, 55]⟩ : ByteArray), (⟨#[78, 79, 45, 67, 65, 67, 72, 69]⟩ : ByteArray), (⟨#[109, 97, 120, 45, 97, 103, 101, 61, 49, 44, 32, 109, 97, 120, 45, 97, 103, 101, 61, 50]⟩ : ByteArray)] : List ByteArray))).bind fun bt343 => ((spec_l10Control.f t333 bt343.2.1 bt343.2.2).bind fun bt346 => ((spec_ControlText.f k bt346.1 bt346.2.1 bt346.2.2.1 bt346.2.2.2.1).bind fun t352 => (if bt337.1 = 0 then (some bt343.1) else (if bt337.1 = 1 then (if t352.size + 1 ≤ 9223372036854775807 then (if (t352 ++ (⟨#[44]⟩ : ByteArray)).size + bt343.1.size ≤ 9223372036854775807 then (some ((t352 ++ (⟨#[44]⟩ : ByteArray)) ++ bt343.1)) else (none)) else (none)) else (some t352))))))) = some r := H
  have A2 := Aside0.mk A20
  clear A20
  replace H := Option.bind_eq_some_iff.mp H
  obtain ⟨⟨t337, t338, t339⟩, A30, H⟩ := H
  replace H : ((spec_l01Pick.f t333 t338 t339 (([(⟨#[]⟩ : ByteArray), (⟨#[32, 77, 97, 120, 45, 65, 103, 101, 61, 49, 50, 32, 44, 32, 32]⟩ : ByteArray), (⟨#[44, 44, 112, 114, 105, 118, 97, 116, 101]⟩ : ByteArray), (⟨#[109, 97, 120, 45, 97, 103, 101, 61, 120, 44, 32, 115, 45, 109, 97, 120, 97, 103, 101, 61, 51]⟩ : ByteArray), (⟨#[109, 97, 120, 45, 97, 103, 101, 61, 49, 50, 51, 52, 53, 54, 55]⟩ : ByteArray), (⟨#[78, 79, 45, 67, 65, 67, 72, 69]⟩ : ByteArray), (⟨#[109, 97, 120, 45, 97, 103, 101, 61, 49, 44, 32, 109, 97, 120, 45, 97, 103, 101, 61, 50]⟩ : ByteArray)] : List ByteArray))).bind fun bt343 => ((spec_l10Control.f t333 bt343.2.1 bt343.2.2).bind fun bt346 => ((spec_ControlText.f k bt346.1 bt346.2.1 bt346.2.2.1 bt346.2.2.2.1).bind fun t352 => (if t337 = 0 then (some bt343.1) else (if t337 = 1 then (if t352.size + 1 ≤ 9223372036854775807 then (if (t352 ++ (⟨#[44]⟩ : ByteArray)).size + bt343.1.size ≤ 9223372036854775807 then (some ((t352 ++ (⟨#[44]⟩ : ByteArray)) ++ bt343.1)) else (none)) else (none)) else (some t352)))))) = some r := H
  have A3 := Aside0.mk A30
  clear A30
  obtain ⟨y340, hy340⟩ : ∃ y_ : List ByteArray, y_ = (([(⟨#[]⟩ : ByteArray), (⟨#[32, 77, 97, 120, 45, 65, 103, 101, 61, 49, 50, 32, 44, 32, 32]⟩ : ByteArray), (⟨#[44, 44, 112, 114, 105, 118, 97, 116, 101]⟩ : ByteArray), (⟨#[109, 97, 120, 45, 97, 103, 101, 61, 120, 44, 32, 115, 45, 109, 97, 120, 97, 103, 101, 61, 51]⟩ : ByteArray), (⟨#[109, 97, 120, 45, 97, 103, 101, 61, 49, 50, 51, 52, 53, 54, 55]⟩ : ByteArray), (⟨#[78, 79, 45, 67, 65, 67, 72, 69]⟩ : ByteArray), (⟨#[109, 97, 120, 45, 97, 103, 101, 61, 49, 44, 32, 109, 97, 120, 45, 97, 103, 101, 61, 50]⟩ : ByteArray)] : List ByteArray)) := ⟨_, rfl⟩
  replace H : ((spec_l01Pick.f t333 t338 t339 y340).bind fun bt343 => ((spec_l10Control.f t333 bt343.2.1 bt343.2.2).bind fun bt346 => ((spec_ControlText.f k bt346.1 bt346.2.1 bt346.2.2.1 bt346.2.2.2.1).bind fun t352 => (if t337 = 0 then (some bt343.1) else (if t337 = 1 then (if t352.size + 1 ≤ 9223372036854775807 then (if (t352 ++ (⟨#[44]⟩ : ByteArray)).size + bt343.1.size ≤ 9223372036854775807 then (some ((t352 ++ (⟨#[44]⟩ : ByteArray)) ++ bt343.1)) else (none)) else (none)) else (some t352)))))) = some r := by first | (rw [hy340]; with_reducible exact H) | (have H2_ := (Option.bind_some _ _).symm.trans H; rw [hy340]; with_reducible exact H2_) | (have H2_ := (Option.bind_some _ _).symm.trans H; with_reducible exact H2_) | with_reducible exact H | (rw [hy340]; exact H) | exact H
  have Ny340 := Aside0.mk hy340
  clear hy340
  replace H := Option.bind_eq_some_iff.mp H
  obtain ⟨⟨t343, t344, t345⟩, A40, H⟩ := H
  replace H : ((spec_l10Control.f t333 t344 t345).bind fun bt346 => ((spec_ControlText.f k bt346.1 bt346.2.1 bt346.2.2.1 bt346.2.2.2.1).bind fun t352 => (if t337 = 0 then (some t343) else (if t337 = 1 then (if t352.size + 1 ≤ 9223372036854775807 then (if (t352 ++ (⟨#[44]⟩ : ByteArray)).size + t343.size ≤ 9223372036854775807 then (some ((t352 ++ (⟨#[44]⟩ : ByteArray)) ++ t343)) else (none)) else (none)) else (some t352))))) = some r := H
  have A4 := Aside0.mk A40
  clear A40
  replace H := Option.bind_eq_some_iff.mp H
  obtain ⟨⟨t346, t347, t348, t349, t350, t351⟩, A50, H⟩ := H
  replace H : ((spec_ControlText.f k t346 t347 t348 t349).bind fun t352 => (if t337 = 0 then (some t343) else (if t337 = 1 then (if t352.size + 1 ≤ 9223372036854775807 then (if (t352 ++ (⟨#[44]⟩ : ByteArray)).size + t343.size ≤ 9223372036854775807 then (some ((t352 ++ (⟨#[44]⟩ : ByteArray)) ++ t343)) else (none)) else (none)) else (some t352)))) = some r := H
  have A5 := Aside0.mk A50
  clear A50
  replace H := Option.bind_eq_some_iff.mp H
  obtain ⟨t352, A60, H⟩ := H
  replace H : (if t337 = 0 then (some t343) else (if t337 = 1 then (if t352.size + 1 ≤ 9223372036854775807 then (if (t352 ++ (⟨#[44]⟩ : ByteArray)).size + t343.size ≤ 9223372036854775807 then (some ((t352 ++ (⟨#[44]⟩ : ByteArray)) ++ t343)) else (none)) else (none)) else (some t352))) = some r := H
  have A6 := Aside0.mk A60
  clear A60
  have HS7 := Aside0.mk H
  clear H
  go_enter Tryd.func20, Tryd.ntmps20
  go_upto_if 18 with (first | ((with_reducible refine gate_callee (f := 40) rfl ?_); refine goesL_ (some 8) rfl rfl Tryd.func40 (by kernel_rfl) rfl #[.slice A0 l0.length c0] rfl (by (try simp only [List.map_toArray, List.map_cons, List.map_nil]); first | done | rfl | (simp only [List.length_drop, List.length_take]; rfl)) ?_; (with_reducible refine (spec_l01New.calls k _ _ l0 t333 t334 t335 w _ ?side1 ?side2 ?side3 A2.out).mono ?_); (case side1 => repeat (first | (with_reducible first | exact HB.out | apply below_alloc | apply pw_below_drewN | apply below_drew1) | exact HB.out)); (case side2 => exact HR0.out); (case side3 => exact HC0.out); rintro e w8 ⟨g336, rfl, hi, hb, hb2⟩; refine ⟨_, rfl, ?_⟩; have n0_ := Aside0.mk (hb); have n1_ := Aside0.mk (hi); clear HB; have HB := n0_; have HI336 := n1_; clear n0_ n1_; (try clear hb); (try clear hb2); (try clear hk); (try clear hi)) | ((with_reducible refine gate_callee (f := 42) rfl ?_); refine goesL_ (some 10) rfl rfl Tryd.func42 (by kernel_rfl) rfl #[.pointer (some ⟨g336, 0, none⟩), .int .i64 4] rfl (by (try simp only [List.map_toArray, List.map_cons, List.map_nil]); first | done | rfl | (simp only [List.length_drop, List.length_take]; rfl)) ?_; (with_reducible refine (spec_l01Below.calls g336 t333 t334 t335 4 t337 t338 t339 w _ ?side1 ?side2 A3.out).mono ?_); (case side1 => repeat (first | (with_reducible first | exact HI336.out | apply IsS106.alloc | apply IsS106.drewN | apply IsS106.drew | apply IsS106.set_1 | apply IsS106.set_2) | exact HI336.out)); (case side2 => repeat (first | (with_reducible first | exact HB.out | apply below_alloc | apply pw_below_drewN | apply below_drew1 | refine below_set ?_ (IsS106.ge HI336.out)) | exact HB.out)); rintro e w9 ⟨rfl, hi, hb, hk⟩; refine ⟨_, rfl, ?_⟩; have n0_ := Aside0.mk (hb); have n1_ := Aside0.mk (hi); clear HB; clear HI336; have HB := n0_; have HI336 := n1_; clear n0_ n1_; (try clear hb); (try clear hb2); (try clear hk); (try clear hi)) | ((with_reducible refine gate_dst (N := 12) rfl ?_); refine Kd.R_lit Kd.string _ 9 ?hg (N := 12) ?hd (xs := ([(⟨#[]⟩ : ByteArray), (⟨#[32, 77, 97, 120, 45, 65, 103, 101, 61, 49, 50, 32, 44, 32, 32]⟩ : ByteArray), (⟨#[44, 44, 112, 114, 105, 118, 97, 116, 101]⟩ : ByteArray), (⟨#[109, 97, 120, 45, 97, 103, 101, 61, 120, 44, 32, 115, 45, 109, 97, 120, 97, 103, 101, 61, 51]⟩ : ByteArray), (⟨#[109, 97, 120, 45, 97, 103, 101, 61, 49, 50, 51, 52, 53, 54, 55]⟩ : ByteArray), (⟨#[78, 79, 45, 67, 65, 67, 72, 69]⟩ : ByteArray), (⟨#[109, 97, 120, 45, 97, 103, 101, 61, 49, 44, 32, 109, 97, 120, 45, 97, 103, 101, 61, 50]⟩ : ByteArray)] : List ByteArray)) (inner := [.string (⟨#[]⟩ : ByteArray), .string (⟨#[32, 77, 97, 120, 45, 65, 103, 101, 61, 49, 50, 32, 44, 32, 32]⟩ : ByteArray), .string (⟨#[44, 44, 112, 114, 105, 118, 97, 116, 101]⟩ : ByteArray), .string (⟨#[109, 97, 120, 45, 97, 103, 101, 61, 120, 44, 32, 115, 45, 109, 97, 120, 97, 103, 101, 61, 51]⟩ : ByteArray), .string (⟨#[109, 97, 120, 45, 97, 103, 101, 61, 49, 50, 51, 52, 53, 54, 55]⟩ : ByteArray), .string (⟨#[78, 79, 45, 67, 65, 67, 72, 69]⟩ : ByteArray), .string (⟨#[109, 97, 120, 45, 97, 103, 101, 61, 49, 44, 32, 109, 97, 120, 45, 97, 103, 101, 61, 50]⟩ : ByteArray)]) (ok := fun _ => True) (okp := fun _ => True) ?hr ?hp (fun _ hk => hk) trivial (Below.refl _ _) (Nat.le_refl _) (by simp) ?_; (case hd => rfl); (case hg => rfl); (case hr => first | (go_simp; done) | (go_simp; rfl)); (case hp => exact (Reps.one (show Kd.M Kd.string _ _ _ (⟨#[]⟩ : ByteArray) [.string (⟨#[]⟩ : ByteArray)] from rfl) (Reps.one (show Kd.M Kd.string _ _ _ (⟨#[32, 77, 97, 120, 45, 65, 103, 101, 61, 49, 50, 32, 44, 32, 32]⟩ : ByteArray) [.string (⟨#[32, 77, 97, 120, 45, 65, 103, 101, 61, 49, 50, 32, 44, 32, 32]⟩ : ByteArray)] from rfl) (Reps.one (show Kd.M Kd.string _ _ _ (⟨#[44, 44, 112, 114, 105, 118, 97, 116, 101]⟩ : ByteArray) [.string (⟨#[44, 44, 112, 114, 105, 118, 97, 116, 101]⟩ : ByteArray)] from rfl) (Reps.one (show Kd.M Kd.string _ _ _ (⟨#[109, 97, 120, 45, 97, 103, 101, 61, 120, 44, 32, 115, 45, 109, 97, 120, 97, 103, 101, 61, 51]⟩ : ByteArray) [.string (⟨#[109, 97, 120, 45, 97, 103, 101, 61, 120, 44, 32, 115, 45, 109, 97, 120, 97, 103, 101, 61, 51]⟩ : ByteArray)] from rfl) (Reps.one (show Kd.M Kd.string _ _ _ (⟨#[109, 97, 120, 45, 97, 103, 101, 61, 49, 50, 51, 52, 53, 54, 55]⟩ : ByteArray) [.string (⟨#[109, 97, 120, 45, 97, 103, 101, 61, 49, 50, 51, 52, 53, 54, 55]⟩ : ByteArray)] from rfl) (Reps.one (show Kd.M Kd.string _ _ _ (⟨#[78, 79, 45, 67, 65, 67, 72, 69]⟩ : ByteArray) [.string (⟨#[78, 79, 45, 67, 65, 67, 72, 69]⟩ : ByteArray)] from rfl) (Reps.one (show Kd.M Kd.string _ _ _ (⟨#[109, 97, 120, 45, 97, 103, 101, 61, 49, 44, 32, 109, 97, 120, 45, 97, 103, 101, 61, 50]⟩ : ByteArray) [.string (⟨#[109, 97, 120, 45, 97, 103, 101, 61, 49, 44, 32, 109, 97, 120, 45, 97, 103, 101, 61, 50]⟩ : ByteArray)] from rfl) (Reps.none _ _))))))))); intro v341 w10 ho11 hb hg_ hnew_; clear hg_ hnew_; (first | rw [← Ny340.out] at ho11 | (simp only [Int.reduceToNat] at ho11; rw [← Ny340.out] at ho11)); have n0_ := Aside0.mk (Kd.R_lower ho11 (below_size (by repeat (first | (with_reducible first | exact HB.out | apply below_alloc | apply pw_below_drewN | apply below_drew1 | refine below_set ?_ (IsS106.ge HI336.out)) | exact HB.out)))); have n1_ := Aside0.mk (IsS106.below (by repeat (first | (with_reducible first | exact HI336.out | apply IsS106.alloc | apply IsS106.drewN | apply IsS106.drew | apply IsS106.set_1 | apply IsS106.set_2) | exact HI336.out)) hb); have n2_ := Aside0.mk (below_step (by repeat (first | (with_reducible first | exact HB.out | apply below_alloc | apply pw_below_drewN | apply below_drew1 | refine below_set ?_ (IsS106.ge HI336.out)) | exact HB.out)) hb); clear HI336; clear HB; have HO342 := n0_; have HI336 := n1_; have HB := n2_; clear n0_ n1_ n2_; clear hb ho11; obtain ⟨Ao12, co12, eo12⟩ := Kd.R_slice HO342.out; subst eo12) | ((with_reducible refine gate_callee (f := 44) rfl ?_); refine goesL_ (some 13) rfl rfl Tryd.func44 (by kernel_rfl) rfl #[.pointer (some ⟨g336, 0, none⟩), .slice Ao12 y340.length co12] rfl (by (try simp only [List.map_toArray, List.map_cons, List.map_nil]); first | done | rfl | (simp only [List.length_drop, List.length_take]; rfl)) ?_; (with_reducible refine (spec_l01Pick.calls g336 t333 t338 t339 _ _ y340 t343 t344 t345 w _ ?side1 ?side2 ?side3 ?side4 ?side5 A4.out).mono ?_); (case side1 => repeat (first | (with_reducible first | exact HI336.out | apply IsS106.alloc | apply IsS106.drewN | apply IsS106.drew | apply IsS106.set_1 | apply IsS106.set_2) | exact HI336.out)); (case side2 => repeat (first | (with_reducible first | exact HB.out | apply below_alloc | apply pw_below_drewN | apply below_drew1 | refine below_set ?_ (IsS106.ge HI336.out)) | exact HB.out)); (case side3 => repeat (first | exact (Kd.R_reads' HO342.out).2.2 | (with_reducible refine Kd.C_alloc ?_ _) | (with_reducible refine Kd.C_drewN ?_ _) | (with_reducible refine Kd.C_drew ?_))); (case side4 => exact (Kd.R_reads' HO342.out).2.1); (case side5 => exact far_slice (IsS106.own_ne HI336.out HO342.out (by decide))); rintro e w13 ⟨rfl, hi, hb, hk⟩; refine ⟨_, rfl, ?_⟩; have n0_ := Aside0.mk (Kd.R_mono (Kd.R_keep (IsS106.apart (show IsS106 w _ g336 t333 t338 t339 from by repeat (first | (with_reducible first | exact HI336.out | apply IsS106.alloc | apply IsS106.drewN | apply IsS106.drew | apply IsS106.set_1 | apply IsS106.set_2) | exact HI336.out)) (by (with_reducible repeat (first | apply Kd.R_alloc | apply Kd.R_drewN | apply Kd.R_drew)); exact HO342.out) (by decide)) hk (fun _ h => h.2)) (fun _ h => h.1)); have n1_ := Aside0.mk (hb); have n2_ := Aside0.mk (hi); clear HO342; clear HB; clear HI336; have HO342 := n0_; have HB := n1_; have HI336 := n2_; clear n0_ n1_ n2_; (try clear hb); (try clear hb2); (try clear hk); (try clear hi)) | ((with_reducible refine gate_callee (f := 39) rfl ?_); refine goesL_ (some 15) rfl rfl Tryd.func39 (by kernel_rfl) rfl #[.pointer (some ⟨g336, 0, none⟩)] rfl (by (try simp only [List.map_toArray, List.map_cons, List.map_nil]); first | done | rfl | (simp only [List.length_drop, List.length_take]; rfl)) ?_; (with_reducible refine (spec_l10Control.calls g336 t333 t344 t345 t346 t347 t348 t349 t350 t351 w _ ?side1 ?side2 A5.out).mono ?_); (case side1 => repeat (first | (with_reducible first | exact HI336.out | apply IsS106.alloc | apply IsS106.drewN | apply IsS106.drew | apply IsS106.set_1 | apply IsS106.set_2) | exact HI336.out)); (case side2 => repeat (first | (with_reducible first | exact HB.out | apply below_alloc | apply pw_below_drewN | apply below_drew1 | refine below_set ?_ (IsS106.ge HI336.out)) | exact HB.out)); rintro e w14 ⟨rfl, hi, hb, hk⟩; refine ⟨_, rfl, ?_⟩; have n0_ := Aside0.mk (Kd.R_mono (Kd.R_keep (IsS106.apart (show IsS106 w _ g336 t333 t344 t345 from by repeat (first | (with_reducible first | exact HI336.out | apply IsS106.alloc | apply IsS106.drewN | apply IsS106.drew | apply IsS106.set_1 | apply IsS106.set_2) | exact HI336.out)) (by (with_reducible repeat (first | apply Kd.R_alloc | apply Kd.R_drewN | apply Kd.R_drew)); exact HO342.out) (by decide)) hk (fun _ h => h.2)) (fun _ h => h.1)); have n1_ := Aside0.mk (hb); have n2_ := Aside0.mk (hi); clear HO342; clear HB; clear HI336; have HO342 := n0_; have HB := n1_; have HI336 := n2_; clear n0_ n1_ n2_; (try clear hb); (try clear hb2); (try clear hk); (try clear hi)) | ((with_reducible refine gate_callee (f := 8) rfl ?_); refine goesL_ (some 16) rfl rfl Tryd.func8 (by kernel_rfl) rfl #[.agg #[.bool t346, .bool t347, .int .i64 t348, .int .i64 t349]] rfl (by (try simp only [List.map_toArray, List.map_cons, List.map_nil]); first | done | rfl | (simp only [List.length_drop, List.length_take]; rfl)) ?_; (with_reducible refine (spec_ControlText.calls k t346 t347 t348 t349 t352 _ A6.out).mono ?_); rintro e w15 ⟨rfl, hb⟩; refine ⟨_, rfl, ?_⟩; have n0_ := Aside0.mk (Kd.R_below (by (with_reducible repeat (first | apply Kd.R_alloc | apply Kd.R_drewN | apply Kd.R_drew)); exact HO342.out) hb); have n1_ := Aside0.mk (IsS106.below (by repeat (first | (with_reducible first | exact HI336.out | apply IsS106.alloc | apply IsS106.drewN | apply IsS106.drew | apply IsS106.set_1 | apply IsS106.set_2) | exact HI336.out)) hb); have n2_ := Aside0.mk (below_step (by repeat (first | (with_reducible first | exact HB.out | apply below_alloc | apply pw_below_drewN | apply below_drew1 | refine below_set ?_ (IsS106.ge HI336.out)) | exact HB.out)) hb); clear HO342; clear HI336; clear HB; have HO342 := n0_; have HI336 := n1_; have HB := n2_; clear n0_ n1_ n2_; (try clear hb); (try clear hb2); (try clear hk); (try clear hi)))
  (try simp only [Act.put, List.setIfInBounds_toArray, List.set_cons_zero, List.set_cons_succ])
  have H := HS7.out
  clear HS7
  by_cases c16 : t337 = 0
  · rw [if_pos c16] at H
    have c16b0 : (t337 == 0) = true := beq_iff_eq.mpr c16
    have c16b1 : (t337 != 0) = false := bne_eq_false_iff_eq.mpr c16
    clear c16
    (first | rw [c16b0] | (simp only [i64_w, i32_w]; rw [c16b0]) | skip)
    obtain rfl := Option.some.inj H
    go_wp2
    go_ret
    exact ⟨by first | rfl | (simp [errW_none, errW_some] <;> rfl) | (simp [*, errW_none, errW_some] <;> rfl), by repeat (first | (with_reducible first | exact HB.out | apply below_alloc | apply pw_below_drewN | apply below_drew1 | refine below_set ?_ (IsS106.ge HI336.out)) | exact HB.out)⟩
  · rw [if_neg c16] at H
    have c16b0 : (t337 == 0) = false := beq_eq_false_iff_ne.mpr c16
    have c16b1 : (t337 != 0) = true := bne_iff_ne.mpr c16
    (first | rw [c16b0] | (simp only [i64_w, i32_w]; rw [c16b0]) | skip)
    by_cases c17 : t337 = 1
    · rw [if_pos c17] at H
      have c17b0 : (t337 == 1) = true := beq_iff_eq.mpr c17
      have c17b1 : (t337 != 1) = false := bne_eq_false_iff_eq.mpr c17
      clear c17
      by_cases c18 : t352.size + 1 ≤ 9223372036854775807
      · rw [if_pos c18] at H
        have c18b0 := eq_true c18
        have c18b1 : decide (t352.size + 1 ≤ 9223372036854775807) = true := decide_eq_true c18
        try have c18b2 : (9223372036854775807 < t352.size + 1) = False := eq_false (Nat.not_lt.2 c18)
        by_cases c19 : (t352 ++ (⟨#[44]⟩ : ByteArray)).size + t343.size ≤ 9223372036854775807
        · rw [if_pos c19] at H
          have c19b0 := eq_true c19
          have c19b1 : decide ((t352 ++ (⟨#[44]⟩ : ByteArray)).size + t343.size ≤ 9223372036854775807) = true := decide_eq_true c19
          have c19x : t352.size + 1 + t343.size ≤ 9223372036854775807 := by have h_ := c19; (try simp only [ByteArray.size_append] at h_); exact h_
          have c19x0 := eq_true c19x
          have c19x2 : (9223372036854775807 < t352.size + 1 + t343.size) = False := eq_false (Nat.not_lt.2 c19x)
          try have c19b2 : (9223372036854775807 < (t352 ++ (⟨#[44]⟩ : ByteArray)).size + t343.size) = False := eq_false (Nat.not_lt.2 c19)
          obtain rfl := Option.some.inj H
          go_wp2
          go_ret
          exact ⟨by first | rfl | (simp [errW_none, errW_some] <;> rfl) | (simp [*, errW_none, errW_some] <;> rfl), by repeat (first | (with_reducible first | exact HB.out | apply below_alloc | apply pw_below_drewN | apply below_drew1 | refine below_set ?_ (IsS106.ge HI336.out)) | exact HB.out)⟩
        · rw [if_neg c19] at H
          exact absurd H (by simp)
      · rw [if_neg c18] at H
        exact absurd H (by simp)
    · rw [if_neg c17] at H
      have c17b0 : (t337 == 1) = false := beq_eq_false_iff_ne.mpr c17
      have c17b1 : (t337 != 1) = true := bne_iff_ne.mpr c17
      obtain rfl := Option.some.inj H
      go_wp2
      go_ret
      exact ⟨by first | rfl | (simp [errW_none, errW_some] <;> rfl) | (simp [*, errW_none, errW_some] <;> rfl), by repeat (first | (with_reducible first | exact HB.out | apply below_alloc | apply pw_below_drewN | apply below_drew1 | refine below_set ?_ (IsS106.ge HI336.out)) | exact HB.out)⟩
def spec_DrawControlText.f (k : Nat) (l0 : List Int) : Option (Bool × Bool × Int × Int) := (spec_l01New.f k l0).bind fun bt354 => ((spec_l10Control.f bt354.1 bt354.2.1 bt354.2.2).bind fun bt358 => ((spec_l01Once.f bt354.1 bt358.2.2.2.2.1 bt358.2.2.2.2.2 6).bind fun bt365 => (if bt365.1 = true then ((spec_l01PickInt.f bt354.1 bt365.2.1 bt365.2.2 (([(-2), 1000000] : List Int))).bind fun bt371 => (some (bt358.1, bt358.2.1, bt371.1, bt358.2.2.2.1))) else (some (bt358.1, bt358.2.1, bt358.2.2.1, bt358.2.2.2.1)))))
set_option maxHeartbeats 8000000 in
set_option maxRecDepth 100000 in
theorem spec_DrawControlText.calls (k : Nat) (A0 : Option Addr) (c0 : Nat) (l0 : List Int) (r1 : Bool) (r2 : Bool) (r3 : Int) (r4 : Int) (w : World) (hr0 : Kd.C (Kd.int .u8) w A0 l0.length l0) (hc0 : l0.length ≤ c0) (h : spec_DrawControlText.f k l0 = some (r1, r2, r3, r4)) :
    Calls Tryd.prog 21 #[.slice A0 l0.length c0] w fun e w' => e = .returned (.agg #[.bool r1, .bool r2, .int .i64 r3, .int .i64 r4]) ∧ Below w.heap.size w w' := by
  have hu25 := Tryd.underlying25
  have HR0 := Aside0.mk hr0
  have HC0 := Aside0.mk hc0
  clear hr0 hc0
  have HB := Aside0.mk (Below.refl w.heap.size w)
  have H : ((spec_l01New.f k l0).bind fun bt354 => ((spec_l10Control.f bt354.1 bt354.2.1 bt354.2.2).bind fun bt358 => ((spec_l01Once.f bt354.1 bt358.2.2.2.2.1 bt358.2.2.2.2.2 6).bind fun bt365 => (if bt365.1 = true then ((spec_l01PickInt.f bt354.1 bt365.2.1 bt365.2.2 (([(-2), 1000000] : List Int))).bind fun bt371 => (some (bt358.1, bt358.2.1, bt371.1, bt358.2.2.2.1))) else (some (bt358.1, bt358.2.1, bt358.2.2.1, bt358.2.2.2.1)))))) = some (r1, r2, r3, r4) := h
  clear h
  replace H := Option.bind_eq_some_iff.mp H
  obtain ⟨⟨t354, t355, t356⟩, A20, H⟩ := H
  replace H : ((spec_l10Control.f t354 t355 t356).bind fun bt358 => ((spec_l01Once.f t354 bt358.2.2.2.2.1 bt358.2.2.2.2.2 6).bind fun bt365 => (if bt365.1 = true then ((spec_l01PickInt.f t354 bt365.2.1 bt365.2.2 (([(-2), 1000000] : List Int))).bind fun bt371 => (some (bt358.1, bt358.2.1, bt371.1, bt358.2.2.2.1))) else (some (bt358.1, bt358.2.1, bt358.2.2.1, bt358.2.2.2.1))))) = some (r1, r2, r3, r4) := H
  have A2 := Aside0.mk A20
  clear A20
  replace H := Option.bind_eq_some_iff.mp H
  obtain ⟨⟨t358, t359, t360, t361, t362, t363⟩, A30, H⟩ := H
  replace H : ((spec_l01Once.f t354 t362 t363 6).bind fun bt365 => (if bt365.1 = true then ((spec_l01PickInt.f t354 bt365.2.1 bt365.2.2 (([(-2), 1000000] : List Int))).bind fun bt371 => (some (t358, t359, bt371.1, t361))) else (some (t358, t359, t360, t361)))) = some (r1, r2, r3, r4) := H
  have A3 := Aside0.mk A30
  clear A30
  replace H := Option.bind_eq_some_iff.mp H
  obtain ⟨⟨t365, t366, t367⟩, A40, H⟩ := H
  replace H : (if t365 = true then ((spec_l01PickInt.f t354 t366 t367 (([(-2), 1000000] : List Int))).bind fun bt371 => (some (t358, t359, bt371.1, t361))) else (some (t358, t359, t360, t361))) = some (r1, r2, r3, r4) := H
  have A4 := Aside0.mk A40
  clear A40
  have HS5 := Aside0.mk H
  clear H
  go_enter Tryd.func21, Tryd.ntmps21
  go_upto_if 10 with (first | ((with_reducible refine gate_dst (N := 2) rfl ?_); refine box_event ?hg (N := 2) ?hd (cs := #[.bool false, .bool false, .int .i64 0, .int .i64 0]) (t := 25) ?hr ?_; (case hd => rfl); (case hg => rfl); (case hr => first | (go_simp; done) | (go_simp; rfl)); intro gb353 hg w6 hbox hb; have n0_ := Aside0.mk (below_step (by repeat (first | (with_reducible first | exact HB.out | apply below_alloc | apply pw_below_drewN | apply below_drew1) | exact HB.out)) hb); have n1_ := Aside0.mk (hbox); have n2_ := Aside0.mk ((by rw [hg]; exact (below_size (by repeat (first | (with_reducible first | exact HB.out | apply below_alloc | apply pw_below_drewN | apply below_drew1) | exact HB.out))) : w.heap.size ≤ gb353)); have n3_ := Aside0.mk ((by rw [hg]; exact (below_size (by repeat (first | (with_reducible first | exact HB.out | apply below_alloc | apply pw_below_drewN | apply below_drew1) | exact HB.out))) : w.heap.size ≤ gb353)); clear HB; have HB := n0_; have BK353 := n1_; have GW353 := n2_; have GE353 := n3_; clear n0_ n1_ n2_ n3_; clear hb hbox hg) | ((with_reducible refine gate_callee (f := 40) rfl ?_); refine goesL_ (some 6) rfl rfl Tryd.func40 (by kernel_rfl) rfl #[.slice A0 l0.length c0] rfl (by (try simp only [List.map_toArray, List.map_cons, List.map_nil]); first | done | rfl | (simp only [List.length_drop, List.length_take]; rfl)) ?_; (with_reducible refine (spec_l01New.calls k _ _ l0 t354 t355 t356 w _ ?side1 ?side2 ?side3 A2.out).mono ?_); (case side1 => repeat (first | (with_reducible first | exact HB.out | apply below_alloc | apply pw_below_drewN | apply below_drew1 | refine below_set ?_ GE353.out) | exact HB.out)); (case side2 => exact HR0.out); (case side3 => exact HC0.out); rintro e w7 ⟨g357, rfl, hi, hb, hb2⟩; refine ⟨_, rfl, ?_⟩; have n0_ := Aside0.mk (blk_below (g := gb353) (o := .cells #[.bool false, .bool false, .int .i64 0, .int .i64 0] 25 (0, 0)) (by (with_reducible repeat (first | refine blk_drewN ?_ _ | refine blk_drew ?_ | refine blk_alloc ?_ _)); exact BK353.out) hb2); have n1_ := Aside0.mk (hb); have n2_ := Aside0.mk (hi); have n3_ := Aside0.mk (IsS106.ne_blk hi (blk_below (g := gb353) (o := .cells #[.bool false, .bool false, .int .i64 0, .int .i64 0] 25 (0, 0)) (by (with_reducible repeat (first | refine blk_drewN ?_ _ | refine blk_drew ?_ | refine blk_alloc ?_ _)); exact BK353.out) hb2) (by decide)); have n4_ := Aside0.mk (Ne.symm (IsS106.ne_blk hi (blk_below (g := gb353) (o := .cells #[.bool false, .bool false, .int .i64 0, .int .i64 0] 25 (0, 0)) (by (with_reducible repeat (first | refine blk_drewN ?_ _ | refine blk_drew ?_ | refine blk_alloc ?_ _)); exact BK353.out) hb2) (by decide))); clear BK353; clear HB; have BK353 := n0_; have HB := n1_; have HI357 := n2_; have NB357_353 := n3_; have NB353_357 := n4_; clear n0_ n1_ n2_ n3_ n4_; (try clear hb); (try clear hb2); (try clear hk); (try clear hi)) | ((with_reducible refine gate_callee (f := 39) rfl ?_); refine goesL_ (some 8) rfl rfl Tryd.func39 (by kernel_rfl) rfl #[.pointer (some ⟨g357, 0, none⟩)] rfl (by (try simp only [List.map_toArray, List.map_cons, List.map_nil]); first | done | rfl | (simp only [List.length_drop, List.length_take]; rfl)) ?_; (with_reducible refine (spec_l10Control.calls g357 t354 t355 t356 t358 t359 t360 t361 t362 t363 w _ ?side1 ?side2 A3.out).mono ?_); (case side1 => repeat (first | (with_reducible first | exact HI357.out | apply IsS106.alloc | apply IsS106.drewN | apply IsS106.drew | apply IsS106.set_1 | apply IsS106.set_2 | refine IsS106.far ?_ NB357_353.out _) | exact HI357.out)); (case side2 => repeat (first | (with_reducible first | exact HB.out | apply below_alloc | apply pw_below_drewN | apply below_drew1 | refine below_set ?_ (IsS106.ge HI357.out) | refine below_set ?_ GE353.out) | exact HB.out)); rintro e w8 ⟨rfl, hi, hb, hk⟩; refine ⟨_, rfl, ?_⟩; have n0_ := Aside0.mk (KeepBut.blk hk (g' := gb353) (o := .cells #[.bool false, .bool false, .int .i64 0, .int .i64 0] 25 (0, 0)) (by (with_reducible repeat (first | refine blk_drewN ?_ _ | refine blk_drew ?_ | refine blk_alloc ?_ _)); exact BK353.out) NB353_357.out (by simp)); have n1_ := Aside0.mk (hb); have n2_ := Aside0.mk (hi); clear BK353; clear HB; clear HI357; have BK353 := n0_; have HB := n1_; have HI357 := n2_; clear n0_ n1_ n2_; (try clear hb); (try clear hb2); (try clear hk); (try clear hi)) | ((with_reducible refine gate_dst (N := 4) rfl ?_); refine box_event ?hg (N := 4) ?hd (cs := #[.bool false, .bool false, .int .i64 0, .int .i64 0]) (t := 25) ?hr ?_; (case hd => rfl); (case hg => rfl); (case hr => first | (go_simp; done) | (go_simp; rfl)); intro gb364 hg w9 hbox hb; have n0_ := Aside0.mk (blk_below (g := gb353) (o := .cells #[.bool false, .bool false, .int .i64 0, .int .i64 0] 25 (0, 0)) (by (with_reducible repeat (first | refine blk_drewN ?_ _ | refine blk_drew ?_ | refine blk_alloc ?_ _)); exact BK353.out) hb); have n1_ := Aside0.mk (IsS106.below (by repeat (first | (with_reducible first | exact HI357.out | apply IsS106.alloc | apply IsS106.drewN | apply IsS106.drew | apply IsS106.set_1 | apply IsS106.set_2 | refine IsS106.far ?_ NB357_353.out _) | exact HI357.out)) hb); have n2_ := Aside0.mk (below_step (by repeat (first | (with_reducible first | exact HB.out | apply below_alloc | apply pw_below_drewN | apply below_drew1 | refine below_set ?_ (IsS106.ge HI357.out) | refine below_set ?_ GE353.out) | exact HB.out)) hb); have n3_ := Aside0.mk (hbox); have n4_ := Aside0.mk ((by rw [hg]; exact (below_size (by repeat (first | (with_reducible first | exact HB.out | apply below_alloc | apply pw_below_drewN | apply below_drew1 | refine below_set ?_ (IsS106.ge HI357.out) | refine below_set ?_ GE353.out) | exact HB.out))) : w.heap.size ≤ gb364)); have n5_ := Aside0.mk ((by rw [hg]; exact (below_size (by repeat (first | (with_reducible first | exact HB.out | apply below_alloc | apply pw_below_drewN | apply below_drew1 | refine below_set ?_ (IsS106.ge HI357.out) | refine below_set ?_ GE353.out) | exact HB.out))) : w.heap.size ≤ gb364)); have n6_ := Aside0.mk ((by rw [hg]; exact Nat.ne_of_lt (blk_lt (g := gb353) (o := .cells #[.bool false, .bool false, .int .i64 0, .int .i64 0] 25 (0, 0)) (by (with_reducible repeat (first | refine blk_drewN ?_ _ | refine blk_drew ?_ | refine blk_alloc ?_ _)); exact BK353.out)) : gb353 ≠ gb364)); have n7_ := Aside0.mk ((by rw [hg]; exact Nat.ne_of_gt (blk_lt (g := gb353) (o := .cells #[.bool false, .bool false, .int .i64 0, .int .i64 0] 25 (0, 0)) (by (with_reducible repeat (first | refine blk_drewN ?_ _ | refine blk_drew ?_ | refine blk_alloc ?_ _)); exact BK353.out)) : gb364 ≠ gb353)); have n8_ := Aside0.mk ((by rw [hg]; exact Nat.ne_of_lt (IsS106.lt (show IsS106 w _ g357 t354 t362 t363 from by repeat (first | (with_reducible first | exact HI357.out | apply IsS106.alloc | apply IsS106.drewN | apply IsS106.drew | apply IsS106.set_1 | apply IsS106.set_2 | refine IsS106.far ?_ NB357_353.out _) | exact HI357.out))) : g357 ≠ gb364)); have n9_ := Aside0.mk ((by rw [hg]; exact Nat.ne_of_gt (IsS106.lt (show IsS106 w _ g357 t354 t362 t363 from by repeat (first | (with_reducible first | exact HI357.out | apply IsS106.alloc | apply IsS106.drewN | apply IsS106.drew | apply IsS106.set_1 | apply IsS106.set_2 | refine IsS106.far ?_ NB357_353.out _) | exact HI357.out))) : gb364 ≠ g357)); clear BK353; clear HI357; clear HB; have BK353 := n0_; have HI357 := n1_; have HB := n2_; have BK364 := n3_; have GW364 := n4_; have GE364 := n5_; have NB353_364 := n6_; have NB364_353 := n7_; have NB357_364 := n8_; have NB364_357 := n9_; clear n0_ n1_ n2_ n3_ n4_ n5_ n6_ n7_ n8_ n9_; clear hb hbox hg; have hnb10 := NB364_353.out; have hnc10 := NB353_364.out; have hnb11 := NB364_357.out; have hnc11 := NB357_364.out; have hcz12_0 : w9.cell? ⟨gb364, 0, none⟩ = some (.bool false) := (blk_cell BK364.out 0).trans rfl; have hcz12_1 : w9.cell? ⟨gb364, 1, none⟩ = some (.bool false) := (blk_cell BK364.out 1).trans rfl; have hcz12_2 : w9.cell? ⟨gb364, 2, none⟩ = some (.int .i64 0) := (blk_cell BK364.out 2).trans rfl; have hcz12_3 : w9.cell? ⟨gb364, 3, none⟩ = some (.int .i64 0) := (blk_cell BK364.out 3).trans rfl; have hfz12_0 := blk_frozen BK364.out 0; have hfz12_1 := blk_frozen BK364.out 1; have hfz12_2 := blk_frozen BK364.out 2; have hfz12_3 := blk_frozen BK364.out 3) | ((with_reducible refine gate_callee (f := 45) rfl ?_); refine goesL_ (some 10) rfl rfl Tryd.func45 (by kernel_rfl) rfl #[.pointer (some ⟨g357, 0, none⟩), .int .i64 6] rfl (by (try simp only [List.map_toArray, List.map_cons, List.map_nil]); first | done | rfl | (simp only [List.length_drop, List.length_take]; rfl)) ?_; (with_reducible refine (spec_l01Once.calls g357 t354 t362 t363 6 t365 t366 t367 w _ ?side1 ?side2 A4.out).mono ?_); (case side1 => repeat (first | (with_reducible first | exact HI357.out | apply IsS106.alloc | apply IsS106.drewN | apply IsS106.drew | apply IsS106.set_1 | apply IsS106.set_2 | refine IsS106.far ?_ NB357_353.out _ | refine IsS106.far ?_ NB357_364.out _) | exact HI357.out)); (case side2 => repeat (first | (with_reducible first | exact HB.out | apply below_alloc | apply pw_below_drewN | apply below_drew1 | refine below_set ?_ (IsS106.ge HI357.out) | refine below_set ?_ GE353.out | refine below_set ?_ GE364.out) | exact HB.out)); rintro e w13 ⟨rfl, hi, hb, hk⟩; refine ⟨_, rfl, ?_⟩; have n0_ := Aside0.mk (KeepBut.blk hk (g' := gb353) (o := .cells #[.bool false, .bool false, .int .i64 0, .int .i64 0] 25 (0, 0)) (by (with_reducible repeat (first | refine blk_drewN ?_ _ | refine blk_drew ?_ | refine blk_alloc ?_ _)); refine blk_far ?_ NB353_364.out _; (with_reducible repeat (first | refine blk_drewN ?_ _ | refine blk_drew ?_ | refine blk_alloc ?_ _)); refine blk_far ?_ NB353_364.out _; (with_reducible repeat (first | refine blk_drewN ?_ _ | refine blk_drew ?_ | refine blk_alloc ?_ _)); refine blk_far ?_ NB353_364.out _; (with_reducible repeat (first | refine blk_drewN ?_ _ | refine blk_drew ?_ | refine blk_alloc ?_ _)); refine blk_far ?_ NB353_364.out _; (with_reducible repeat (first | refine blk_drewN ?_ _ | refine blk_drew ?_ | refine blk_alloc ?_ _)); exact BK353.out) NB353_357.out (by simp)); have n1_ := Aside0.mk (KeepBut.blk hk (g' := gb364) (o := .cells #[.bool t358, .bool t359, .int .i64 t360, .int .i64 t361] 25 (0, 0)) (by (with_reducible repeat (first | refine blk_drewN ?_ _ | refine blk_drew ?_ | refine blk_alloc ?_ _)); refine blk_put (cs := #[.bool t358, .bool t359, .int .i64 t360, .int .i64 0]) ?_ 3 _ rfl; (with_reducible repeat (first | refine blk_drewN ?_ _ | refine blk_drew ?_ | refine blk_alloc ?_ _)); refine blk_put (cs := #[.bool t358, .bool t359, .int .i64 0, .int .i64 0]) ?_ 2 _ rfl; (with_reducible repeat (first | refine blk_drewN ?_ _ | refine blk_drew ?_ | refine blk_alloc ?_ _)); refine blk_put (cs := #[.bool t358, .bool false, .int .i64 0, .int .i64 0]) ?_ 1 _ rfl; (with_reducible repeat (first | refine blk_drewN ?_ _ | refine blk_drew ?_ | refine blk_alloc ?_ _)); refine blk_put (cs := #[.bool false, .bool false, .int .i64 0, .int .i64 0]) ?_ 0 _ rfl; (with_reducible repeat (first | refine blk_drewN ?_ _ | refine blk_drew ?_ | refine blk_alloc ?_ _)); exact BK364.out) NB364_357.out (by simp)); have n2_ := Aside0.mk (hb); have n3_ := Aside0.mk (hi); clear BK353; clear BK364; clear HB; clear HI357; have BK353 := n0_; have BK364 := n1_; have HB := n2_; have HI357 := n3_; clear n0_ n1_ n2_ n3_; (try clear hb); (try clear hb2); (try clear hk); (try clear hi)))
  (try simp only [Act.put, List.setIfInBounds_toArray, List.set_cons_zero, List.set_cons_succ])
  have H := HS5.out
  clear HS5
  by_cases c14 : t365 = true
  · subst c14
    have H1 : ((spec_l01PickInt.f t354 t366 t367 (([(-2), 1000000] : List Int))).bind fun bt371 => (some (t358, t359, bt371.1, t361))) = some (r1, r2, r3, r4) := by rw [if_pos rfl] at H; exact H
    clear H
    have H := H1
    clear H1
    obtain ⟨y368, hy368⟩ : ∃ y_ : List Int, y_ = (([(-2), 1000000] : List Int)) := ⟨_, rfl⟩
    replace H : ((spec_l01PickInt.f t354 t366 t367 y368).bind fun bt371 => (some (t358, t359, bt371.1, t361))) = some (r1, r2, r3, r4) := by first | (rw [hy368]; with_reducible exact H) | (have H2_ := (Option.bind_some _ _).symm.trans H; rw [hy368]; with_reducible exact H2_) | (have H2_ := (Option.bind_some _ _).symm.trans H; with_reducible exact H2_) | with_reducible exact H | (rw [hy368]; exact H) | exact H
    have Ny368 := Aside0.mk hy368
    clear hy368
    replace H := Option.bind_eq_some_iff.mp H
    obtain ⟨⟨t371, t372, t373⟩, A150, H⟩ := H
    replace H : (some (t358, t359, t371, t361)) = some (r1, r2, r3, r4) := H
    have A15 := Aside0.mk A150
    clear A150
    simp only [Option.some.injEq, Prod.mk.injEq] at H
    obtain ⟨rfl, rfl, rfl, rfl⟩ := H
    go_wp2_with (first | ((with_reducible refine gate_dst (N := 12) rfl ?_); refine Kd.R_lit (Kd.int .i64) _ 3 ?hg (N := 12) ?hd (xs := ([(-2), 1000000] : List Int)) (inner := [.int .i64 (-2), .int .i64 1000000]) (ok := fun _ => True) (okp := fun _ => True) ?hr ?hp (fun _ hk => hk) trivial (Below.refl _ _) (Nat.le_refl _) (by simp) ?_; (case hd => rfl); (case hg => rfl); (case hr => first | (go_simp; done) | (go_simp; rfl)); (case hp => exact (Reps.one (show Kd.M (Kd.int .i64) _ _ _ (-2) [.int .i64 (-2)] from rfl) (Reps.one (show Kd.M (Kd.int .i64) _ _ _ 1000000 [.int .i64 1000000] from rfl) (Reps.none _ _)))); intro v369 w16 ho17 hb hg_ hnew_; clear hg_ hnew_; (first | rw [← Ny368.out] at ho17 | (simp only [Int.reduceToNat] at ho17; rw [← Ny368.out] at ho17)); have n0_ := Aside0.mk (Kd.R_lower ho17 (below_size (by repeat (first | (with_reducible first | exact HB.out | apply below_alloc | apply pw_below_drewN | apply below_drew1 | refine below_set ?_ (IsS106.ge HI357.out) | refine below_set ?_ GE353.out | refine below_set ?_ GE364.out) | exact HB.out)))); have n1_ := Aside0.mk (blk_below (g := gb353) (o := .cells #[.bool false, .bool false, .int .i64 0, .int .i64 0] 25 (0, 0)) (by (with_reducible repeat (first | refine blk_drewN ?_ _ | refine blk_drew ?_ | refine blk_alloc ?_ _)); exact BK353.out) hb); have n2_ := Aside0.mk (IsS106.below (by repeat (first | (with_reducible first | exact HI357.out | apply IsS106.alloc | apply IsS106.drewN | apply IsS106.drew | apply IsS106.set_1 | apply IsS106.set_2 | refine IsS106.far ?_ NB357_353.out _ | refine IsS106.far ?_ NB357_364.out _) | exact HI357.out)) hb); have n3_ := Aside0.mk (blk_below (g := gb364) (o := .cells #[.bool t358, .bool t359, .int .i64 t360, .int .i64 t361] 25 (0, 0)) (by (with_reducible repeat (first | refine blk_drewN ?_ _ | refine blk_drew ?_ | refine blk_alloc ?_ _)); exact BK364.out) hb); have n4_ := Aside0.mk (below_step (by repeat (first | (with_reducible first | exact HB.out | apply below_alloc | apply pw_below_drewN | apply below_drew1 | refine below_set ?_ (IsS106.ge HI357.out) | refine below_set ?_ GE353.out | refine below_set ?_ GE364.out) | exact HB.out)) hb); clear BK353; clear HI357; clear BK364; clear HB; have HO370 := n0_; have BK353 := n1_; have HI357 := n2_; have BK364 := n3_; have HB := n4_; clear n0_ n1_ n2_ n3_ n4_; clear hb ho17; obtain ⟨Ao18, co18, eo18⟩ := Kd.R_slice HO370.out; subst eo18) | ((with_reducible refine gate_callee (f := 46) rfl ?_); refine goesL_ (some 13) rfl rfl Tryd.func46 (by kernel_rfl) rfl #[.pointer (some ⟨g357, 0, none⟩), .slice Ao18 y368.length co18] rfl (by (try simp only [List.map_toArray, List.map_cons, List.map_nil]); first | done | rfl | (simp only [List.length_drop, List.length_take]; rfl)) ?_; (with_reducible refine (spec_l01PickInt.calls g357 t354 t366 t367 _ _ y368 t371 t372 t373 w _ ?side1 ?side2 ?side3 ?side4 ?side5 A15.out).mono ?_); (case side1 => repeat (first | (with_reducible first | exact HI357.out | apply IsS106.alloc | apply IsS106.drewN | apply IsS106.drew | apply IsS106.set_1 | apply IsS106.set_2 | refine IsS106.far ?_ NB357_353.out _ | refine IsS106.far ?_ NB357_364.out _) | exact HI357.out)); (case side2 => repeat (first | (with_reducible first | exact HB.out | apply below_alloc | apply pw_below_drewN | apply below_drew1 | refine below_set ?_ (IsS106.ge HI357.out) | refine below_set ?_ GE353.out | refine below_set ?_ GE364.out) | exact HB.out)); (case side3 => repeat (first | exact (Kd.R_reads' HO370.out).2.2 | (with_reducible refine Kd.C_alloc ?_ _) | (with_reducible refine Kd.C_drewN ?_ _) | (with_reducible refine Kd.C_drew ?_))); (case side4 => exact (Kd.R_reads' HO370.out).2.1); (case side5 => exact far_slice (IsS106.own_ne HI357.out HO370.out (by decide))); rintro e w19 ⟨rfl, hi, hb, hk⟩; refine ⟨_, rfl, ?_⟩; have n0_ := Aside0.mk (KeepBut.blk hk (g' := gb353) (o := .cells #[.bool false, .bool false, .int .i64 0, .int .i64 0] 25 (0, 0)) (by (with_reducible repeat (first | refine blk_drewN ?_ _ | refine blk_drew ?_ | refine blk_alloc ?_ _)); exact BK353.out) NB353_357.out (by simp)); have n1_ := Aside0.mk (KeepBut.blk hk (g' := gb364) (o := .cells #[.bool t358, .bool t359, .int .i64 t360, .int .i64 t361] 25 (0, 0)) (by (with_reducible repeat (first | refine blk_drewN ?_ _ | refine blk_drew ?_ | refine blk_alloc ?_ _)); exact BK364.out) NB364_357.out (by simp)); have n2_ := Aside0.mk (Kd.R_mono (Kd.R_keep (IsS106.apart (show IsS106 w _ g357 t354 t366 t367 from by repeat (first | (with_reducible first | exact HI357.out | apply IsS106.alloc | apply IsS106.drewN | apply IsS106.drew | apply IsS106.set_1 | apply IsS106.set_2 | refine IsS106.far ?_ NB357_353.out _ | refine IsS106.far ?_ NB357_364.out _) | exact HI357.out)) (by (with_reducible repeat (first | apply Kd.R_alloc | apply Kd.R_drewN | apply Kd.R_drew)); exact HO370.out) (by decide)) hk (fun _ h => h.2)) (fun _ h => h.1)); have n3_ := Aside0.mk (hb); have n4_ := Aside0.mk (hi); clear BK353; clear BK364; clear HO370; clear HB; clear HI357; have BK353 := n0_; have BK364 := n1_; have HO370 := n2_; have HB := n3_; have HI357 := n4_; clear n0_ n1_ n2_ n3_ n4_; (try clear hb); (try clear hb2); (try clear hk); (try clear hi); have hnb20 := NB364_353.out; have hnc20 := NB353_364.out; have hnb21 := NB364_357.out; have hnc21 := NB357_364.out; have hcz22_0 : w19.cell? ⟨gb364, 0, none⟩ = some (.bool t358) := (blk_cell BK364.out 0).trans rfl; have hcz22_1 : w19.cell? ⟨gb364, 1, none⟩ = some (.bool t359) := (blk_cell BK364.out 1).trans rfl; have hcz22_2 : w19.cell? ⟨gb364, 2, none⟩ = some (.int .i64 t360) := (blk_cell BK364.out 2).trans rfl; have hcz22_3 : w19.cell? ⟨gb364, 3, none⟩ = some (.int .i64 t361) := (blk_cell BK364.out 3).trans rfl; have hfz22_0 := blk_frozen BK364.out 0; have hfz22_1 := blk_frozen BK364.out 1; have hfz22_2 := blk_frozen BK364.out 2; have hfz22_3 := blk_frozen BK364.out 3; have hnb23 := NB353_357.out; have hnc23 := NB357_353.out; have hcz24_0 : w19.cell? ⟨gb353, 0, none⟩ = some (.bool false) := (blk_cell BK353.out 0).trans rfl; have hcz24_1 : w19.cell? ⟨gb353, 1, none⟩ = some (.bool false) := (blk_cell BK353.out 1).trans rfl; have hcz24_2 : w19.cell? ⟨gb353, 2, none⟩ = some (.int .i64 0) := (blk_cell BK353.out 2).trans rfl; have hcz24_3 : w19.cell? ⟨gb353, 3, none⟩ = some (.int .i64 0) := (blk_cell BK353.out 3).trans rfl; have hfz24_0 := blk_frozen BK353.out 0; have hfz24_1 := blk_frozen BK353.out 1; have hfz24_2 := blk_frozen BK353.out 2; have hfz24_3 := blk_frozen BK353.out 3))
    refine bodyPost_ret (results_cell_row rfl _ _ gb353 25 #[.bool t358, .bool t359, .int .i64 t371, .int .i64 t361] (0, 0) _ rfl (by (with_reducible repeat (first | refine blk_drewN ?_ _ | refine blk_drew ?_ | refine blk_alloc ?_ _)); refine blk_put (cs := #[.bool t358, .bool t359, .int .i64 t371, .int .i64 0]) ?_ 3 _ rfl; (with_reducible repeat (first | refine blk_drewN ?_ _ | refine blk_drew ?_ | refine blk_alloc ?_ _)); refine blk_put (cs := #[.bool t358, .bool t359, .int .i64 0, .int .i64 0]) ?_ 2 _ rfl; (with_reducible repeat (first | refine blk_drewN ?_ _ | refine blk_drew ?_ | refine blk_alloc ?_ _)); refine blk_put (cs := #[.bool t358, .bool false, .int .i64 0, .int .i64 0]) ?_ 1 _ rfl; (with_reducible repeat (first | refine blk_drewN ?_ _ | refine blk_drew ?_ | refine blk_alloc ?_ _)); refine blk_put (cs := #[.bool false, .bool false, .int .i64 0, .int .i64 0]) ?_ 0 _ rfl; (with_reducible repeat (first | refine blk_drewN ?_ _ | refine blk_drew ?_ | refine blk_alloc ?_ _)); refine blk_far ?_ NB353_364.out _; (with_reducible repeat (first | refine blk_drewN ?_ _ | refine blk_drew ?_ | refine blk_alloc ?_ _)); exact BK353.out) Tryd.underlying25 rfl (by kernel_rfl)) rfl ?_
    exact ⟨by first | rfl | (simp [errW_none, errW_some] <;> rfl) | (simp [*, errW_none, errW_some] <;> rfl), by repeat (first | (with_reducible first | exact HB.out | apply below_alloc | apply pw_below_drewN | apply below_drew1 | refine below_set ?_ (IsS106.ge HI357.out) | refine below_set ?_ GE353.out | refine below_set ?_ GE364.out) | exact HB.out)⟩
  · replace c14 := Bool.eq_false_iff.mpr c14
    subst c14
    have H1 : (some (t358, t359, t360, t361)) = some (r1, r2, r3, r4) := by rw [if_neg (show ¬ (false = true) by decide)] at H; exact H
    clear H
    have H := H1
    clear H1
    simp only [Option.some.injEq, Prod.mk.injEq] at H
    obtain ⟨rfl, rfl, rfl, rfl⟩ := H
    have hnb25 := NB364_353.out
    have hnc25 := NB353_364.out
    have hnb26 := NB364_357.out
    have hnc26 := NB357_364.out
    have hcz27_0 : w13.cell? ⟨gb364, 0, none⟩ = some (.bool t358) := (blk_cell BK364.out 0).trans rfl
    have hcz27_1 : w13.cell? ⟨gb364, 1, none⟩ = some (.bool t359) := (blk_cell BK364.out 1).trans rfl
    have hcz27_2 : w13.cell? ⟨gb364, 2, none⟩ = some (.int .i64 t360) := (blk_cell BK364.out 2).trans rfl
    have hcz27_3 : w13.cell? ⟨gb364, 3, none⟩ = some (.int .i64 t361) := (blk_cell BK364.out 3).trans rfl
    have hfz27_0 := blk_frozen BK364.out 0
    have hfz27_1 := blk_frozen BK364.out 1
    have hfz27_2 := blk_frozen BK364.out 2
    have hfz27_3 := blk_frozen BK364.out 3
    have hnb28 := NB353_357.out
    have hnc28 := NB357_353.out
    have hcz29_0 : w13.cell? ⟨gb353, 0, none⟩ = some (.bool false) := (blk_cell BK353.out 0).trans rfl
    have hcz29_1 : w13.cell? ⟨gb353, 1, none⟩ = some (.bool false) := (blk_cell BK353.out 1).trans rfl
    have hcz29_2 : w13.cell? ⟨gb353, 2, none⟩ = some (.int .i64 0) := (blk_cell BK353.out 2).trans rfl
    have hcz29_3 : w13.cell? ⟨gb353, 3, none⟩ = some (.int .i64 0) := (blk_cell BK353.out 3).trans rfl
    have hfz29_0 := blk_frozen BK353.out 0
    have hfz29_1 := blk_frozen BK353.out 1
    have hfz29_2 := blk_frozen BK353.out 2
    have hfz29_3 := blk_frozen BK353.out 3
    go_wp2
    refine bodyPost_ret (results_cell_row rfl _ _ gb353 25 #[.bool t358, .bool t359, .int .i64 t360, .int .i64 t361] (0, 0) _ rfl (by (with_reducible repeat (first | refine blk_drewN ?_ _ | refine blk_drew ?_ | refine blk_alloc ?_ _)); refine blk_put (cs := #[.bool t358, .bool t359, .int .i64 t360, .int .i64 0]) ?_ 3 _ rfl; (with_reducible repeat (first | refine blk_drewN ?_ _ | refine blk_drew ?_ | refine blk_alloc ?_ _)); refine blk_put (cs := #[.bool t358, .bool t359, .int .i64 0, .int .i64 0]) ?_ 2 _ rfl; (with_reducible repeat (first | refine blk_drewN ?_ _ | refine blk_drew ?_ | refine blk_alloc ?_ _)); refine blk_put (cs := #[.bool t358, .bool false, .int .i64 0, .int .i64 0]) ?_ 1 _ rfl; (with_reducible repeat (first | refine blk_drewN ?_ _ | refine blk_drew ?_ | refine blk_alloc ?_ _)); refine blk_put (cs := #[.bool false, .bool false, .int .i64 0, .int .i64 0]) ?_ 0 _ rfl; (with_reducible repeat (first | refine blk_drewN ?_ _ | refine blk_drew ?_ | refine blk_alloc ?_ _)); exact BK353.out) Tryd.underlying25 rfl (by kernel_rfl)) rfl ?_
    exact ⟨by first | rfl | (simp [errW_none, errW_some] <;> rfl) | (simp [*, errW_none, errW_some] <;> rfl), by repeat (first | (with_reducible first | exact HB.out | apply below_alloc | apply pw_below_drewN | apply below_drew1 | refine below_set ?_ (IsS106.ge HI357.out) | refine below_set ?_ GE353.out | refine below_set ?_ GE364.out) | exact HB.out)⟩
attribute [local go_sem high] eqA25
def laws_FnControls.f (k : Nat) (l0 : List Int) : Option (Bool) := (laws_big.f l0).bind fun t374 => (if t374 = true then (some true) else ((spec_DrawControl.f k l0).bind fun bt375 => ((impl_ControlText.f k bt375.1 bt375.2.1 bt375.2.2.1 bt375.2.2.2).bind fun t380 => ((impl_ControlOf.f k t380).bind fun bt381 => ((spec_DrawControlOf.f k l0).bind fun t386 => ((spec_DrawControlText.f k l0).bind fun bt387 => ((spec_ControlText.f k bt375.1 bt375.2.1 bt375.2.2.1 bt375.2.2.2).bind fun t392 => (if t380.toList = t392.toList then (if (bt381.1 == bt375.1 && (bt381.2.1 == bt375.2.1 && (bt381.2.2.1 == bt375.2.2.1 && (bt381.2.2.2 == bt375.2.2.2)))) = true then ((impl_ControlOf.f k t386).bind fun bt393 => ((spec_ControlOf.f k t386).bind fun bt397 => (if (bt393.1 == bt397.1 && (bt393.2.1 == bt397.2.1 && (bt393.2.2.1 == bt397.2.2.1 && (bt393.2.2.2 == bt397.2.2.2)))) = true then ((impl_ControlText.f k bt387.1 bt387.2.1 bt387.2.2.1 bt387.2.2.2).bind fun t401 => ((spec_ControlText.f k bt387.1 bt387.2.1 bt387.2.2.1 bt387.2.2.2).bind fun t402 => (if t401.toList = t402.toList then ((impl_ControlOf.f k (⟨#[]⟩ : ByteArray)).bind fun bt403 => (if bt403.2.2.1 = (-1) then ((impl_ControlOf.f k (⟨#[32, 80, 82, 73, 86, 65, 84, 69, 32, 44, 109, 97, 120, 45, 97, 103, 101, 61, 55]⟩ : ByteArray)).bind fun bt407 => (some bt407.1)) else (none))) else (none)))) else (none)))) else (none)) else (none)))))))))
def laws_FnControls.T8 : Bool × List (List Nat × List Nat) := (true, [([], []), ([], []), ([1], [1]), ([0, 2], [0, 2]), ([3, 2], [3]), ([4], [4]), ([4], [4]), ([5, 6, 4], [4, 5, 6]), ([4, 7], [4, 7]), ([8, 4], [8]), ([9], [9]), ([10, 9, 9], [9, 10]), ([9], [9]), ([12, 11, 9], [9, 12]), ([11, 13, 9], [9, 11, 13]), ([9, 14], [9, 14]), ([15, 13], [15]), ([16], [16]), ([17, 16, 16], [16, 17]), ([16], [16]), ([19, 18, 16], [16, 19]), ([18, 20, 16], [16, 18, 20]), ([16, 21], [16, 21]), ([22, 20], [22]), ([23, 23], [23]), ([24, 23], [23, 24]), ([25, 23], [23, 25]), ([23, 26], [23, 26]), ([27, 24], [27]), ([28, 28], [28]), ([29, 28], [28, 29]), ([28, 30], [28, 30]), ([31, 29, 0, 1, 2, 3, 4, 5, 6, 7, 8, 9, 10, 11, 12, 13, 14, 15, 16, 17, 18, 19, 20, 21, 22, 23, 24, 25, 26, 27, 28, 29, 30, 31], [31])])
def laws_FnControls.B8 : List Nat := [0, 0, 2, 7, 15, 31, 31, 127, 255, 511, 1023, 2047, 1023, 8191, 16383, 32767, 65535, 131071, 262143, 131071, 1048575, 2097151, 4194303, 8388607, 16777215, 33554431, 67108863, 134217727, 268435455, 536870911, 1073741823, 2147483647, 4294967295]
theorem laws_FnControls.tab8 : rtab .any (opsOf Tryd.f6 8) = laws_FnControls.T8 := by kernel_rfl
theorem laws_FnControls.bits8 : waitsOk laws_FnControls.T8.2 laws_FnControls.B8 = true := by kernel_rfl
set_option maxHeartbeats 8000000 in
set_option maxRecDepth 100000 in
theorem laws_FnControls.calls (k : Nat) (A0 : Option Addr) (c0 : Nat) (l0 : List Int) (r : Bool) (w : World) (hr0 : Kd.C (Kd.int .u8) w A0 l0.length l0) (hc0 : l0.length ≤ c0) (hsh : Shp w) (htb : Tab w) (h : laws_FnControls.f k l0 = some r) :
    Calls Tryd.prog 6 #[.slice A0 l0.length c0] w fun e w' => e = .returned (.bool r) ∧ Below w.heap.size w w' := by
  have hu25 := Tryd.underlying25
  have HSH := Aside0.mk hsh
  clear hsh
  have HTB := Aside0.mk htb
  clear htb
  have HR0 := Aside0.mk hr0
  have HC0 := Aside0.mk hc0
  clear hr0 hc0
  have HB := Aside0.mk (Below.refl w.heap.size w)
  have H : ((laws_big.f l0).bind fun t374 => (if t374 = true then (some true) else ((spec_DrawControl.f k l0).bind fun bt375 => ((impl_ControlText.f k bt375.1 bt375.2.1 bt375.2.2.1 bt375.2.2.2).bind fun t380 => ((impl_ControlOf.f k t380).bind fun bt381 => ((spec_DrawControlOf.f k l0).bind fun t386 => ((spec_DrawControlText.f k l0).bind fun bt387 => ((spec_ControlText.f k bt375.1 bt375.2.1 bt375.2.2.1 bt375.2.2.2).bind fun t392 => (if t380.toList = t392.toList then (if (bt381.1 == bt375.1 && (bt381.2.1 == bt375.2.1 && (bt381.2.2.1 == bt375.2.2.1 && (bt381.2.2.2 == bt375.2.2.2)))) = true then ((impl_ControlOf.f k t386).bind fun bt393 => ((spec_ControlOf.f k t386).bind fun bt397 => (if (bt393.1 == bt397.1 && (bt393.2.1 == bt397.2.1 && (bt393.2.2.1 == bt397.2.2.1 && (bt393.2.2.2 == bt397.2.2.2)))) = true then ((impl_ControlText.f k bt387.1 bt387.2.1 bt387.2.2.1 bt387.2.2.2).bind fun t401 => ((spec_ControlText.f k bt387.1 bt387.2.1 bt387.2.2.1 bt387.2.2.2).bind fun t402 => (if t401.toList = t402.toList then ((impl_ControlOf.f k (⟨#[]⟩ : ByteArray)).bind fun bt403 => (if bt403.2.2.1 = (-1) then ((impl_ControlOf.f k (⟨#[32, 80, 82, 73, 86, 65, 84, 69, 32, 44, 109, 97, 120, 45, 97, 103, 101, 61, 55]⟩ : ByteArray)).bind fun bt407 => (some bt407.1)) else (none))) else (none)))) else (none)))) else (none)) else (none)))))))))) = some r := h
  clear h
  replace H := Option.bind_eq_some_iff.mp H
  obtain ⟨t374, A20, H⟩ := H
  replace H : (if t374 = true then (some true) else ((spec_DrawControl.f k l0).bind fun bt375 => ((impl_ControlText.f k bt375.1 bt375.2.1 bt375.2.2.1 bt375.2.2.2).bind fun t380 => ((impl_ControlOf.f k t380).bind fun bt381 => ((spec_DrawControlOf.f k l0).bind fun t386 => ((spec_DrawControlText.f k l0).bind fun bt387 => ((spec_ControlText.f k bt375.1 bt375.2.1 bt375.2.2.1 bt375.2.2.2).bind fun t392 => (if t380.toList = t392.toList then (if (bt381.1 == bt375.1 && (bt381.2.1 == bt375.2.1 && (bt381.2.2.1 == bt375.2.2.1 && (bt381.2.2.2 == bt375.2.2.2)))) = true then ((impl_ControlOf.f k t386).bind fun bt393 => ((spec_ControlOf.f k t386).bind fun bt397 => (if (bt393.1 == bt397.1 && (bt393.2.1 == bt397.2.1 && (bt393.2.2.1 == bt397.2.2.1 && (bt393.2.2.2 == bt397.2.2.2)))) = true then ((impl_ControlText.f k bt387.1 bt387.2.1 bt387.2.2.1 bt387.2.2.2).bind fun t401 => ((spec_ControlText.f k bt387.1 bt387.2.1 bt387.2.2.1 bt387.2.2.2).bind fun t402 => (if t401.toList = t402.toList then ((impl_ControlOf.f k (⟨#[]⟩ : ByteArray)).bind fun bt403 => (if bt403.2.2.1 = (-1) then ((impl_ControlOf.f k (⟨#[32, 80, 82, 73, 86, 65, 84, 69, 32, 44, 109, 97, 120, 45, 97, 103, 101, 61, 55]⟩ : ByteArray)).bind fun bt407 => (some bt407.1)) else (none))) else (none)))) else (none)))) else (none)) else (none))))))))) = some r := H
  have A2 := Aside0.mk A20
  clear A20
  have HS3 := Aside0.mk H
  clear H
  go_enter Tryd.func6, Tryd.ntmps6
  go_upto_if 9 with (first | ((with_reducible refine gate_callee (f := 14) rfl ?_); refine goesL_ (some 9) rfl rfl Tryd.func14 (by kernel_rfl) rfl #[.slice A0 l0.length c0] rfl (by (try simp only [List.map_toArray, List.map_cons, List.map_nil]); first | done | rfl | (simp only [List.length_drop, List.length_take]; rfl)) ?_; (with_reducible refine (laws_big.calls _ _ l0 t374 _ ?side1 ?side2 A2.out).mono ?_); (case side1 => repeat (first | exact HR0.out | (with_reducible refine Kd.C_alloc ?_ _) | (with_reducible refine Kd.C_drewN ?_ _) | (with_reducible refine Kd.C_drew ?_))); (case side2 => exact HC0.out); rintro e w' ⟨rfl, rfl⟩; refine ⟨_, rfl, ?_⟩))
  (try simp only [Act.put, List.setIfInBounds_toArray, List.set_cons_zero, List.set_cons_succ])
  have H := HS3.out
  clear HS3
  by_cases c4 : t374 = true
  · subst c4
    have H1 : (some true) = some r := by rw [if_pos rfl] at H; exact H
    clear H
    have H := H1
    clear H1
    obtain rfl := Option.some.inj H
    go_wp2
    go_ret
    exact ⟨by first | rfl | (simp [errW_none, errW_some] <;> rfl) | (simp [*, errW_none, errW_some] <;> rfl), by repeat (first | (with_reducible first | exact HB.out | apply below_alloc | apply pw_below_drewN | apply below_drew1) | exact HB.out)⟩
  · replace c4 := Bool.eq_false_iff.mpr c4
    subst c4
    have H1 : ((spec_DrawControl.f k l0).bind fun bt375 => ((impl_ControlText.f k bt375.1 bt375.2.1 bt375.2.2.1 bt375.2.2.2).bind fun t380 => ((impl_ControlOf.f k t380).bind fun bt381 => ((spec_DrawControlOf.f k l0).bind fun t386 => ((spec_DrawControlText.f k l0).bind fun bt387 => ((spec_ControlText.f k bt375.1 bt375.2.1 bt375.2.2.1 bt375.2.2.2).bind fun t392 => (if t380.toList = t392.toList then (if (bt381.1 == bt375.1 && (bt381.2.1 == bt375.2.1 && (bt381.2.2.1 == bt375.2.2.1 && (bt381.2.2.2 == bt375.2.2.2)))) = true then ((impl_ControlOf.f k t386).bind fun bt393 => ((spec_ControlOf.f k t386).bind fun bt397 => (if (bt393.1 == bt397.1 && (bt393.2.1 == bt397.2.1 && (bt393.2.2.1 == bt397.2.2.1 && (bt393.2.2.2 == bt397.2.2.2)))) = true then ((impl_ControlText.f k bt387.1 bt387.2.1 bt387.2.2.1 bt387.2.2.2).bind fun t401 => ((spec_ControlText.f k bt387.1 bt387.2.1 bt387.2.2.1 bt387.2.2.2).bind fun t402 => (if t401.toList = t402.toList then ((impl_ControlOf.f k (⟨#[]⟩ : ByteArray)).bind fun bt403 => (if bt403.2.2.1 = (-1) then ((impl_ControlOf.f k (⟨#[32, 80, 82, 73, 86, 65, 84, 69, 32, 44, 109, 97, 120, 45, 97, 103, 101, 61, 55]⟩ : ByteArray)).bind fun bt407 => (some bt407.1)) else (none))) else (none)))) else (none)))) else (none)) else (none)))))))) = some r := by rw [if_neg (show ¬ (false = true) by decide)] at H; exact H
    clear H
    have H := H1
    clear H1
    replace H := Option.bind_eq_some_iff.mp H
    obtain ⟨⟨t375, t376, t377, t378⟩, A50, H⟩ := H
    replace H : ((impl_ControlText.f k t375 t376 t377 t378).bind fun t380 => ((impl_ControlOf.f k t380).bind fun bt381 => ((spec_DrawControlOf.f k l0).bind fun t386 => ((spec_DrawControlText.f k l0).bind fun bt387 => ((spec_ControlText.f k t375 t376 t377 t378).bind fun t392 => (if t380.toList = t392.toList then (if (bt381.1 == t375 && (bt381.2.1 == t376 && (bt381.2.2.1 == t377 && (bt381.2.2.2 == t378)))) = true then ((impl_ControlOf.f k t386).bind fun bt393 => ((spec_ControlOf.f k t386).bind fun bt397 => (if (bt393.1 == bt397.1 && (bt393.2.1 == bt397.2.1 && (bt393.2.2.1 == bt397.2.2.1 && (bt393.2.2.2 == bt397.2.2.2)))) = true then ((impl_ControlText.f k bt387.1 bt387.2.1 bt387.2.2.1 bt387.2.2.2).bind fun t401 => ((spec_ControlText.f k bt387.1 bt387.2.1 bt387.2.2.1 bt387.2.2.2).bind fun t402 => (if t401.toList = t402.toList then ((impl_ControlOf.f k (⟨#[]⟩ : ByteArray)).bind fun bt403 => (if bt403.2.2.1 = (-1) then ((impl_ControlOf.f k (⟨#[32, 80, 82, 73, 86, 65, 84, 69, 32, 44, 109, 97, 120, 45, 97, 103, 101, 61, 55]⟩ : ByteArray)).bind fun bt407 => (some bt407.1)) else (none))) else (none)))) else (none)))) else (none)) else (none))))))) = some r := H
    have A5 := Aside0.mk A50
    clear A50
    replace H := Option.bind_eq_some_iff.mp H
    obtain ⟨t380, A60, H⟩ := H
    replace H : ((impl_ControlOf.f k t380).bind fun bt381 => ((spec_DrawControlOf.f k l0).bind fun t386 => ((spec_DrawControlText.f k l0).bind fun bt387 => ((spec_ControlText.f k t375 t376 t377 t378).bind fun t392 => (if t380.toList = t392.toList then (if (bt381.1 == t375 && (bt381.2.1 == t376 && (bt381.2.2.1 == t377 && (bt381.2.2.2 == t378)))) = true then ((impl_ControlOf.f k t386).bind fun bt393 => ((spec_ControlOf.f k t386).bind fun bt397 => (if (bt393.1 == bt397.1 && (bt393.2.1 == bt397.2.1 && (bt393.2.2.1 == bt397.2.2.1 && (bt393.2.2.2 == bt397.2.2.2)))) = true then ((impl_ControlText.f k bt387.1 bt387.2.1 bt387.2.2.1 bt387.2.2.2).bind fun t401 => ((spec_ControlText.f k bt387.1 bt387.2.1 bt387.2.2.1 bt387.2.2.2).bind fun t402 => (if t401.toList = t402.toList then ((impl_ControlOf.f k (⟨#[]⟩ : ByteArray)).bind fun bt403 => (if bt403.2.2.1 = (-1) then ((impl_ControlOf.f k (⟨#[32, 80, 82, 73, 86, 65, 84, 69, 32, 44, 109, 97, 120, 45, 97, 103, 101, 61, 55]⟩ : ByteArray)).bind fun bt407 => (some bt407.1)) else (none))) else (none)))) else (none)))) else (none)) else (none)))))) = some r := H
    have A6 := Aside0.mk A60
    clear A60
    replace H := Option.bind_eq_some_iff.mp H
    obtain ⟨⟨t381, t382, t383, t384⟩, A70, H⟩ := H
    replace H : ((spec_DrawControlOf.f k l0).bind fun t386 => ((spec_DrawControlText.f k l0).bind fun bt387 => ((spec_ControlText.f k t375 t376 t377 t378).bind fun t392 => (if t380.toList = t392.toList then (if (t381 == t375 && (t382 == t376 && (t383 == t377 && (t384 == t378)))) = true then ((impl_ControlOf.f k t386).bind fun bt393 => ((spec_ControlOf.f k t386).bind fun bt397 => (if (bt393.1 == bt397.1 && (bt393.2.1 == bt397.2.1 && (bt393.2.2.1 == bt397.2.2.1 && (bt393.2.2.2 == bt397.2.2.2)))) = true then ((impl_ControlText.f k bt387.1 bt387.2.1 bt387.2.2.1 bt387.2.2.2).bind fun t401 => ((spec_ControlText.f k bt387.1 bt387.2.1 bt387.2.2.1 bt387.2.2.2).bind fun t402 => (if t401.toList = t402.toList then ((impl_ControlOf.f k (⟨#[]⟩ : ByteArray)).bind fun bt403 => (if bt403.2.2.1 = (-1) then ((impl_ControlOf.f k (⟨#[32, 80, 82, 73, 86, 65, 84, 69, 32, 44, 109, 97, 120, 45, 97, 103, 101, 61, 55]⟩ : ByteArray)).bind fun bt407 => (some bt407.1)) else (none))) else (none)))) else (none)))) else (none)) else (none))))) = some r := H
    have A7 := Aside0.mk A70
    clear A70
    replace H := Option.bind_eq_some_iff.mp H
    obtain ⟨t386, A80, H⟩ := H
    replace H : ((spec_DrawControlText.f k l0).bind fun bt387 => ((spec_ControlText.f k t375 t376 t377 t378).bind fun t392 => (if t380.toList = t392.toList then (if (t381 == t375 && (t382 == t376 && (t383 == t377 && (t384 == t378)))) = true then ((impl_ControlOf.f k t386).bind fun bt393 => ((spec_ControlOf.f k t386).bind fun bt397 => (if (bt393.1 == bt397.1 && (bt393.2.1 == bt397.2.1 && (bt393.2.2.1 == bt397.2.2.1 && (bt393.2.2.2 == bt397.2.2.2)))) = true then ((impl_ControlText.f k bt387.1 bt387.2.1 bt387.2.2.1 bt387.2.2.2).bind fun t401 => ((spec_ControlText.f k bt387.1 bt387.2.1 bt387.2.2.1 bt387.2.2.2).bind fun t402 => (if t401.toList = t402.toList then ((impl_ControlOf.f k (⟨#[]⟩ : ByteArray)).bind fun bt403 => (if bt403.2.2.1 = (-1) then ((impl_ControlOf.f k (⟨#[32, 80, 82, 73, 86, 65, 84, 69, 32, 44, 109, 97, 120, 45, 97, 103, 101, 61, 55]⟩ : ByteArray)).bind fun bt407 => (some bt407.1)) else (none))) else (none)))) else (none)))) else (none)) else (none)))) = some r := H
    have A8 := Aside0.mk A80
    clear A80
    replace H := Option.bind_eq_some_iff.mp H
    obtain ⟨⟨t387, t388, t389, t390⟩, A90, H⟩ := H
    replace H : ((spec_ControlText.f k t375 t376 t377 t378).bind fun t392 => (if t380.toList = t392.toList then (if (t381 == t375 && (t382 == t376 && (t383 == t377 && (t384 == t378)))) = true then ((impl_ControlOf.f k t386).bind fun bt393 => ((spec_ControlOf.f k t386).bind fun bt397 => (if (bt393.1 == bt397.1 && (bt393.2.1 == bt397.2.1 && (bt393.2.2.1 == bt397.2.2.1 && (bt393.2.2.2 == bt397.2.2.2)))) = true then ((impl_ControlText.f k t387 t388 t389 t390).bind fun t401 => ((spec_ControlText.f k t387 t388 t389 t390).bind fun t402 => (if t401.toList = t402.toList then ((impl_ControlOf.f k (⟨#[]⟩ : ByteArray)).bind fun bt403 => (if bt403.2.2.1 = (-1) then ((impl_ControlOf.f k (⟨#[32, 80, 82, 73, 86, 65, 84, 69, 32, 44, 109, 97, 120, 45, 97, 103, 101, 61, 55]⟩ : ByteArray)).bind fun bt407 => (some bt407.1)) else (none))) else (none)))) else (none)))) else (none)) else (none))) = some r := H
    have A9 := Aside0.mk A90
    clear A90
    replace H := Option.bind_eq_some_iff.mp H
    obtain ⟨t392, A100, H⟩ := H
    replace H : (if t380.toList = t392.toList then (if (t381 == t375 && (t382 == t376 && (t383 == t377 && (t384 == t378)))) = true then ((impl_ControlOf.f k t386).bind fun bt393 => ((spec_ControlOf.f k t386).bind fun bt397 => (if (bt393.1 == bt397.1 && (bt393.2.1 == bt397.2.1 && (bt393.2.2.1 == bt397.2.2.1 && (bt393.2.2.2 == bt397.2.2.2)))) = true then ((impl_ControlText.f k t387 t388 t389 t390).bind fun t401 => ((spec_ControlText.f k t387 t388 t389 t390).bind fun t402 => (if t401.toList = t402.toList then ((impl_ControlOf.f k (⟨#[]⟩ : ByteArray)).bind fun bt403 => (if bt403.2.2.1 = (-1) then ((impl_ControlOf.f k (⟨#[32, 80, 82, 73, 86, 65, 84, 69, 32, 44, 109, 97, 120, 45, 97, 103, 101, 61, 55]⟩ : ByteArray)).bind fun bt407 => (some bt407.1)) else (none))) else (none)))) else (none)))) else (none)) else (none)) = some r := H
    have A10 := Aside0.mk A100
    clear A100
    by_cases c11 : t380.toList = t392.toList
    · rw [if_pos c11] at H
      have c11b0 : (t380.toList == t392.toList) = true := beq_iff_eq.mpr c11
      have c11b1 : (t380.toList != t392.toList) = false := bne_eq_false_iff_eq.mpr c11
      clear c11
      (first | rw [c11b0] | (simp only [i64_w, i32_w]; rw [c11b0]) | skip)
      by_cases c12 : (t381 == t375 && (t382 == t376 && (t383 == t377 && (t384 == t378)))) = true
      · rw [if_pos c12] at H
        have c12b0 : (t381 == t375 && (t382 == t376 && (t383 == t377 && (t384 == t378)))) = true := c12
        (try (have c12b1 : decide (t381 = t375 && (t382 == t376 && (t383 == t377 && (t384 == t378)))) = true := by simpa using c12))
        (try (have c12b2 : (t381 == t375 && (t382 == t376 && (t383 == t377 && (t384 == t378)))) = true := by simpa using c12))
        clear c12
        replace H := Option.bind_eq_some_iff.mp H
        obtain ⟨⟨t393, t394, t395, t396⟩, A130, H⟩ := H
        replace H : ((spec_ControlOf.f k t386).bind fun bt397 => (if (t393 == bt397.1 && (t394 == bt397.2.1 && (t395 == bt397.2.2.1 && (t396 == bt397.2.2.2)))) = true then ((impl_ControlText.f k t387 t388 t389 t390).bind fun t401 => ((spec_ControlText.f k t387 t388 t389 t390).bind fun t402 => (if t401.toList = t402.toList then ((impl_ControlOf.f k (⟨#[]⟩ : ByteArray)).bind fun bt403 => (if bt403.2.2.1 = (-1) then ((impl_ControlOf.f k (⟨#[32, 80, 82, 73, 86, 65, 84, 69, 32, 44, 109, 97, 120, 45, 97, 103, 101, 61, 55]⟩ : ByteArray)).bind fun bt407 => (some bt407.1)) else (none))) else (none)))) else (none))) = some r := H
        have A13 := Aside0.mk A130
        clear A130
        replace H := Option.bind_eq_some_iff.mp H
        obtain ⟨⟨t397, t398, t399, t400⟩, A140, H⟩ := H
        replace H : (if (t393 == t397 && (t394 == t398 && (t395 == t399 && (t396 == t400)))) = true then ((impl_ControlText.f k t387 t388 t389 t390).bind fun t401 => ((spec_ControlText.f k t387 t388 t389 t390).bind fun t402 => (if t401.toList = t402.toList then ((impl_ControlOf.f k (⟨#[]⟩ : ByteArray)).bind fun bt403 => (if bt403.2.2.1 = (-1) then ((impl_ControlOf.f k (⟨#[32, 80, 82, 73, 86, 65, 84, 69, 32, 44, 109, 97, 120, 45, 97, 103, 101, 61, 55]⟩ : ByteArray)).bind fun bt407 => (some bt407.1)) else (none))) else (none)))) else (none)) = some r := H
        have A14 := Aside0.mk A140
        clear A140
        by_cases c15 : (t393 == t397 && (t394 == t398 && (t395 == t399 && (t396 == t400)))) = true
        · rw [if_pos c15] at H
          have c15b0 : (t393 == t397 && (t394 == t398 && (t395 == t399 && (t396 == t400)))) = true := c15
          (try (have c15b1 : decide (t393 = t397 && (t394 == t398 && (t395 == t399 && (t396 == t400)))) = true := by simpa using c15))
          (try (have c15b2 : (t393 == t397 && (t394 == t398 && (t395 == t399 && (t396 == t400)))) = true := by simpa using c15))
          clear c15
          replace H := Option.bind_eq_some_iff.mp H
          obtain ⟨t401, A160, H⟩ := H
          replace H : ((spec_ControlText.f k t387 t388 t389 t390).bind fun t402 => (if t401.toList = t402.toList then ((impl_ControlOf.f k (⟨#[]⟩ : ByteArray)).bind fun bt403 => (if bt403.2.2.1 = (-1) then ((impl_ControlOf.f k (⟨#[32, 80, 82, 73, 86, 65, 84, 69, 32, 44, 109, 97, 120, 45, 97, 103, 101, 61, 55]⟩ : ByteArray)).bind fun bt407 => (some bt407.1)) else (none))) else (none))) = some r := H
          have A16 := Aside0.mk A160
          clear A160
          replace H := Option.bind_eq_some_iff.mp H
          obtain ⟨t402, A170, H⟩ := H
          replace H : (if t401.toList = t402.toList then ((impl_ControlOf.f k (⟨#[]⟩ : ByteArray)).bind fun bt403 => (if bt403.2.2.1 = (-1) then ((impl_ControlOf.f k (⟨#[32, 80, 82, 73, 86, 65, 84, 69, 32, 44, 109, 97, 120, 45, 97, 103, 101, 61, 55]⟩ : ByteArray)).bind fun bt407 => (some bt407.1)) else (none))) else (none)) = some r := H
          have A17 := Aside0.mk A170
          clear A170
          by_cases c18 : t401.toList = t402.toList
          · rw [if_pos c18] at H
            have c18b0 : (t401.toList == t402.toList) = true := beq_iff_eq.mpr c18
            have c18b1 : (t401.toList != t402.toList) = false := bne_eq_false_iff_eq.mpr c18
            clear c18
            replace H := Option.bind_eq_some_iff.mp H
            obtain ⟨⟨t403, t404, t405, t406⟩, A190, H⟩ := H
            replace H : (if t405 = (-1) then ((impl_ControlOf.f k (⟨#[32, 80, 82, 73, 86, 65, 84, 69, 32, 44, 109, 97, 120, 45, 97, 103, 101, 61, 55]⟩ : ByteArray)).bind fun bt407 => (some bt407.1)) else (none)) = some r := H
            have A19 := Aside0.mk A190
            have hfdA19_0 : ∀ W : World, (Instr.field 25 (.agg #[.bool t403, .bool t404, .int .i64 t405, .int .i64 t406]) 0).run Tryd.prog W = .ok (.bool t403) W := fun _ => by kernel_rfl
            have hfdA19_1 : ∀ W : World, (Instr.field 25 (.agg #[.bool t403, .bool t404, .int .i64 t405, .int .i64 t406]) 1).run Tryd.prog W = .ok (.bool t404) W := fun _ => by kernel_rfl
            have hfdA19_2 : ∀ W : World, (Instr.field 25 (.agg #[.bool t403, .bool t404, .int .i64 t405, .int .i64 t406]) 2).run Tryd.prog W = .ok (.int .i64 t405) W := fun _ => by kernel_rfl
            have hfdA19_3 : ∀ W : World, (Instr.field 25 (.agg #[.bool t403, .bool t404, .int .i64 t405, .int .i64 t406]) 3).run Tryd.prog W = .ok (.int .i64 t406) W := fun _ => by kernel_rfl
            clear A190
            by_cases c20 : t405 = (-1)
            · rw [if_pos c20] at H
              have c20b0 : (t405 == (-1)) = true := beq_iff_eq.mpr c20
              have c20b1 : (t405 != (-1)) = false := bne_eq_false_iff_eq.mpr c20
              clear c20
              replace H := Option.bind_eq_some_iff.mp H
              obtain ⟨⟨t407, t408, t409, t410⟩, A210, H⟩ := H
              replace H : (some t407) = some r := H
              have A21 := Aside0.mk A210
              have hfdA21_0 : ∀ W : World, (Instr.field 25 (.agg #[.bool t407, .bool t408, .int .i64 t409, .int .i64 t410]) 0).run Tryd.prog W = .ok (.bool t407) W := fun _ => by kernel_rfl
              have hfdA21_1 : ∀ W : World, (Instr.field 25 (.agg #[.bool t407, .bool t408, .int .i64 t409, .int .i64 t410]) 1).run Tryd.prog W = .ok (.bool t408) W := fun _ => by kernel_rfl
              have hfdA21_2 : ∀ W : World, (Instr.field 25 (.agg #[.bool t407, .bool t408, .int .i64 t409, .int .i64 t410]) 2).run Tryd.prog W = .ok (.int .i64 t409) W := fun _ => by kernel_rfl
              have hfdA21_3 : ∀ W : World, (Instr.field 25 (.agg #[.bool t407, .bool t408, .int .i64 t409, .int .i64 t410]) 3).run Tryd.prog W = .ok (.int .i64 t410) W := fun _ => by kernel_rfl
              clear A210
              obtain rfl := Option.some.inj H
              try go_wp2_with (first | ((with_reducible refine gate_callee (f := 15) rfl ?_); refine goesL_ (some 11) rfl rfl Tryd.func15 (by kernel_rfl) rfl #[.slice A0 l0.length c0] rfl (by (try simp only [List.map_toArray, List.map_cons, List.map_nil]); first | done | rfl | (simp only [List.length_drop, List.length_take]; rfl)) ?_; (with_reducible refine (spec_DrawControl.calls k _ _ l0 t375 t376 t377 t378 _ ?side1 ?side2 A5.out).mono ?_); (case side1 => repeat (first | exact (Kd.C_below HR0.out HB.out) | (with_reducible refine Kd.C_alloc ?_ _) | (with_reducible refine Kd.C_drewN ?_ _) | (with_reducible refine Kd.C_drew ?_))); (case side2 => exact HC0.out); rintro e w22 ⟨rfl, hb⟩; refine ⟨_, rfl, ?_⟩; have n0_ := Aside0.mk (below_step (by repeat (first | (with_reducible first | exact HB.out | apply below_alloc | apply pw_below_drewN | apply below_drew1) | exact HB.out)) hb); clear HB; have HB := n0_; clear n0_; (try clear hb); (try clear hb2); (try clear hk); (try clear hi)) | ((with_reducible refine gate_dst (N := 3) rfl ?_); refine box_event ?hg (N := 3) ?hd (cs := #[.bool false, .bool false, .int .i64 0, .int .i64 0]) (t := 25) ?hr ?_; (case hd => rfl); (case hg => rfl); (case hr => first | (go_simp; done) | (go_simp; rfl)); intro gb379 hg w23 hbox hb; have n0_ := Aside0.mk (below_step (by repeat (first | (with_reducible first | exact HB.out | apply below_alloc | apply pw_below_drewN | apply below_drew1) | exact HB.out)) hb); have n1_ := Aside0.mk (hbox); have n2_ := Aside0.mk ((by rw [hg]; exact (below_size (by repeat (first | (with_reducible first | exact HB.out | apply below_alloc | apply pw_below_drewN | apply below_drew1) | exact HB.out))) : w.heap.size ≤ gb379)); have n3_ := Aside0.mk ((by rw [hg]; exact (below_size (by repeat (first | (with_reducible first | exact HB.out | apply below_alloc | apply pw_below_drewN | apply below_drew1) | exact HB.out))) : w.heap.size ≤ gb379)); clear HB; have HB := n0_; have BK379 := n1_; have GW379 := n2_; have GE379 := n3_; clear n0_ n1_ n2_ n3_; clear hb hbox hg; have hcz24_0 : w23.cell? ⟨gb379, 0, none⟩ = some (.bool false) := (blk_cell BK379.out 0).trans rfl; have hcz24_1 : w23.cell? ⟨gb379, 1, none⟩ = some (.bool false) := (blk_cell BK379.out 1).trans rfl; have hcz24_2 : w23.cell? ⟨gb379, 2, none⟩ = some (.int .i64 0) := (blk_cell BK379.out 2).trans rfl; have hcz24_3 : w23.cell? ⟨gb379, 3, none⟩ = some (.int .i64 0) := (blk_cell BK379.out 3).trans rfl; have hfz24_0 := blk_frozen BK379.out 0; have hfz24_1 := blk_frozen BK379.out 1; have hfz24_2 := blk_frozen BK379.out 2; have hfz24_3 := blk_frozen BK379.out 3) | ((with_reducible refine gate_callee (f := 10) rfl ?_); refine goesL_ (some 13) rfl rfl Tryd.func10 (by kernel_rfl) rfl #[.agg #[.bool t375, .bool t376, .int .i64 t377, .int .i64 t378]] rfl (by (try simp only [List.map_toArray, List.map_cons, List.map_nil]); first | done | rfl | (simp only [List.length_drop, List.length_take]; rfl)) ?_; (with_reducible refine (impl_ControlText.calls k t375 t376 t377 t378 t380 _ ?side1 A6.out).mono ?_); (case side1 => first | exact Tab.below HTB.out (by repeat (first | (with_reducible first | exact HB.out | apply below_alloc | apply pw_below_drewN | apply below_drew1 | refine below_set ?_ GE379.out) | exact HB.out)) | exact HTB.out); rintro e w25 ⟨rfl, hb⟩; refine ⟨_, rfl, ?_⟩; have n0_ := Aside0.mk (blk_below (g := gb379) (o := .cells #[.bool t375, .bool t376, .int .i64 t377, .int .i64 t378] 25 (0, 0)) (by (with_reducible repeat (first | refine blk_drewN ?_ _ | refine blk_drew ?_ | refine blk_alloc ?_ _)); refine blk_put (cs := #[.bool t375, .bool t376, .int .i64 t377, .int .i64 0]) ?_ 3 _ rfl; (with_reducible repeat (first | refine blk_drewN ?_ _ | refine blk_drew ?_ | refine blk_alloc ?_ _)); refine blk_put (cs := #[.bool t375, .bool t376, .int .i64 0, .int .i64 0]) ?_ 2 _ rfl; (with_reducible repeat (first | refine blk_drewN ?_ _ | refine blk_drew ?_ | refine blk_alloc ?_ _)); refine blk_put (cs := #[.bool t375, .bool false, .int .i64 0, .int .i64 0]) ?_ 1 _ rfl; (with_reducible repeat (first | refine blk_drewN ?_ _ | refine blk_drew ?_ | refine blk_alloc ?_ _)); refine blk_put (cs := #[.bool false, .bool false, .int .i64 0, .int .i64 0]) ?_ 0 _ rfl; (with_reducible repeat (first | refine blk_drewN ?_ _ | refine blk_drew ?_ | refine blk_alloc ?_ _)); exact BK379.out) hb); have n1_ := Aside0.mk (below_step (by repeat (first | (with_reducible first | exact HB.out | apply below_alloc | apply pw_below_drewN | apply below_drew1 | refine below_set ?_ GE379.out) | exact HB.out)) hb); clear BK379; clear HB; have BK379 := n0_; have HB := n1_; clear n0_ n1_; (try clear hb); (try clear hb2); (try clear hk); (try clear hi)) | ((with_reducible refine gate_callee (f := 12) rfl ?_); refine goesL_ (some 15) rfl rfl Tryd.func12 (by kernel_rfl) rfl #[.string t380] rfl (by (try simp only [List.map_toArray, List.map_cons, List.map_nil]); first | done | rfl | (simp only [List.length_drop, List.length_take]; rfl)) ?_; (with_reducible refine (impl_ControlOf.calls k t380 t381 t382 t383 t384 _ ?side1 A7.out).mono ?_); (case side1 => first | exact Shp.below HSH.out (by repeat (first | (with_reducible first | exact HB.out | apply below_alloc | apply pw_below_drewN | apply below_drew1 | refine below_set ?_ GE379.out) | exact HB.out)) | exact HSH.out); rintro e w26 ⟨rfl, hb⟩; refine ⟨_, rfl, ?_⟩; have n0_ := Aside0.mk (blk_below (g := gb379) (o := .cells #[.bool t375, .bool t376, .int .i64 t377, .int .i64 t378] 25 (0, 0)) (by (with_reducible repeat (first | refine blk_drewN ?_ _ | refine blk_drew ?_ | refine blk_alloc ?_ _)); exact BK379.out) hb); have n1_ := Aside0.mk (below_step (by repeat (first | (with_reducible first | exact HB.out | apply below_alloc | apply pw_below_drewN | apply below_drew1 | refine below_set ?_ GE379.out) | exact HB.out)) hb); clear BK379; clear HB; have BK379 := n0_; have HB := n1_; clear n0_ n1_; (try clear hb); (try clear hb2); (try clear hk); (try clear hi)) | ((with_reducible refine gate_dst (N := 5) rfl ?_); refine box_event ?hg (N := 5) ?hd (cs := #[.bool false, .bool false, .int .i64 0, .int .i64 0]) (t := 25) ?hr ?_; (case hd => rfl); (case hg => rfl); (case hr => first | (go_simp; done) | (go_simp; rfl)); intro gb385 hg w27 hbox hb; have n0_ := Aside0.mk (blk_below (g := gb379) (o := .cells #[.bool t375, .bool t376, .int .i64 t377, .int .i64 t378] 25 (0, 0)) (by (with_reducible repeat (first | refine blk_drewN ?_ _ | refine blk_drew ?_ | refine blk_alloc ?_ _)); exact BK379.out) hb); have n1_ := Aside0.mk (below_step (by repeat (first | (with_reducible first | exact HB.out | apply below_alloc | apply pw_below_drewN | apply below_drew1 | refine below_set ?_ GE379.out) | exact HB.out)) hb); have n2_ := Aside0.mk (hbox); have n3_ := Aside0.mk ((by rw [hg]; exact (below_size (by repeat (first | (with_reducible first | exact HB.out | apply below_alloc | apply pw_below_drewN | apply below_drew1 | refine below_set ?_ GE379.out) | exact HB.out))) : w.heap.size ≤ gb385)); have n4_ := Aside0.mk ((by rw [hg]; exact (below_size (by repeat (first | (with_reducible first | exact HB.out | apply below_alloc | apply pw_below_drewN | apply below_drew1 | refine below_set ?_ GE379.out) | exact HB.out))) : w.heap.size ≤ gb385)); have n5_ := Aside0.mk ((by rw [hg]; exact Nat.ne_of_lt (blk_lt (g := gb379) (o := .cells #[.bool t375, .bool t376, .int .i64 t377, .int .i64 t378] 25 (0, 0)) (by (with_reducible repeat (first | refine blk_drewN ?_ _ | refine blk_drew ?_ | refine blk_alloc ?_ _)); exact BK379.out)) : gb379 ≠ gb385)); have n6_ := Aside0.mk ((by rw [hg]; exact Nat.ne_of_gt (blk_lt (g := gb379) (o := .cells #[.bool t375, .bool t376, .int .i64 t377, .int .i64 t378] 25 (0, 0)) (by (with_reducible repeat (first | refine blk_drewN ?_ _ | refine blk_drew ?_ | refine blk_alloc ?_ _)); exact BK379.out)) : gb385 ≠ gb379)); clear BK379; clear HB; have BK379 := n0_; have HB := n1_; have BK385 := n2_; have GW385 := n3_; have GE385 := n4_; have NB379_385 := n5_; have NB385_379 := n6_; clear n0_ n1_ n2_ n3_ n4_ n5_ n6_; clear hb hbox hg; have hnb28 := NB385_379.out; have hnc28 := NB379_385.out; have hcz29_0 : w27.cell? ⟨gb385, 0, none⟩ = some (.bool false) := (blk_cell BK385.out 0).trans rfl; have hcz29_1 : w27.cell? ⟨gb385, 1, none⟩ = some (.bool false) := (blk_cell BK385.out 1).trans rfl; have hcz29_2 : w27.cell? ⟨gb385, 2, none⟩ = some (.int .i64 0) := (blk_cell BK385.out 2).trans rfl; have hcz29_3 : w27.cell? ⟨gb385, 3, none⟩ = some (.int .i64 0) := (blk_cell BK385.out 3).trans rfl; have hfz29_0 := blk_frozen BK385.out 0; have hfz29_1 := blk_frozen BK385.out 1; have hfz29_2 := blk_frozen BK385.out 2; have hfz29_3 := blk_frozen BK385.out 3) | ((with_reducible refine gate_callee (f := 20) rfl ?_); refine goesL_ (some 17) rfl rfl Tryd.func20 (by kernel_rfl) rfl #[.slice A0 l0.length c0] rfl (by (try simp only [List.map_toArray, List.map_cons, List.map_nil]); first | done | rfl | (simp only [List.length_drop, List.length_take]; rfl)) ?_; (with_reducible refine (spec_DrawControlOf.calls k _ _ l0 t386 _ ?side1 ?side2 A8.out).mono ?_); (case side1 => exact Kd.C_below HR0.out (by repeat (first | (with_reducible first | exact HB.out | apply below_alloc | apply pw_below_drewN | apply below_drew1 | refine below_set ?_ GE379.out | refine below_set ?_ GE385.out) | exact HB.out))); (case side2 => exact HC0.out); rintro e w30 ⟨rfl, hb⟩; refine ⟨_, rfl, ?_⟩; have n0_ := Aside0.mk (blk_below (g := gb379) (o := .cells #[.bool t375, .bool t376, .int .i64 t377, .int .i64 t378] 25 (0, 0)) (by (with_reducible repeat (first | refine blk_drewN ?_ _ | refine blk_drew ?_ | refine blk_alloc ?_ _)); refine blk_far ?_ NB379_385.out _; (with_reducible repeat (first | refine blk_drewN ?_ _ | refine blk_drew ?_ | refine blk_alloc ?_ _)); refine blk_far ?_ NB379_385.out _; (with_reducible repeat (first | refine blk_drewN ?_ _ | refine blk_drew ?_ | refine blk_alloc ?_ _)); refine blk_far ?_ NB379_385.out _; (with_reducible repeat (first | refine blk_drewN ?_ _ | refine blk_drew ?_ | refine blk_alloc ?_ _)); refine blk_far ?_ NB379_385.out _; (with_reducible repeat (first | refine blk_drewN ?_ _ | refine blk_drew ?_ | refine blk_alloc ?_ _)); exact BK379.out) hb); have n1_ := Aside0.mk (blk_below (g := gb385) (o := .cells #[.bool t381, .bool t382, .int .i64 t383, .int .i64 t384] 25 (0, 0)) (by (with_reducible repeat (first | refine blk_drewN ?_ _ | refine blk_drew ?_ | refine blk_alloc ?_ _)); refine blk_put (cs := #[.bool t381, .bool t382, .int .i64 t383, .int .i64 0]) ?_ 3 _ rfl; (with_reducible repeat (first | refine blk_drewN ?_ _ | refine blk_drew ?_ | refine blk_alloc ?_ _)); refine blk_put (cs := #[.bool t381, .bool t382, .int .i64 0, .int .i64 0]) ?_ 2 _ rfl; (with_reducible repeat (first | refine blk_drewN ?_ _ | refine blk_drew ?_ | refine blk_alloc ?_ _)); refine blk_put (cs := #[.bool t381, .bool false, .int .i64 0, .int .i64 0]) ?_ 1 _ rfl; (with_reducible repeat (first | refine blk_drewN ?_ _ | refine blk_drew ?_ | refine blk_alloc ?_ _)); refine blk_put (cs := #[.bool false, .bool false, .int .i64 0, .int .i64 0]) ?_ 0 _ rfl; (with_reducible repeat (first | refine blk_drewN ?_ _ | refine blk_drew ?_ | refine blk_alloc ?_ _)); exact BK385.out) hb); have n2_ := Aside0.mk (below_step (by repeat (first | (with_reducible first | exact HB.out | apply below_alloc | apply pw_below_drewN | apply below_drew1 | refine below_set ?_ GE379.out | refine below_set ?_ GE385.out) | exact HB.out)) hb); clear BK379; clear BK385; clear HB; have BK379 := n0_; have BK385 := n1_; have HB := n2_; clear n0_ n1_ n2_; (try clear hb); (try clear hb2); (try clear hk); (try clear hi)) | ((with_reducible refine gate_callee (f := 21) rfl ?_); refine goesL_ (some 19) rfl rfl Tryd.func21 (by kernel_rfl) rfl #[.slice A0 l0.length c0] rfl (by (try simp only [List.map_toArray, List.map_cons, List.map_nil]); first | done | rfl | (simp only [List.length_drop, List.length_take]; rfl)) ?_; (with_reducible refine (spec_DrawControlText.calls k _ _ l0 t387 t388 t389 t390 _ ?side1 ?side2 A9.out).mono ?_); (case side1 => repeat (first | exact (Kd.C_below HR0.out HB.out) | (with_reducible refine Kd.C_alloc ?_ _) | (with_reducible refine Kd.C_drewN ?_ _) | (with_reducible refine Kd.C_drew ?_))); (case side2 => exact HC0.out); rintro e w31 ⟨rfl, hb⟩; refine ⟨_, rfl, ?_⟩; have n0_ := Aside0.mk (blk_below (g := gb379) (o := .cells #[.bool t375, .bool t376, .int .i64 t377, .int .i64 t378] 25 (0, 0)) (by (with_reducible repeat (first | refine blk_drewN ?_ _ | refine blk_drew ?_ | refine blk_alloc ?_ _)); exact BK379.out) hb); have n1_ := Aside0.mk (blk_below (g := gb385) (o := .cells #[.bool t381, .bool t382, .int .i64 t383, .int .i64 t384] 25 (0, 0)) (by (with_reducible repeat (first | refine blk_drewN ?_ _ | refine blk_drew ?_ | refine blk_alloc ?_ _)); exact BK385.out) hb); have n2_ := Aside0.mk (below_step (by repeat (first | (with_reducible first | exact HB.out | apply below_alloc | apply pw_below_drewN | apply below_drew1 | refine below_set ?_ GE379.out | refine below_set ?_ GE385.out) | exact HB.out)) hb); clear BK379; clear BK385; clear HB; have BK379 := n0_; have BK385 := n1_; have HB := n2_; clear n0_ n1_ n2_; (try clear hb); (try clear hb2); (try clear hk); (try clear hi)) | ((with_reducible refine gate_dst (N := 7) rfl ?_); refine box_event ?hg (N := 7) ?hd (cs := #[.bool false, .bool false, .int .i64 0, .int .i64 0]) (t := 25) ?hr ?_; (case hd => rfl); (case hg => rfl); (case hr => first | (go_simp; done) | (go_simp; rfl)); intro gb391 hg w32 hbox hb; have n0_ := Aside0.mk (blk_below (g := gb379) (o := .cells #[.bool t375, .bool t376, .int .i64 t377, .int .i64 t378] 25 (0, 0)) (by (with_reducible repeat (first | refine blk_drewN ?_ _ | refine blk_drew ?_ | refine blk_alloc ?_ _)); exact BK379.out) hb); have n1_ := Aside0.mk (blk_below (g := gb385) (o := .cells #[.bool t381, .bool t382, .int .i64 t383, .int .i64 t384] 25 (0, 0)) (by (with_reducible repeat (first | refine blk_drewN ?_ _ | refine blk_drew ?_ | refine blk_alloc ?_ _)); exact BK385.out) hb); have n2_ := Aside0.mk (below_step (by repeat (first | (with_reducible first | exact HB.out | apply below_alloc | apply pw_below_drewN | apply below_drew1 | refine below_set ?_ GE379.out | refine below_set ?_ GE385.out) | exact HB.out)) hb); have n3_ := Aside0.mk (hbox); have n4_ := Aside0.mk ((by rw [hg]; exact (below_size (by repeat (first | (with_reducible first | exact HB.out | apply below_alloc | apply pw_below_drewN | apply below_drew1 | refine below_set ?_ GE379.out | refine below_set ?_ GE385.out) | exact HB.out))) : w.heap.size ≤ gb391)); have n5_ := Aside0.mk ((by rw [hg]; exact (below_size (by repeat (first | (with_reducible first | exact HB.out | apply below_alloc | apply pw_below_drewN | apply below_drew1 | refine below_set ?_ GE379.out | refine below_set ?_ GE385.out) | exact HB.out))) : w.heap.size ≤ gb391)); have n6_ := Aside0.mk ((by rw [hg]; exact Nat.ne_of_lt (blk_lt (g := gb379) (o := .cells #[.bool t375, .bool t376, .int .i64 t377, .int .i64 t378] 25 (0, 0)) (by (with_reducible repeat (first | refine blk_drewN ?_ _ | refine blk_drew ?_ | refine blk_alloc ?_ _)); exact BK379.out)) : gb379 ≠ gb391)); have n7_ := Aside0.mk ((by rw [hg]; exact Nat.ne_of_gt (blk_lt (g := gb379) (o := .cells #[.bool t375, .bool t376, .int .i64 t377, .int .i64 t378] 25 (0, 0)) (by (with_reducible repeat (first | refine blk_drewN ?_ _ | refine blk_drew ?_ | refine blk_alloc ?_ _)); exact BK379.out)) : gb391 ≠ gb379)); have n8_ := Aside0.mk ((by rw [hg]; exact Nat.ne_of_lt (blk_lt (g := gb385) (o := .cells #[.bool t381, .bool t382, .int .i64 t383, .int .i64 t384] 25 (0, 0)) (by (with_reducible repeat (first | refine blk_drewN ?_ _ | refine blk_drew ?_ | refine blk_alloc ?_ _)); exact BK385.out)) : gb385 ≠ gb391)); have n9_ := Aside0.mk ((by rw [hg]; exact Nat.ne_of_gt (blk_lt (g := gb385) (o := .cells #[.bool t381, .bool t382, .int .i64 t383, .int .i64 t384] 25 (0, 0)) (by (with_reducible repeat (first | refine blk_drewN ?_ _ | refine blk_drew ?_ | refine blk_alloc ?_ _)); exact BK385.out)) : gb391 ≠ gb385)); clear BK379; clear BK385; clear HB; have BK379 := n0_; have BK385 := n1_; have HB := n2_; have BK391 := n3_; have GW391 := n4_; have GE391 := n5_; have NB379_391 := n6_; have NB391_379 := n7_; have NB385_391 := n8_; have NB391_385 := n9_; clear n0_ n1_ n2_ n3_ n4_ n5_ n6_ n7_ n8_ n9_; clear hb hbox hg; have hnb33 := NB391_379.out; have hnc33 := NB379_391.out; have hnb34 := NB391_385.out; have hnc34 := NB385_391.out; have hcz35_0 : w32.cell? ⟨gb391, 0, none⟩ = some (.bool false) := (blk_cell BK391.out 0).trans rfl; have hcz35_1 : w32.cell? ⟨gb391, 1, none⟩ = some (.bool false) := (blk_cell BK391.out 1).trans rfl; have hcz35_2 : w32.cell? ⟨gb391, 2, none⟩ = some (.int .i64 0) := (blk_cell BK391.out 2).trans rfl; have hcz35_3 : w32.cell? ⟨gb391, 3, none⟩ = some (.int .i64 0) := (blk_cell BK391.out 3).trans rfl; have hfz35_0 := blk_frozen BK391.out 0; have hfz35_1 := blk_frozen BK391.out 1; have hfz35_2 := blk_frozen BK391.out 2; have hfz35_3 := blk_frozen BK391.out 3))
              have n0_ : Aside0 (((((w32.setCell ⟨gb391, 0, none⟩ (.bool t387)).setCell ⟨gb391, 1, none⟩ (.bool t388)).setCell ⟨gb391, 2, none⟩ (.int .i64 t389)).setCell ⟨gb391, 3, none⟩ (.int .i64 t390)).heap[gb379]? = some (.cells #[.bool t375, .bool t376, .int .i64 t377, .int .i64 t378] 25 (0, 0))) := ⟨by (with_reducible repeat (first | refine blk_drewN ?_ _ | refine blk_drew ?_ | refine blk_alloc ?_ _)); refine blk_far ?_ NB379_391.out _; (with_reducible repeat (first | refine blk_drewN ?_ _ | refine blk_drew ?_ | refine blk_alloc ?_ _)); refine blk_far ?_ NB379_391.out _; (with_reducible repeat (first | refine blk_drewN ?_ _ | refine blk_drew ?_ | refine blk_alloc ?_ _)); refine blk_far ?_ NB379_391.out _; (with_reducible repeat (first | refine blk_drewN ?_ _ | refine blk_drew ?_ | refine blk_alloc ?_ _)); refine blk_far ?_ NB379_391.out _; (with_reducible repeat (first | refine blk_drewN ?_ _ | refine blk_drew ?_ | refine blk_alloc ?_ _)); exact BK379.out⟩
              have n1_ : Aside0 (((((w32.setCell ⟨gb391, 0, none⟩ (.bool t387)).setCell ⟨gb391, 1, none⟩ (.bool t388)).setCell ⟨gb391, 2, none⟩ (.int .i64 t389)).setCell ⟨gb391, 3, none⟩ (.int .i64 t390)).heap[gb385]? = some (.cells #[.bool t381, .bool t382, .int .i64 t383, .int .i64 t384] 25 (0, 0))) := ⟨by (with_reducible repeat (first | refine blk_drewN ?_ _ | refine blk_drew ?_ | refine blk_alloc ?_ _)); refine blk_far ?_ NB385_391.out _; (with_reducible repeat (first | refine blk_drewN ?_ _ | refine blk_drew ?_ | refine blk_alloc ?_ _)); refine blk_far ?_ NB385_391.out _; (with_reducible repeat (first | refine blk_drewN ?_ _ | refine blk_drew ?_ | refine blk_alloc ?_ _)); refine blk_far ?_ NB385_391.out _; (with_reducible repeat (first | refine blk_drewN ?_ _ | refine blk_drew ?_ | refine blk_alloc ?_ _)); refine blk_far ?_ NB385_391.out _; (with_reducible repeat (first | refine blk_drewN ?_ _ | refine blk_drew ?_ | refine blk_alloc ?_ _)); exact BK385.out⟩
              have n2_ : Aside0 (((((w32.setCell ⟨gb391, 0, none⟩ (.bool t387)).setCell ⟨gb391, 1, none⟩ (.bool t388)).setCell ⟨gb391, 2, none⟩ (.int .i64 t389)).setCell ⟨gb391, 3, none⟩ (.int .i64 t390)).heap[gb391]? = some (.cells #[.bool t387, .bool t388, .int .i64 t389, .int .i64 t390] 25 (0, 0))) := ⟨by (with_reducible repeat (first | refine blk_drewN ?_ _ | refine blk_drew ?_ | refine blk_alloc ?_ _)); refine blk_put (cs := #[.bool t387, .bool t388, .int .i64 t389, .int .i64 0]) ?_ 3 _ rfl; (with_reducible repeat (first | refine blk_drewN ?_ _ | refine blk_drew ?_ | refine blk_alloc ?_ _)); refine blk_put (cs := #[.bool t387, .bool t388, .int .i64 0, .int .i64 0]) ?_ 2 _ rfl; (with_reducible repeat (first | refine blk_drewN ?_ _ | refine blk_drew ?_ | refine blk_alloc ?_ _)); refine blk_put (cs := #[.bool t387, .bool false, .int .i64 0, .int .i64 0]) ?_ 1 _ rfl; (with_reducible repeat (first | refine blk_drewN ?_ _ | refine blk_drew ?_ | refine blk_alloc ?_ _)); refine blk_put (cs := #[.bool false, .bool false, .int .i64 0, .int .i64 0]) ?_ 0 _ rfl; (with_reducible repeat (first | refine blk_drewN ?_ _ | refine blk_drew ?_ | refine blk_alloc ?_ _)); exact BK391.out⟩
              have n3_ : Aside0 (Below w.heap.size w ((((w32.setCell ⟨gb391, 0, none⟩ (.bool t387)).setCell ⟨gb391, 1, none⟩ (.bool t388)).setCell ⟨gb391, 2, none⟩ (.int .i64 t389)).setCell ⟨gb391, 3, none⟩ (.int .i64 t390))) := ⟨by repeat (first | (with_reducible first | exact HB.out | apply below_alloc | apply pw_below_drewN | apply below_drew1 | refine below_set ?_ GE379.out | refine below_set ?_ GE385.out | refine below_set ?_ GE391.out) | exact HB.out)⟩
              (try clear BK379)
              (try clear BK385)
              (try clear BK391)
              (try clear HB)
              generalize ((((w32.setCell ⟨gb391, 0, none⟩ (.bool t387)).setCell ⟨gb391, 1, none⟩ (.bool t388)).setCell ⟨gb391, 2, none⟩ (.int .i64 t389)).setCell ⟨gb391, 3, none⟩ (.int .i64 t390)) = w36 at n0_ n1_ n2_ n3_ ⊢
              have BK379 := n0_
              have BK385 := n1_
              have BK391 := n2_
              have HB := n3_
              clear n0_ n1_ n2_ n3_
              have n0_ := Aside0.mk (blk_drew BK379.out)
              have n1_ := Aside0.mk (blk_drew BK385.out)
              have n2_ := Aside0.mk (blk_drew BK391.out)
              have n3_ := Aside0.mk (below_drew1 HB.out)
              clear BK379
              clear BK385
              clear BK391
              clear HB
              have BK379 := n0_
              have BK385 := n1_
              have BK391 := n2_
              have HB := n3_
              clear n0_ n1_ n2_ n3_
              refine start_ (n := 33) (S := fun w' => w'.cell? ⟨gb379, 0, none⟩ = some (.bool t375) ∧ w'.cell? ⟨gb379, 1, none⟩ = some (.bool t376) ∧ w'.cell? ⟨gb379, 2, none⟩ = some (.int .i64 t377) ∧ w'.cell? ⟨gb379, 3, none⟩ = some (.int .i64 t378) ∧ w'.cell? ⟨gb385, 0, none⟩ = some (.bool t381) ∧ w'.cell? ⟨gb385, 1, none⟩ = some (.bool t382) ∧ w'.cell? ⟨gb385, 2, none⟩ = some (.int .i64 t383) ∧ w'.cell? ⟨gb385, 3, none⟩ = some (.int .i64 t384) ∧ w'.cell? ⟨gb391, 0, none⟩ = some (.bool t387) ∧ w'.cell? ⟨gb391, 1, none⟩ = some (.bool t388) ∧ w'.cell? ⟨gb391, 2, none⟩ = some (.int .i64 t389) ∧ w'.cell? ⟨gb391, 3, none⟩ = some (.int .i64 t390)) (ds := []) #[false, false, false, false, false, false, false, false, false, false, false, false, false, false, false, false, false, false, false, false, false, false, false, false, false, false, false, false, false, false, false, false, false] (by kernel_rfl) rfl rfl ⟨(blk_cell BK379.out 0).trans rfl, (blk_cell BK379.out 1).trans rfl, (blk_cell BK379.out 2).trans rfl, (blk_cell BK379.out 3).trans rfl, (blk_cell BK385.out 0).trans rfl, (blk_cell BK385.out 1).trans rfl, (blk_cell BK385.out 2).trans rfl, (blk_cell BK385.out 3).trans rfl, (blk_cell BK391.out 0).trans rfl, (blk_cell BK391.out 1).trans rfl, (blk_cell BK391.out 2).trans rfl, (blk_cell BK391.out 3).trans rfl⟩ (fun hHeld => ?_); refine with_tabW laws_FnControls.tab8 laws_FnControls.bits8 (fun HT_ HW_ => ?_)
              generalize w36.drew = w37 at BK379 BK385 BK391 HB hHeld ⊢
              refine pure_ (i := 0) (N := some 20) (v := ?_) (a' := ?_) #[true, false, false, false, false, false, false, false, false, false, false, false, false, false, false, false, false, false, false, false, false, false, false, false, false, false, false, false, false, false, false, false, false] rfl rfl (any_of HT_.out (by kernel_rfl)) (fun _ _ _ h => h) (Or.inl ⟨by rfl, ?_⟩) ?_ ?_
              rotate_left
              · intro w'
                go_simp
                with_reducible rfl
              rotate_left
              · simp only [Act.put, List.setIfInBounds_toArray, List.set_cons_zero, List.set_cons_succ, i64_w, i32_w]
                rfl
              refine take_ (i := 1) (N := some 21) (v := ?_) (a' := ?_) #[true, true, false, false, false, false, false, false, false, false, false, false, false, false, false, false, false, false, false, false, false, false, false, false, false, false, false, false, false, false, false, false, false] rfl rfl (take_ofW HT_.out HW_.out (by kernel_rfl)) (fun _ _ _ h => h) (Or.inl ⟨by rfl, ?_⟩) hHeld ?_ ?_
              rotate_left
              · rintro w' ⟨s0, s1, s2, s3, s4, s5, s6, s7, s8, s9, s10, s11⟩
                go_simp
                with_reducible rfl
              rotate_left
              · simp only [Act.put, List.setIfInBounds_toArray, List.set_cons_zero, List.set_cons_succ, i64_w, i32_w]
                rfl
              refine one_ (i := 2) (N := some 22) #[true, true, true, false, false, false, false, false, false, false, false, false, false, false, false, false, false, false, false, false, false, false, false, false, false, false, false, false, false, false, false, false, false] rfl rfl (one_of HT_.out (by kernel_rfl)) (by decide) (fun K hK => ?_)
              refine goes_ Tryd.func8 (by kernel_rfl) rfl #[.agg #[.bool t375, .bool t376, .int .i64 t377, .int .i64 t378]] (by rfl) rfl rfl (by (try simp only [List.map_toArray, List.map_cons, List.map_nil]); first | done | rfl | (simp only [List.length_drop, List.length_take]; rfl)) ?_
              with_reducible refine (spec_ControlText.calls k t375 t376 t377 t378 t392 _ A10.out).mono ?_
              rintro e w38 ⟨rfl, hb⟩
              refine ⟨_, rfl, ?_⟩
              have n0_ := Aside0.mk (blk_below (g := gb379) (o := .cells #[.bool t375, .bool t376, .int .i64 t377, .int .i64 t378] 25 (0, 0)) (by (with_reducible repeat (first | refine blk_drewN ?_ _ | refine blk_drew ?_ | refine blk_alloc ?_ _)); exact BK379.out) hb)
              have n1_ := Aside0.mk (blk_below (g := gb385) (o := .cells #[.bool t381, .bool t382, .int .i64 t383, .int .i64 t384] 25 (0, 0)) (by (with_reducible repeat (first | refine blk_drewN ?_ _ | refine blk_drew ?_ | refine blk_alloc ?_ _)); exact BK385.out) hb)
              have n2_ := Aside0.mk (blk_below (g := gb391) (o := .cells #[.bool t387, .bool t388, .int .i64 t389, .int .i64 t390] 25 (0, 0)) (by (with_reducible repeat (first | refine blk_drewN ?_ _ | refine blk_drew ?_ | refine blk_alloc ?_ _)); exact BK391.out) hb)
              have n3_ := Aside0.mk (below_step (by repeat (first | (with_reducible first | exact HB.out | apply below_alloc | apply pw_below_drewN | apply below_drew1 | refine below_set ?_ GE379.out | refine below_set ?_ GE385.out | refine below_set ?_ GE391.out) | exact HB.out)) hb)
              clear BK379
              clear BK385
              clear BK391
              clear HB
              have BK379 := n0_
              have BK385 := n1_
              have BK391 := n2_
              have HB := n3_
              clear n0_ n1_ n2_ n3_
              (try clear hb)
              (try clear hb2)
              (try clear hk)
              (try clear hi)
              refine hK.out _ _ ⟨(blk_cell BK379.out 0).trans rfl, (blk_cell BK379.out 1).trans rfl, (blk_cell BK379.out 2).trans rfl, (blk_cell BK379.out 3).trans rfl, (blk_cell BK385.out 0).trans rfl, (blk_cell BK385.out 1).trans rfl, (blk_cell BK385.out 2).trans rfl, (blk_cell BK385.out 3).trans rfl, (blk_cell BK391.out 0).trans rfl, (blk_cell BK391.out 1).trans rfl, (blk_cell BK391.out 2).trans rfl, (blk_cell BK391.out 3).trans rfl⟩ (fun hHeld => ?_)
              clear hK K
              refine norm_ (a' := ?_) ?_ ?_
              rotate_left
              · show Act.put _ (some 22) _ = _
                simp only [Act.put, List.setIfInBounds_toArray, List.set_cons_zero, List.set_cons_succ, i64_w, i32_w]
                rfl
              refine pure_ (i := 3) (N := some 23) (v := ?_) (a' := ?_) #[true, true, true, true, false, false, false, false, false, false, false, false, false, false, false, false, false, false, false, false, false, false, false, false, false, false, false, false, false, false, false, false, false] rfl rfl (any_of HT_.out (by kernel_rfl)) (fun _ _ _ h => h) (Or.inl ⟨by rfl, ?_⟩) ?_ ?_
              rotate_left
              · intro w'
                go_simp
                with_reducible rfl
              rotate_left
              · simp only [Act.put, List.setIfInBounds_toArray, List.set_cons_zero, List.set_cons_succ, i64_w, i32_w]
                rfl
              refine pure_ (i := 4) (N := some 24) (v := ?_) (a' := ?_) #[true, true, true, true, true, false, false, false, false, false, false, false, false, false, false, false, false, false, false, false, false, false, false, false, false, false, false, false, false, false, false, false, false] rfl rfl (any_of HT_.out (by kernel_rfl)) (fun _ _ _ h => h) (Or.inl ⟨by rfl, ?_⟩) ?_ ?_
              rotate_left
              · intro w'
                go_simp
                with_reducible rfl
              rotate_left
              · simp only [Act.put, List.setIfInBounds_toArray, List.set_cons_zero, List.set_cons_succ, i64_w, i32_w]
                rfl
              refine take_ (i := 5) (N := some 25) (v := ?_) (a' := ?_) #[true, true, true, true, true, true, false, false, false, false, false, false, false, false, false, false, false, false, false, false, false, false, false, false, false, false, false, false, false, false, false, false, false] rfl rfl (take_ofW HT_.out HW_.out (by kernel_rfl)) (fun _ _ _ h => h) (Or.inl ⟨by rfl, ?_⟩) hHeld ?_ ?_
              rotate_left
              · rintro w' ⟨s0, s1, s2, s3, s4, s5, s6, s7, s8, s9, s10, s11⟩
                go_simp
                with_reducible rfl
              rotate_left
              · simp only [Act.put, List.setIfInBounds_toArray, List.set_cons_zero, List.set_cons_succ, i64_w, i32_w]
                rfl
              refine take_ (i := 6) (N := some 26) (v := ?_) (a' := ?_) #[true, true, true, true, true, true, true, false, false, false, false, false, false, false, false, false, false, false, false, false, false, false, false, false, false, false, false, false, false, false, false, false, false] rfl rfl (take_ofW HT_.out HW_.out (by kernel_rfl)) (fun _ _ _ h => h) (Or.inl ⟨by rfl, ?_⟩) hHeld ?_ ?_
              rotate_left
              · rintro w' ⟨s0, s1, s2, s3, s4, s5, s6, s7, s8, s9, s10, s11⟩
                go_simp
                with_reducible rfl
              rotate_left
              · simp only [Act.put, List.setIfInBounds_toArray, List.set_cons_zero, List.set_cons_succ, i64_w, i32_w]
                rfl
              refine pure_ (i := 7) (N := some 27) (v := ?_) (a' := ?_) #[true, true, true, true, true, true, true, true, false, false, false, false, false, false, false, false, false, false, false, false, false, false, false, false, false, false, false, false, false, false, false, false, false] rfl rfl (any_of HT_.out (by kernel_rfl)) (fun _ _ _ h => h) (Or.inl ⟨by rfl, ?_⟩) ?_ ?_
              rotate_left
              · intro w'
                go_simp
                with_reducible rfl
              rotate_left
              · simp only [Act.put, List.setIfInBounds_toArray, List.set_cons_zero, List.set_cons_succ, i64_w, i32_w]
                rfl
              refine pure_ (i := 8) (N := some 28) (v := ?_) (a' := ?_) #[true, true, true, true, true, true, true, true, true, false, false, false, false, false, false, false, false, false, false, false, false, false, false, false, false, false, false, false, false, false, false, false, false] rfl rfl (any_of HT_.out (by kernel_rfl)) (fun _ _ _ h => h) (Or.inl ⟨by rfl, ?_⟩) ?_ ?_
              rotate_left
              · intro w'
                go_simp
                with_reducible rfl
              rotate_left
              · simp only [Act.put, List.setIfInBounds_toArray, List.set_cons_zero, List.set_cons_succ, i64_w, i32_w]
                rfl
              refine pure_ (i := 9) (N := some 29) (v := ?_) (a' := ?_) #[true, true, true, true, true, true, true, true, true, true, false, false, false, false, false, false, false, false, false, false, false, false, false, false, false, false, false, false, false, false, false, false, false] rfl rfl (any_of HT_.out (by kernel_rfl)) (fun _ _ _ h => h) (Or.inl ⟨by rfl, ?_⟩) ?_ ?_
              rotate_left
              · intro w'
                go_simp
                with_reducible rfl
              rotate_left
              · simp only [Act.put, List.setIfInBounds_toArray, List.set_cons_zero, List.set_cons_succ, i64_w, i32_w]
                rfl
              refine pure_ (i := 10) (N := some 30) (v := ?_) (a' := ?_) #[true, true, true, true, true, true, true, true, true, true, true, false, false, false, false, false, false, false, false, false, false, false, false, false, false, false, false, false, false, false, false, false, false] rfl rfl (any_of HT_.out (by kernel_rfl)) (fun _ _ _ h => h) (Or.inl ⟨by rfl, ?_⟩) ?_ ?_
              rotate_left
              · intro w'
                go_simp
                with_reducible rfl
              rotate_left
              · simp only [Act.put, List.setIfInBounds_toArray, List.set_cons_zero, List.set_cons_succ, i64_w, i32_w]
                rfl
              refine pure_ (i := 12) (N := some 32) (v := ?_) (a' := ?_) #[true, true, true, true, true, true, true, true, true, true, true, false, true, false, false, false, false, false, false, false, false, false, false, false, false, false, false, false, false, false, false, false, false] rfl rfl (any_of HT_.out (by kernel_rfl)) (fun _ _ _ h => h) (Or.inl ⟨by rfl, ?_⟩) ?_ ?_
              rotate_left
              · intro w'
                go_simp
                with_reducible rfl
              rotate_left
              · simp only [Act.put, List.setIfInBounds_toArray, List.set_cons_zero, List.set_cons_succ, i64_w, i32_w]
                rfl
              refine one_ (i := 11) (N := some 31) #[true, true, true, true, true, true, true, true, true, true, true, true, true, false, false, false, false, false, false, false, false, false, false, false, false, false, false, false, false, false, false, false, false] rfl rfl (one_of HT_.out (by kernel_rfl)) (by decide) (fun K hK => ?_)
              refine goes_ Tryd.func12 (by kernel_rfl) rfl #[.string t386] (by rfl) rfl rfl (by (try simp only [List.map_toArray, List.map_cons, List.map_nil]); first | done | rfl | (simp only [List.length_drop, List.length_take]; rfl)) ?_
              with_reducible refine (impl_ControlOf.calls k t386 t393 t394 t395 t396 _ ?side1 A13.out).mono ?_
              (case side1 => first | exact Shp.below HSH.out (by repeat (first | (with_reducible first | exact HB.out | apply below_alloc | apply pw_below_drewN | apply below_drew1 | refine below_set ?_ GE379.out | refine below_set ?_ GE385.out | refine below_set ?_ GE391.out) | exact HB.out)) | exact HSH.out)
              rintro e w39 ⟨rfl, hb⟩
              refine ⟨_, rfl, ?_⟩
              have n0_ := Aside0.mk (blk_below (g := gb379) (o := .cells #[.bool t375, .bool t376, .int .i64 t377, .int .i64 t378] 25 (0, 0)) (by (with_reducible repeat (first | refine blk_drewN ?_ _ | refine blk_drew ?_ | refine blk_alloc ?_ _)); exact BK379.out) hb)
              have n1_ := Aside0.mk (blk_below (g := gb385) (o := .cells #[.bool t381, .bool t382, .int .i64 t383, .int .i64 t384] 25 (0, 0)) (by (with_reducible repeat (first | refine blk_drewN ?_ _ | refine blk_drew ?_ | refine blk_alloc ?_ _)); exact BK385.out) hb)
              have n2_ := Aside0.mk (blk_below (g := gb391) (o := .cells #[.bool t387, .bool t388, .int .i64 t389, .int .i64 t390] 25 (0, 0)) (by (with_reducible repeat (first | refine blk_drewN ?_ _ | refine blk_drew ?_ | refine blk_alloc ?_ _)); exact BK391.out) hb)
              have n3_ := Aside0.mk (below_step (by repeat (first | (with_reducible first | exact HB.out | apply below_alloc | apply pw_below_drewN | apply below_drew1 | refine below_set ?_ GE379.out | refine below_set ?_ GE385.out | refine below_set ?_ GE391.out) | exact HB.out)) hb)
              clear BK379
              clear BK385
              clear BK391
              clear HB
              have BK379 := n0_
              have BK385 := n1_
              have BK391 := n2_
              have HB := n3_
              clear n0_ n1_ n2_ n3_
              (try clear hb)
              (try clear hb2)
              (try clear hk)
              (try clear hi)
              refine hK.out _ _ ⟨(blk_cell BK379.out 0).trans rfl, (blk_cell BK379.out 1).trans rfl, (blk_cell BK379.out 2).trans rfl, (blk_cell BK379.out 3).trans rfl, (blk_cell BK385.out 0).trans rfl, (blk_cell BK385.out 1).trans rfl, (blk_cell BK385.out 2).trans rfl, (blk_cell BK385.out 3).trans rfl, (blk_cell BK391.out 0).trans rfl, (blk_cell BK391.out 1).trans rfl, (blk_cell BK391.out 2).trans rfl, (blk_cell BK391.out 3).trans rfl⟩ (fun hHeld => ?_)
              clear hK K
              refine norm_ (a' := ?_) ?_ ?_
              rotate_left
              · show Act.put _ (some 31) _ = _
                simp only [Act.put, List.setIfInBounds_toArray, List.set_cons_zero, List.set_cons_succ, i64_w, i32_w]
                rfl
              refine one_ (i := 13) (N := some 33) #[true, true, true, true, true, true, true, true, true, true, true, true, true, true, false, false, false, false, false, false, false, false, false, false, false, false, false, false, false, false, false, false, false] rfl rfl (one_of HT_.out (by kernel_rfl)) (by decide) (fun K hK => ?_)
              refine goes_ Tryd.func11 (by kernel_rfl) rfl #[.string t386] (by rfl) rfl rfl (by (try simp only [List.map_toArray, List.map_cons, List.map_nil]); first | done | rfl | (simp only [List.length_drop, List.length_take]; rfl)) ?_
              with_reducible refine (spec_ControlOf.calls k t386 t397 t398 t399 t400 _ A14.out).mono ?_
              rintro e w40 ⟨rfl, hb⟩
              refine ⟨_, rfl, ?_⟩
              have n0_ := Aside0.mk (blk_below (g := gb379) (o := .cells #[.bool t375, .bool t376, .int .i64 t377, .int .i64 t378] 25 (0, 0)) (by (with_reducible repeat (first | refine blk_drewN ?_ _ | refine blk_drew ?_ | refine blk_alloc ?_ _)); exact BK379.out) hb)
              have n1_ := Aside0.mk (blk_below (g := gb385) (o := .cells #[.bool t381, .bool t382, .int .i64 t383, .int .i64 t384] 25 (0, 0)) (by (with_reducible repeat (first | refine blk_drewN ?_ _ | refine blk_drew ?_ | refine blk_alloc ?_ _)); exact BK385.out) hb)
              have n2_ := Aside0.mk (blk_below (g := gb391) (o := .cells #[.bool t387, .bool t388, .int .i64 t389, .int .i64 t390] 25 (0, 0)) (by (with_reducible repeat (first | refine blk_drewN ?_ _ | refine blk_drew ?_ | refine blk_alloc ?_ _)); exact BK391.out) hb)
              have n3_ := Aside0.mk (below_step (by repeat (first | (with_reducible first | exact HB.out | apply below_alloc | apply pw_below_drewN | apply below_drew1 | refine below_set ?_ GE379.out | refine below_set ?_ GE385.out | refine below_set ?_ GE391.out) | exact HB.out)) hb)
              clear BK379
              clear BK385
              clear BK391
              clear HB
              have BK379 := n0_
              have BK385 := n1_
              have BK391 := n2_
              have HB := n3_
              clear n0_ n1_ n2_ n3_
              (try clear hb)
              (try clear hb2)
              (try clear hk)
              (try clear hi)
              refine hK.out _ _ ⟨(blk_cell BK379.out 0).trans rfl, (blk_cell BK379.out 1).trans rfl, (blk_cell BK379.out 2).trans rfl, (blk_cell BK379.out 3).trans rfl, (blk_cell BK385.out 0).trans rfl, (blk_cell BK385.out 1).trans rfl, (blk_cell BK385.out 2).trans rfl, (blk_cell BK385.out 3).trans rfl, (blk_cell BK391.out 0).trans rfl, (blk_cell BK391.out 1).trans rfl, (blk_cell BK391.out 2).trans rfl, (blk_cell BK391.out 3).trans rfl⟩ (fun hHeld => ?_)
              clear hK K
              refine norm_ (a' := ?_) ?_ ?_
              rotate_left
              · show Act.put _ (some 33) _ = _
                simp only [Act.put, List.setIfInBounds_toArray, List.set_cons_zero, List.set_cons_succ, i64_w, i32_w]
                rfl
              refine pure_ (i := 14) (N := some 34) (v := ?_) (a' := ?_) #[true, true, true, true, true, true, true, true, true, true, true, true, true, true, true, false, false, false, false, false, false, false, false, false, false, false, false, false, false, false, false, false, false] rfl rfl (any_of HT_.out (by kernel_rfl)) (fun _ _ _ h => h) (Or.inl ⟨by rfl, ?_⟩) ?_ ?_
              rotate_left
              · intro w'
                go_simp
                with_reducible rfl
              rotate_left
              · simp only [Act.put, List.setIfInBounds_toArray, List.set_cons_zero, List.set_cons_succ, i64_w, i32_w]
                rfl
              refine pure_ (i := 15) (N := some 35) (v := ?_) (a' := ?_) #[true, true, true, true, true, true, true, true, true, true, true, true, true, true, true, true, false, false, false, false, false, false, false, false, false, false, false, false, false, false, false, false, false] rfl rfl (any_of HT_.out (by kernel_rfl)) (fun _ _ _ h => h) (Or.inl ⟨by rfl, ?_⟩) ?_ ?_
              rotate_left
              · intro w'
                go_simp
                with_reducible rfl
              rotate_left
              · simp only [Act.put, List.setIfInBounds_toArray, List.set_cons_zero, List.set_cons_succ, i64_w, i32_w]
                rfl
              refine pure_ (i := 16) (N := some 36) (v := ?_) (a' := ?_) #[true, true, true, true, true, true, true, true, true, true, true, true, true, true, true, true, true, false, false, false, false, false, false, false, false, false, false, false, false, false, false, false, false] rfl rfl (any_of HT_.out (by kernel_rfl)) (fun _ _ _ h => h) (Or.inl ⟨by rfl, ?_⟩) ?_ ?_
              rotate_left
              · intro w'
                go_simp
                with_reducible rfl
              rotate_left
              · simp only [Act.put, List.setIfInBounds_toArray, List.set_cons_zero, List.set_cons_succ, i64_w, i32_w]
                rfl
              refine take_ (i := 17) (N := some 37) (v := ?_) (a' := ?_) #[true, true, true, true, true, true, true, true, true, true, true, true, true, true, true, true, true, true, false, false, false, false, false, false, false, false, false, false, false, false, false, false, false] rfl rfl (take_ofW HT_.out HW_.out (by kernel_rfl)) (fun _ _ _ h => h) (Or.inl ⟨by rfl, ?_⟩) hHeld ?_ ?_
              rotate_left
              · rintro w' ⟨s0, s1, s2, s3, s4, s5, s6, s7, s8, s9, s10, s11⟩
                go_simp
                with_reducible rfl
              rotate_left
              · simp only [Act.put, List.setIfInBounds_toArray, List.set_cons_zero, List.set_cons_succ, i64_w, i32_w]
                rfl
              refine take_ (i := 19) (N := some 39) (v := ?_) (a' := ?_) #[true, true, true, true, true, true, true, true, true, true, true, true, true, true, true, true, true, true, false, true, false, false, false, false, false, false, false, false, false, false, false, false, false] rfl rfl (take_ofW HT_.out HW_.out (by kernel_rfl)) (fun _ _ _ h => h) (Or.inl ⟨by rfl, ?_⟩) hHeld ?_ ?_
              rotate_left
              · rintro w' ⟨s0, s1, s2, s3, s4, s5, s6, s7, s8, s9, s10, s11⟩
                go_simp
                with_reducible rfl
              rotate_left
              · simp only [Act.put, List.setIfInBounds_toArray, List.set_cons_zero, List.set_cons_succ, i64_w, i32_w]
                rfl
              refine one_ (i := 18) (N := some 38) #[true, true, true, true, true, true, true, true, true, true, true, true, true, true, true, true, true, true, true, true, false, false, false, false, false, false, false, false, false, false, false, false, false] rfl rfl (one_of HT_.out (by kernel_rfl)) (by decide) (fun K hK => ?_)
              refine goes_ Tryd.func10 (by kernel_rfl) rfl #[.agg #[.bool t387, .bool t388, .int .i64 t389, .int .i64 t390]] (by rfl) rfl rfl (by (try simp only [List.map_toArray, List.map_cons, List.map_nil]); first | done | rfl | (simp only [List.length_drop, List.length_take]; rfl)) ?_
              with_reducible refine (impl_ControlText.calls k t387 t388 t389 t390 t401 _ ?side1 A16.out).mono ?_
              (case side1 => first | exact Tab.below HTB.out (by repeat (first | (with_reducible first | exact HB.out | apply below_alloc | apply pw_below_drewN | apply below_drew1 | refine below_set ?_ GE379.out | refine below_set ?_ GE385.out | refine below_set ?_ GE391.out) | exact HB.out)) | exact HTB.out)
              rintro e w41 ⟨rfl, hb⟩
              refine ⟨_, rfl, ?_⟩
              have n0_ := Aside0.mk (blk_below (g := gb379) (o := .cells #[.bool t375, .bool t376, .int .i64 t377, .int .i64 t378] 25 (0, 0)) (by (with_reducible repeat (first | refine blk_drewN ?_ _ | refine blk_drew ?_ | refine blk_alloc ?_ _)); exact BK379.out) hb)
              have n1_ := Aside0.mk (blk_below (g := gb385) (o := .cells #[.bool t381, .bool t382, .int .i64 t383, .int .i64 t384] 25 (0, 0)) (by (with_reducible repeat (first | refine blk_drewN ?_ _ | refine blk_drew ?_ | refine blk_alloc ?_ _)); exact BK385.out) hb)
              have n2_ := Aside0.mk (blk_below (g := gb391) (o := .cells #[.bool t387, .bool t388, .int .i64 t389, .int .i64 t390] 25 (0, 0)) (by (with_reducible repeat (first | refine blk_drewN ?_ _ | refine blk_drew ?_ | refine blk_alloc ?_ _)); exact BK391.out) hb)
              have n3_ := Aside0.mk (below_step (by repeat (first | (with_reducible first | exact HB.out | apply below_alloc | apply pw_below_drewN | apply below_drew1 | refine below_set ?_ GE379.out | refine below_set ?_ GE385.out | refine below_set ?_ GE391.out) | exact HB.out)) hb)
              clear BK379
              clear BK385
              clear BK391
              clear HB
              have BK379 := n0_
              have BK385 := n1_
              have BK391 := n2_
              have HB := n3_
              clear n0_ n1_ n2_ n3_
              (try clear hb)
              (try clear hb2)
              (try clear hk)
              (try clear hi)
              refine hK.out _ _ ⟨(blk_cell BK379.out 0).trans rfl, (blk_cell BK379.out 1).trans rfl, (blk_cell BK379.out 2).trans rfl, (blk_cell BK379.out 3).trans rfl, (blk_cell BK385.out 0).trans rfl, (blk_cell BK385.out 1).trans rfl, (blk_cell BK385.out 2).trans rfl, (blk_cell BK385.out 3).trans rfl, (blk_cell BK391.out 0).trans rfl, (blk_cell BK391.out 1).trans rfl, (blk_cell BK391.out 2).trans rfl, (blk_cell BK391.out 3).trans rfl⟩ (fun hHeld => ?_)
              clear hK K
              refine norm_ (a' := ?_) ?_ ?_
              rotate_left
              · show Act.put _ (some 38) _ = _
                simp only [Act.put, List.setIfInBounds_toArray, List.set_cons_zero, List.set_cons_succ, i64_w, i32_w]
                rfl
              refine one_ (i := 20) (N := some 40) #[true, true, true, true, true, true, true, true, true, true, true, true, true, true, true, true, true, true, true, true, true, false, false, false, false, false, false, false, false, false, false, false, false] rfl rfl (one_of HT_.out (by kernel_rfl)) (by decide) (fun K hK => ?_)
              refine goes_ Tryd.func8 (by kernel_rfl) rfl #[.agg #[.bool t387, .bool t388, .int .i64 t389, .int .i64 t390]] (by rfl) rfl rfl (by (try simp only [List.map_toArray, List.map_cons, List.map_nil]); first | done | rfl | (simp only [List.length_drop, List.length_take]; rfl)) ?_
              with_reducible refine (spec_ControlText.calls k t387 t388 t389 t390 t402 _ A17.out).mono ?_
              rintro e w42 ⟨rfl, hb⟩
              refine ⟨_, rfl, ?_⟩
              have n0_ := Aside0.mk (blk_below (g := gb379) (o := .cells #[.bool t375, .bool t376, .int .i64 t377, .int .i64 t378] 25 (0, 0)) (by (with_reducible repeat (first | refine blk_drewN ?_ _ | refine blk_drew ?_ | refine blk_alloc ?_ _)); exact BK379.out) hb)
              have n1_ := Aside0.mk (blk_below (g := gb385) (o := .cells #[.bool t381, .bool t382, .int .i64 t383, .int .i64 t384] 25 (0, 0)) (by (with_reducible repeat (first | refine blk_drewN ?_ _ | refine blk_drew ?_ | refine blk_alloc ?_ _)); exact BK385.out) hb)
              have n2_ := Aside0.mk (blk_below (g := gb391) (o := .cells #[.bool t387, .bool t388, .int .i64 t389, .int .i64 t390] 25 (0, 0)) (by (with_reducible repeat (first | refine blk_drewN ?_ _ | refine blk_drew ?_ | refine blk_alloc ?_ _)); exact BK391.out) hb)
              have n3_ := Aside0.mk (below_step (by repeat (first | (with_reducible first | exact HB.out | apply below_alloc | apply pw_below_drewN | apply below_drew1 | refine below_set ?_ GE379.out | refine below_set ?_ GE385.out | refine below_set ?_ GE391.out) | exact HB.out)) hb)
              clear BK379
              clear BK385
              clear BK391
              clear HB
              have BK379 := n0_
              have BK385 := n1_
              have BK391 := n2_
              have HB := n3_
              clear n0_ n1_ n2_ n3_
              (try clear hb)
              (try clear hb2)
              (try clear hk)
              (try clear hi)
              refine hK.out _ _ ⟨(blk_cell BK379.out 0).trans rfl, (blk_cell BK379.out 1).trans rfl, (blk_cell BK379.out 2).trans rfl, (blk_cell BK379.out 3).trans rfl, (blk_cell BK385.out 0).trans rfl, (blk_cell BK385.out 1).trans rfl, (blk_cell BK385.out 2).trans rfl, (blk_cell BK385.out 3).trans rfl, (blk_cell BK391.out 0).trans rfl, (blk_cell BK391.out 1).trans rfl, (blk_cell BK391.out 2).trans rfl, (blk_cell BK391.out 3).trans rfl⟩ (fun hHeld => ?_)
              clear hK K
              refine norm_ (a' := ?_) ?_ ?_
              rotate_left
              · show Act.put _ (some 40) _ = _
                simp only [Act.put, List.setIfInBounds_toArray, List.set_cons_zero, List.set_cons_succ, i64_w, i32_w]
                rfl
              refine pure_ (i := 21) (N := some 41) (v := ?_) (a' := ?_) #[true, true, true, true, true, true, true, true, true, true, true, true, true, true, true, true, true, true, true, true, true, true, false, false, false, false, false, false, false, false, false, false, false] rfl rfl (any_of HT_.out (by kernel_rfl)) (fun _ _ _ h => h) (Or.inl ⟨by rfl, ?_⟩) ?_ ?_
              rotate_left
              · intro w'
                go_simp
                with_reducible rfl
              rotate_left
              · simp only [Act.put, List.setIfInBounds_toArray, List.set_cons_zero, List.set_cons_succ, i64_w, i32_w]
                rfl
              refine pure_ (i := 22) (N := some 42) (v := ?_) (a' := ?_) #[true, true, true, true, true, true, true, true, true, true, true, true, true, true, true, true, true, true, true, true, true, true, true, false, false, false, false, false, false, false, false, false, false] rfl rfl (any_of HT_.out (by kernel_rfl)) (fun _ _ _ h => h) (Or.inl ⟨by rfl, ?_⟩) ?_ ?_
              rotate_left
              · intro w'
                go_simp
                with_reducible rfl
              rotate_left
              · simp only [Act.put, List.setIfInBounds_toArray, List.set_cons_zero, List.set_cons_succ, i64_w, i32_w]
                rfl
              refine pure_ (i := 23) (N := some 43) (v := ?_) (a' := ?_) #[true, true, true, true, true, true, true, true, true, true, true, true, true, true, true, true, true, true, true, true, true, true, true, true, false, false, false, false, false, false, false, false, false] rfl rfl (any_of HT_.out (by kernel_rfl)) (fun _ _ _ h => h) (Or.inl ⟨by rfl, ?_⟩) ?_ ?_
              rotate_left
              · intro w'
                go_simp
                with_reducible rfl
              rotate_left
              · simp only [Act.put, List.setIfInBounds_toArray, List.set_cons_zero, List.set_cons_succ, i64_w, i32_w]
                rfl
              refine one_ (i := 24) (N := some 44) #[true, true, true, true, true, true, true, true, true, true, true, true, true, true, true, true, true, true, true, true, true, true, true, true, true, false, false, false, false, false, false, false, false] rfl rfl (one_of HT_.out (by kernel_rfl)) (by decide) (fun K hK => ?_)
              refine goes_ Tryd.func12 (by kernel_rfl) rfl #[.string (⟨#[]⟩ : ByteArray)] (by rfl) rfl rfl (by (try simp only [List.map_toArray, List.map_cons, List.map_nil]); first | done | rfl | (simp only [List.length_drop, List.length_take]; rfl)) ?_
              with_reducible refine (impl_ControlOf.calls k (⟨#[]⟩ : ByteArray) t403 t404 t405 t406 _ ?side1 A19.out).mono ?_
              (case side1 => first | exact Shp.below HSH.out (by repeat (first | (with_reducible first | exact HB.out | apply below_alloc | apply pw_below_drewN | apply below_drew1 | refine below_set ?_ GE379.out | refine below_set ?_ GE385.out | refine below_set ?_ GE391.out) | exact HB.out)) | exact HSH.out)
              rintro e w43 ⟨rfl, hb⟩
              refine ⟨_, rfl, ?_⟩
              have n0_ := Aside0.mk (blk_below (g := gb379) (o := .cells #[.bool t375, .bool t376, .int .i64 t377, .int .i64 t378] 25 (0, 0)) (by (with_reducible repeat (first | refine blk_drewN ?_ _ | refine blk_drew ?_ | refine blk_alloc ?_ _)); exact BK379.out) hb)
              have n1_ := Aside0.mk (blk_below (g := gb385) (o := .cells #[.bool t381, .bool t382, .int .i64 t383, .int .i64 t384] 25 (0, 0)) (by (with_reducible repeat (first | refine blk_drewN ?_ _ | refine blk_drew ?_ | refine blk_alloc ?_ _)); exact BK385.out) hb)
              have n2_ := Aside0.mk (blk_below (g := gb391) (o := .cells #[.bool t387, .bool t388, .int .i64 t389, .int .i64 t390] 25 (0, 0)) (by (with_reducible repeat (first | refine blk_drewN ?_ _ | refine blk_drew ?_ | refine blk_alloc ?_ _)); exact BK391.out) hb)
              have n3_ := Aside0.mk (below_step (by repeat (first | (with_reducible first | exact HB.out | apply below_alloc | apply pw_below_drewN | apply below_drew1 | refine below_set ?_ GE379.out | refine below_set ?_ GE385.out | refine below_set ?_ GE391.out) | exact HB.out)) hb)
              clear BK379
              clear BK385
              clear BK391
              clear HB
              have BK379 := n0_
              have BK385 := n1_
              have BK391 := n2_
              have HB := n3_
              clear n0_ n1_ n2_ n3_
              (try clear hb)
              (try clear hb2)
              (try clear hk)
              (try clear hi)
              refine hK.out _ _ ⟨(blk_cell BK379.out 0).trans rfl, (blk_cell BK379.out 1).trans rfl, (blk_cell BK379.out 2).trans rfl, (blk_cell BK379.out 3).trans rfl, (blk_cell BK385.out 0).trans rfl, (blk_cell BK385.out 1).trans rfl, (blk_cell BK385.out 2).trans rfl, (blk_cell BK385.out 3).trans rfl, (blk_cell BK391.out 0).trans rfl, (blk_cell BK391.out 1).trans rfl, (blk_cell BK391.out 2).trans rfl, (blk_cell BK391.out 3).trans rfl⟩ (fun hHeld => ?_)
              clear hK K
              refine norm_ (a' := ?_) ?_ ?_
              rotate_left
              · show Act.put _ (some 44) _ = _
                simp only [Act.put, List.setIfInBounds_toArray, List.set_cons_zero, List.set_cons_succ, i64_w, i32_w]
                rfl
              refine pure_ (i := 25) (N := some 45) (v := ?_) (a' := ?_) #[true, true, true, true, true, true, true, true, true, true, true, true, true, true, true, true, true, true, true, true, true, true, true, true, true, true, false, false, false, false, false, false, false] rfl rfl (any_of HT_.out (by kernel_rfl)) (fun _ _ _ h => h) (Or.inl ⟨by rfl, ?_⟩) ?_ ?_
              rotate_left
              · intro w'
                go_simp
                with_reducible rfl
              rotate_left
              · simp only [Act.put, List.setIfInBounds_toArray, List.set_cons_zero, List.set_cons_succ, i64_w, i32_w]
                rfl
              refine pure_ (i := 26) (N := some 46) (v := ?_) (a' := ?_) #[true, true, true, true, true, true, true, true, true, true, true, true, true, true, true, true, true, true, true, true, true, true, true, true, true, true, true, false, false, false, false, false, false] rfl rfl (any_of HT_.out (by kernel_rfl)) (fun _ _ _ h => h) (Or.inl ⟨by rfl, ?_⟩) ?_ ?_
              rotate_left
              · intro w'
                go_simp
                with_reducible rfl
              rotate_left
              · simp only [Act.put, List.setIfInBounds_toArray, List.set_cons_zero, List.set_cons_succ, i64_w, i32_w]
                rfl
              refine pure_ (i := 27) (N := some 47) (v := ?_) (a' := ?_) #[true, true, true, true, true, true, true, true, true, true, true, true, true, true, true, true, true, true, true, true, true, true, true, true, true, true, true, true, false, false, false, false, false] rfl rfl (any_of HT_.out (by kernel_rfl)) (fun _ _ _ h => h) (Or.inl ⟨by rfl, ?_⟩) ?_ ?_
              rotate_left
              · intro w'
                go_simp
                with_reducible rfl
              rotate_left
              · simp only [Act.put, List.setIfInBounds_toArray, List.set_cons_zero, List.set_cons_succ, i64_w, i32_w]
                rfl
              refine pure_ (i := 28) (N := some 48) (v := ?_) (a' := ?_) #[true, true, true, true, true, true, true, true, true, true, true, true, true, true, true, true, true, true, true, true, true, true, true, true, true, true, true, true, true, false, false, false, false] rfl rfl (any_of HT_.out (by kernel_rfl)) (fun _ _ _ h => h) (Or.inl ⟨by rfl, ?_⟩) ?_ ?_
              rotate_left
              · intro w'
                go_simp
                with_reducible rfl
              rotate_left
              · simp only [Act.put, List.setIfInBounds_toArray, List.set_cons_zero, List.set_cons_succ, i64_w, i32_w]
                rfl
              refine one_ (i := 29) (N := some 49) #[true, true, true, true, true, true, true, true, true, true, true, true, true, true, true, true, true, true, true, true, true, true, true, true, true, true, true, true, true, true, false, false, false] rfl rfl (one_of HT_.out (by kernel_rfl)) (by decide) (fun K hK => ?_)
              refine goes_ Tryd.func12 (by kernel_rfl) rfl #[.string (⟨#[32, 80, 82, 73, 86, 65, 84, 69, 32, 44, 109, 97, 120, 45, 97, 103, 101, 61, 55]⟩ : ByteArray)] (by rfl) rfl rfl (by (try simp only [List.map_toArray, List.map_cons, List.map_nil]); first | done | rfl | (simp only [List.length_drop, List.length_take]; rfl)) ?_
              with_reducible refine (impl_ControlOf.calls k (⟨#[32, 80, 82, 73, 86, 65, 84, 69, 32, 44, 109, 97, 120, 45, 97, 103, 101, 61, 55]⟩ : ByteArray) t407 t408 t409 t410 _ ?side1 A21.out).mono ?_
              (case side1 => first | exact Shp.below HSH.out (by repeat (first | (with_reducible first | exact HB.out | apply below_alloc | apply pw_below_drewN | apply below_drew1 | refine below_set ?_ GE379.out | refine below_set ?_ GE385.out | refine below_set ?_ GE391.out) | exact HB.out)) | exact HSH.out)
              rintro e w44 ⟨rfl, hb⟩
              refine ⟨_, rfl, ?_⟩
              have n0_ := Aside0.mk (blk_below (g := gb379) (o := .cells #[.bool t375, .bool t376, .int .i64 t377, .int .i64 t378] 25 (0, 0)) (by (with_reducible repeat (first | refine blk_drewN ?_ _ | refine blk_drew ?_ | refine blk_alloc ?_ _)); exact BK379.out) hb)
              have n1_ := Aside0.mk (blk_below (g := gb385) (o := .cells #[.bool t381, .bool t382, .int .i64 t383, .int .i64 t384] 25 (0, 0)) (by (with_reducible repeat (first | refine blk_drewN ?_ _ | refine blk_drew ?_ | refine blk_alloc ?_ _)); exact BK385.out) hb)
              have n2_ := Aside0.mk (blk_below (g := gb391) (o := .cells #[.bool t387, .bool t388, .int .i64 t389, .int .i64 t390] 25 (0, 0)) (by (with_reducible repeat (first | refine blk_drewN ?_ _ | refine blk_drew ?_ | refine blk_alloc ?_ _)); exact BK391.out) hb)
              have n3_ := Aside0.mk (below_step (by repeat (first | (with_reducible first | exact HB.out | apply below_alloc | apply pw_below_drewN | apply below_drew1 | refine below_set ?_ GE379.out | refine below_set ?_ GE385.out | refine below_set ?_ GE391.out) | exact HB.out)) hb)
              clear BK379
              clear BK385
              clear BK391
              clear HB
              have BK379 := n0_
              have BK385 := n1_
              have BK391 := n2_
              have HB := n3_
              clear n0_ n1_ n2_ n3_
              (try clear hb)
              (try clear hb2)
              (try clear hk)
              (try clear hi)
              refine hK.out _ _ ⟨(blk_cell BK379.out 0).trans rfl, (blk_cell BK379.out 1).trans rfl, (blk_cell BK379.out 2).trans rfl, (blk_cell BK379.out 3).trans rfl, (blk_cell BK385.out 0).trans rfl, (blk_cell BK385.out 1).trans rfl, (blk_cell BK385.out 2).trans rfl, (blk_cell BK385.out 3).trans rfl, (blk_cell BK391.out 0).trans rfl, (blk_cell BK391.out 1).trans rfl, (blk_cell BK391.out 2).trans rfl, (blk_cell BK391.out 3).trans rfl⟩ (fun hHeld => ?_)
              clear hK K
              refine norm_ (a' := ?_) ?_ ?_
              rotate_left
              · show Act.put _ (some 49) _ = _
                simp only [Act.put, List.setIfInBounds_toArray, List.set_cons_zero, List.set_cons_succ, i64_w, i32_w]
                rfl
              refine pure_ (i := 30) (N := some 50) (v := ?_) (a' := ?_) #[true, true, true, true, true, true, true, true, true, true, true, true, true, true, true, true, true, true, true, true, true, true, true, true, true, true, true, true, true, true, true, false, false] rfl rfl (any_of HT_.out (by kernel_rfl)) (fun _ _ _ h => h) (Or.inl ⟨by rfl, ?_⟩) ?_ ?_
              rotate_left
              · intro w'
                go_simp
                with_reducible rfl
              rotate_left
              · simp only [Act.put, List.setIfInBounds_toArray, List.set_cons_zero, List.set_cons_succ, i64_w, i32_w]
                rfl
              refine pure_ (i := 31) (N := some 51) (v := ?_) (a' := ?_) #[true, true, true, true, true, true, true, true, true, true, true, true, true, true, true, true, true, true, true, true, true, true, true, true, true, true, true, true, true, true, true, true, false] rfl rfl (any_of HT_.out (by kernel_rfl)) (fun _ _ _ h => h) (Or.inl ⟨by rfl, ?_⟩) ?_ ?_
              rotate_left
              · intro w'
                go_simp
                with_reducible rfl
              rotate_left
              · simp only [Act.put, List.setIfInBounds_toArray, List.set_cons_zero, List.set_cons_succ, i64_w, i32_w]
                rfl
              refine pure_ (i := 32) (N := some 2) (v := ?_) (a' := ?_) #[true, true, true, true, true, true, true, true, true, true, true, true, true, true, true, true, true, true, true, true, true, true, true, true, true, true, true, true, true, true, true, true, true] rfl rfl (any_of HT_.out (by kernel_rfl)) (fun _ _ _ h => h) (Or.inl ⟨by rfl, ?_⟩) ?_ ?_
              rotate_left
              · intro w'
                go_simp
                with_reducible rfl
              rotate_left
              · simp only [Act.put, List.setIfInBounds_toArray, List.set_cons_zero, List.set_cons_succ, i64_w, i32_w]
                rfl
              refine done_ (done_of HT_.out (by kernel_rfl)) ?_
              try go_wp2
              go_ret
              exact ⟨by first | rfl | (simp [errW_none, errW_some] <;> rfl) | (simp [*, errW_none, errW_some] <;> rfl), by repeat (first | (with_reducible first | exact HB.out | apply below_alloc | apply pw_below_drewN | apply below_drew1 | refine below_set ?_ GE379.out | refine below_set ?_ GE385.out | refine below_set ?_ GE391.out) | exact HB.out)⟩
            · rw [if_neg c20] at H
              have c20b0 : (t405 == (-1)) = false := beq_eq_false_iff_ne.mpr c20
              have c20b1 : (t405 != (-1)) = true := bne_iff_ne.mpr c20
              exact absurd H (by simp)
          · rw [if_neg c18] at H
            have c18b0 : (t401.toList == t402.toList) = false := beq_eq_false_iff_ne.mpr c18
            have c18b1 : (t401.toList != t402.toList) = true := bne_iff_ne.mpr c18
            exact absurd H (by simp)
        · rw [if_neg c15] at H
          have c15b0 : (t393 == t397 && (t394 == t398 && (t395 == t399 && (t396 == t400)))) = false := by simpa using c15
          (try (have c15b1 : decide (t393 = t397 && (t394 == t398 && (t395 == t399 && (t396 == t400)))) = false := by simpa using c15))
          (try (have c15b2 : (t393 == t397 && (t394 == t398 && (t395 == t399 && (t396 == t400)))) = false := by simpa using c15))
          (try (have c15b3 : ¬ (t393 = t397 && (t394 == t398 && (t395 == t399 && (t396 == t400)))) := by simpa using c15))
          clear c15
          exact absurd H (by simp)
      · rw [if_neg c12] at H
        have c12b0 : (t381 == t375 && (t382 == t376 && (t383 == t377 && (t384 == t378)))) = false := by simpa using c12
        (try (have c12b1 : decide (t381 = t375 && (t382 == t376 && (t383 == t377 && (t384 == t378)))) = false := by simpa using c12))
        (try (have c12b2 : (t381 == t375 && (t382 == t376 && (t383 == t377 && (t384 == t378)))) = false := by simpa using c12))
        (try (have c12b3 : ¬ (t381 = t375 && (t382 == t376 && (t383 == t377 && (t384 == t378)))) := by simpa using c12))
        clear c12
        exact absurd H (by simp)
    · rw [if_neg c11] at H
      have c11b0 : (t380.toList == t392.toList) = false := beq_eq_false_iff_ne.mpr c11
      have c11b1 : (t380.toList != t392.toList) = true := bne_iff_ne.mpr c11
      (first | rw [c11b0] | (simp only [i64_w, i32_w]; rw [c11b0]) | skip)
      exact absurd H (by simp)
end Go.Proofs.YthjigecaojaalaaDoor.Q
