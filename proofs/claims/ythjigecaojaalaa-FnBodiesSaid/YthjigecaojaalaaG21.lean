import Derived.Test.YthjigecaojaalaaB0
import Derived.Test.YthjigecaojaalaaG20
import Derived.Test.YthjigecaojaalaaG22
import Derived.Test.YthjigecaojaalaaG36
import Derived.Test.YthjigecaojaalaaG57
import Derived.Test.YthjigecaojaalaaG60
import Derived.Test.YthjigecaojaalaaWApart
import Derived.Test.YthjigecaojaalaaWFoot
import Derived.Test.YthjigecaojaalaaWKept
import Derived.Test.YthjigecaojaalaaWLast
import Derived.Test.YthjigecaojaalaaWMore
import Derived.Test.YthjigecaojaalaaWRepsOne
import Derived.Test.YthjigecaojaalaaWShare
import Derived.Test.YthjigecaojaalaaWWords
namespace Go.Proofs.Ythjigecaojaalaa.Q
open Go.RowKit Go.Proofs.YthjigecaojaalaaW.PrintWords Go.Proofs.YthjigecaojaalaaW.PrintLast Go.Proofs.YthjigecaojaalaaW.PrintMore
attribute [local go_sem] max2_int min2_int max_two min_two max_three min_three max_four min_four   -- for this text's walks alone
set_option linter.unusedVariables false
set_option linter.unusedSimpArgs false

/-! ### spec_DrawParts: function 21 -/
def spec_DrawParts.f (k : Nat) (l0 : List Int) : Option (List ByteArray) := (spec_l01New.f k l0).bind fun bt221 => ((spec_l11Parts.f k bt221.1 bt221.2.1 bt221.2.2).bind fun bt225 => (some bt225.1))
theorem spec_DrawParts.mono : ∀ a0 k, LeO (spec_DrawParts.f k a0) (spec_DrawParts.f (k + 1) a0) := by
  intro a0 k
  unfold spec_DrawParts.f
  repeat' first | (with_reducible exact spec_l01New.mono _ _) | (with_reducible exact spec_l11Parts.mono _ _ _ _) | (with_reducible exact LeO.refl _) | (with_reducible refine LeO.bind ?_ (fun _ => ?_))
set_option maxHeartbeats 8000000 in
set_option maxRecDepth 100000 in
theorem spec_DrawParts.calls (k : Nat) (A0 : Option Addr) (c0 : Nat) (l0 : List Int) (r : List ByteArray) (w : World) (hr0 : Kd.C (Kd.int .u8) w A0 l0.length l0) (hc0 : l0.length ≤ c0) (h : spec_DrawParts.f k l0 = some r) :
    Calls Try.prog 21 #[.slice A0 l0.length c0] w fun e w' => ∃ v0_ : Value, e = .returned (v0_) ∧ Kd.R Kd.string 9 w' w.heap.size (fun _ => True) v0_ r ∧ Below w.heap.size w w' := by
  have HR0 := Aside0.mk hr0
  have HC0 := Aside0.mk hc0
  clear hr0 hc0
  have HB := Aside0.mk (Below.refl w.heap.size w)
  have H : ((spec_l01New.f k l0).bind fun bt221 => ((spec_l11Parts.f k bt221.1 bt221.2.1 bt221.2.2).bind fun bt225 => (some bt225.1))) = some r := h
  clear h
  replace H := Option.bind_eq_some_iff.mp H
  obtain ⟨⟨t221, t222, t223⟩, A20, H⟩ := H
  replace H : ((spec_l11Parts.f k t221 t222 t223).bind fun bt225 => (some bt225.1)) = some r := H
  have A2 := Aside0.mk A20
  clear A20
  replace H := Option.bind_eq_some_iff.mp H
  obtain ⟨⟨t225, t228, t229⟩, A30, H⟩ := H
  replace H : (some t225) = some r := H
  have A3 := Aside0.mk A30
  clear A30
  obtain rfl := Option.some.inj H
  go_enter Try.func21, Try.ntmps21
  go_wp2_with (first | ((with_reducible refine gate_callee (f := 42) rfl ?_); refine goesL_ (some 4) rfl rfl Try.func42 (by kernel_rfl) rfl #[.slice A0 l0.length c0] rfl (by (try simp only [List.map_toArray, List.map_cons, List.map_nil]); rfl) ?_; (with_reducible refine (spec_l01New.calls k _ _ l0 t221 t222 t223 w _ ?side1 ?side2 ?side3 A2.out).mono ?_); (case side1 => repeat ((with_reducible exact HB.out))); (case side2 => exact HR0.out); (case side3 => exact HC0.out); rintro e w4 ⟨g224, rfl, hi, hb, hb2⟩; refine ⟨_, rfl, ?_⟩; have n0_ := Aside0.mk (hb); have n1_ := Aside0.mk (hi); clear HB; have HB := n0_; have HI224 := n1_; clear n0_ n1_; (try clear hb); (try clear hb2); (try clear hk); (try clear hi)) | ((with_reducible refine gate_callee (f := 41) rfl ?_); refine goesL_ (some 5) rfl rfl Try.func41 (by kernel_rfl) rfl #[.pointer (some ⟨g224, 0, none⟩)] rfl (by (try simp only [List.map_toArray, List.map_cons, List.map_nil]); rfl) ?_; (with_reducible refine (spec_l11Parts.calls k g224 t221 t222 t223 t225 t228 t229 w _ ?side1 ?side2 A3.out).mono ?_); (case side1 => repeat ((with_reducible exact HI224.out))); (case side2 => repeat ((with_reducible exact HB.out))); rintro e w5 ⟨v226, rfl, ho0, hi, hb, hk⟩; refine ⟨_, rfl, ?_⟩; have n0_ := Aside0.mk (Kd.R_lower ho0 (below_size (by repeat ((with_reducible exact HB.out))))); have n1_ := Aside0.mk (hb); have n2_ := Aside0.mk (hi); clear HB; clear HI224; have HO227 := n0_; have HB := n1_; have HI224 := n2_; clear n0_ n1_ n2_; (try clear hb); (try clear hb2); (try clear hk); (try clear hi); (try clear ho0)))
  go_ret
  exact ⟨_, by rfl, by (with_reducible repeat (first | apply Kd.R_alloc | apply Kd.R_drewN | apply Kd.R_drew )); exact HO227.out, by repeat ((with_reducible exact HB.out))⟩

/-! ### laws_FnBodies: function 6 -/
def laws_FnBodies.l0 : Nat → List Int → List ByteArray → ByteArray → Bool → ByteArray → Int → Option (Bool)
  | 0, _, _, _, _, _, _ => none
  | k + 1, x0, x3, x4, x5, x6, x7 => if x7 < (x3.length : Int) then (if 0 ≤ x7 then (if x6.size + (rdOf ByteArray.empty x3 x7).size ≤ 9223372036854775807 then (laws_FnBodies.l0 k x0 x3 x4 x5 (x6 ++ (rdOf ByteArray.empty x3 x7)) (wrap64 (x7 + 1))) else (none)) else (none)) else ((impl_ReadChunks.f k x4).bind fun bt253 => (if x4.size + 6 ≤ 9223372036854775807 then ((impl_ReadChunks.f k (x4 ++ (⟨#[98, 101, 104, 105, 110, 100]⟩ : ByteArray))).bind fun bt256 => ((spec_DrawPlaces.f k x0).bind fun t259 => (if 0 < (t259.length : Int) then (if x4.size + 1 ≤ 9223372036854775807 then (if ((x4 ++ (⟨#[120]⟩ : ByteArray)).size : Int) = 0 then (none) else (if (wrap64 ((x4.size : Int) + 1)) = 0 then (none) else (if 0 ≤ (Int.tmod (Int.tmod (rd t259 0) ((x4 ++ (⟨#[120]⟩ : ByteArray)).size : Int)) (wrap64 ((x4.size : Int) + 1))) then (if (Int.tmod (Int.tmod (rd t259 0) ((x4 ++ (⟨#[120]⟩ : ByteArray)).size : Int)) (wrap64 ((x4.size : Int) + 1))) ≤ (x4.size : Int) then ((impl_ReadChunks.f k (x4.extract 0 ((Int.tmod (Int.tmod (rd t259 0) ((x4 ++ (⟨#[120]⟩ : ByteArray)).size : Int)) (wrap64 ((x4.size : Int) + 1))) : Int).toNat)).bind fun bt263 => (if (Int.tmod (rd t259 0) ((x4 ++ (⟨#[120]⟩ : ByteArray)).size : Int)) = (x4.size : Int) then (if x5 = true then (if bt263.2.2 = 0 then (some (bt263.2.1 == (x4.size : Int))) else (none)) else (none)) else (if x5 = true then (if bt253.2.2 = 0 then (if bt253.1.toList = x6.toList then (if bt253.2.1 = (x4.size : Int) then (if bt256.2.2 = 0 then (if bt256.1.toList = x6.toList then (if bt256.2.1 = bt253.2.1 then (if bt263.2.1 = 0 then (some (bt263.2.2 == 1)) else (none)) else (none)) else (none)) else (none)) else (none)) else (none)) else (none)) else (none)))) else (none)) else (none)))) else (none)) else (none)))) else (none)))
def laws_FnBodies.f (k : Nat) (l0 : List Int) : Option (Bool) := (laws_big.f l0).bind fun t246 => (if t246 = true then (some true) else ((spec_DrawParts.f k l0).bind fun t247 => ((impl_ChunkText.f k t247).bind fun bt250 => (laws_FnBodies.l0 k l0 t247 bt250.1 bt250.2 (⟨#[]⟩ : ByteArray) 0))))
theorem laws_FnBodies.mono_l : ∀ k, (∀ y0 y1 y2 y3 y4 y5, LeO (laws_FnBodies.l0 k y0 y1 y2 y3 y4 y5) (laws_FnBodies.l0 (k + 1) y0 y1 y2 y3 y4 y5))
  | 0 => fun _ _ _ _ _ _ r h => by simp [laws_FnBodies.l0] at h
  | k + 1 => by
    have ih0 := laws_FnBodies.mono_l k
    · intro y0 y1 y2 y3 y4 y5
      unfold laws_FnBodies.l0
      repeat' first | (with_reducible exact ih0 _ _ _ _ _ _) | (with_reducible exact impl_ReadChunks.mono _ _) | (with_reducible exact spec_DrawPlaces.mono _ _) | (with_reducible exact LeO.refl _) | (with_reducible refine LeO.ite ?_ ?_) | (with_reducible refine LeO.bind ?_ (fun _ => ?_))
theorem laws_FnBodies.mono : ∀ a0 k, LeO (laws_FnBodies.f k a0) (laws_FnBodies.f (k + 1) a0) := by
  intro a0 k
  have ih0 := laws_FnBodies.mono_l k
  unfold laws_FnBodies.f
  repeat' first | (with_reducible exact ih0 _ _ _ _ _ _) | (with_reducible exact impl_ChunkText.mono _ _) | (with_reducible exact spec_DrawParts.mono _ _) | (with_reducible exact LeO.refl _) | (with_reducible refine LeO.ite ?_ ?_) | (with_reducible refine LeO.bind ?_ (fun _ => ?_))
set_option maxHeartbeats 8000000 in
set_option maxRecDepth 100000 in
theorem laws_FnBodies.calls (k : Nat) (A0 : Option Addr) (c0 : Nat) (l0 : List Int) (r : Bool) (w : World) (hr0 : Kd.C (Kd.int .u8) w A0 l0.length l0) (hc0 : l0.length ≤ c0) (h : laws_FnBodies.f k l0 = some r) :
    Calls Try.prog 6 #[.slice A0 l0.length c0] w fun e w' => e = .returned (.bool r) ∧ Below w.heap.size w w' := by
  have HR0 := Aside0.mk hr0
  have HC0 := Aside0.mk hc0
  clear hr0 hc0
  have HB := Aside0.mk (Below.refl w.heap.size w)
  have H : ((laws_big.f l0).bind fun t246 => (if t246 = true then (some true) else ((spec_DrawParts.f k l0).bind fun t247 => ((impl_ChunkText.f k t247).bind fun bt250 => (laws_FnBodies.l0 k l0 t247 bt250.1 bt250.2 (⟨#[]⟩ : ByteArray) 0))))) = some r := h
  clear h
  replace H := Option.bind_eq_some_iff.mp H
  obtain ⟨t246, A20, H⟩ := H
  replace H : (if t246 = true then (some true) else ((spec_DrawParts.f k l0).bind fun t247 => ((impl_ChunkText.f k t247).bind fun bt250 => (laws_FnBodies.l0 k l0 t247 bt250.1 bt250.2 (⟨#[]⟩ : ByteArray) 0)))) = some r := H
  have A2 := Aside0.mk A20
  clear A20
  have HS3 := Aside0.mk H
  clear H
  go_enter Try.func6, Try.ntmps6
  go_upto_if 19 with (((with_reducible refine gate_callee (f := 20) rfl ?_); refine goesL_ (some 19) rfl rfl Try.func20 (by kernel_rfl) rfl #[.slice A0 l0.length c0] rfl (by (try simp only [List.map_toArray, List.map_cons, List.map_nil]); rfl) ?_; (with_reducible refine (laws_big.calls _ _ l0 t246 _ ?side1 ?side2 A2.out).mono ?_); (case side1 => repeat (exact HR0.out)); (case side2 => exact HC0.out); rintro e w' ⟨rfl, rfl⟩; refine ⟨_, rfl, ?_⟩))
  (try simp only [Act.put, List.setIfInBounds_toArray, List.set_cons_zero, List.set_cons_succ])
  have H := HS3.out
  clear HS3
  by_cases c4 : t246 = true
  · subst c4
    have H1 : (some true) = some r := by rw [if_pos rfl] at H; exact H
    clear H
    have H := H1
    clear H1
    obtain rfl := Option.some.inj H
    go_wp2
    go_ret
    exact ⟨by rfl, by repeat ((with_reducible exact HB.out))⟩
  · replace c4 := Bool.eq_false_iff.mpr c4
    subst c4
    have H1 : ((spec_DrawParts.f k l0).bind fun t247 => ((impl_ChunkText.f k t247).bind fun bt250 => (laws_FnBodies.l0 k l0 t247 bt250.1 bt250.2 (⟨#[]⟩ : ByteArray) 0))) = some r := by rw [if_neg (show ¬ (false = true) by decide)] at H; exact H
    clear H
    have H := H1
    clear H1
    replace H := Option.bind_eq_some_iff.mp H
    obtain ⟨t247, A50, H⟩ := H
    replace H : ((impl_ChunkText.f k t247).bind fun bt250 => (laws_FnBodies.l0 k l0 t247 bt250.1 bt250.2 (⟨#[]⟩ : ByteArray) 0)) = some r := H
    have A5 := Aside0.mk A50
    clear A50
    replace H := Option.bind_eq_some_iff.mp H
    obtain ⟨⟨t250, t251⟩, A60, H⟩ := H
    replace H : (laws_FnBodies.l0 k l0 t247 t250 t251 (⟨#[]⟩ : ByteArray) 0) = some r := H
    have A6 := Aside0.mk A60
    clear A60
    have H' := Aside0.mk H
    clear H
    go_wp2_with (first | ((with_reducible refine gate_callee (f := 21) rfl ?_); refine goesL_ (some 21) rfl rfl Try.func21 (by kernel_rfl) rfl #[.slice A0 l0.length c0] rfl (by (try simp only [List.map_toArray, List.map_cons, List.map_nil]); rfl) ?_; (with_reducible refine (spec_DrawParts.calls k _ _ l0 t247 _ ?side1 ?side2 A5.out).mono ?_); (case side1 => repeat (exact (Kd.C_below HR0.out HB.out))); (case side2 => exact HC0.out); rintro e w7 ⟨v248, rfl, ho0, hb⟩; refine ⟨_, rfl, ?_⟩; have n0_ := Aside0.mk (Kd.R_lower ho0 (below_size (by repeat ((with_reducible exact HB.out))))); have n1_ := Aside0.mk (below_step (by repeat ((with_reducible exact HB.out))) hb); clear HB; have HO249 := n0_; have HB := n1_; clear n0_ n1_; (try clear hb); (try clear hb2); (try clear hk); (try clear hi); (try clear ho0); obtain ⟨Ao8, co8, eo8⟩ := Kd.R_slice HO249.out; subst eo8) | ((with_reducible refine gate_callee (f := 16) rfl ?_); refine goesL_ (some 24) rfl rfl Try.func16 (by kernel_rfl) rfl #[.slice Ao8 t247.length co8] rfl (by (try simp only [List.map_toArray, List.map_cons, List.map_nil]); rfl) ?_; (with_reducible refine (impl_ChunkText.calls k _ _ t247 t250 t251 _ ?side1 ?side2 A6.out).mono ?_); (case side1 => repeat (exact (Kd.R_reads' HO249.out).2.2)); (case side2 => exact (Kd.R_reads' HO249.out).2.1); rintro e w' ⟨rfl, ⟨nd, rfl⟩⟩; refine ⟨_, rfl, ?_⟩))
    go_loopg [6, 7] k (fun kq v6 v7 w' => ∃ (x6_1 : ByteArray) (x7_1 : Int), v6 = .string x6_1 ∧ v7 = .int .i64 x7_1 ∧ Aside0 (laws_FnBodies.l0 kq l0 t247 t250 t251 x6_1 x7_1 = some r) ∧ Aside0 (kq ≤ k) ∧ Aside0 (Kd.R Kd.string 9 w' w.heap.size (fun _ => True) (.slice Ao8 t247.length co8) t247) ∧ Aside0 (Below w.heap.size w w'))
    case atStart => exact ⟨((⟨#[]⟩ : ByteArray)), (0), (by rfl), (by rfl), H', ⟨Nat.le_refl _⟩, ⟨by (with_reducible repeat (apply Kd.R_drewN)); exact HO249.out⟩, ⟨by repeat ((with_reducible first | exact HB.out | apply pw_below_drewN))⟩⟩
    case round =>
      clear H'
      obtain ⟨x6_1, x7_1, rfl, rfl, HA, HK1, HO_3, HB⟩ := hrel
      cases gk with
      | zero => exact absurd HA.out (by simp [laws_FnBodies.l0])
      | succ k1 =>
        have H := HA.out
        clear HA
        simp only [laws_FnBodies.l0] at H
        by_cases c9 : x7_1 < (t247.length : Int)
        · rw [if_pos c9] at H
          have c9b0 : decide (x7_1 < (t247.length : Int)) = true := decide_eq_true c9
          clear c9
          (skip)
          by_cases c10 : 0 ≤ x7_1
          · rw [if_pos c10] at H
            have c10b0 : decide (0 ≤ x7_1) = true := decide_eq_true c10
            clear c10
            by_cases c11 : x6_1.size + (rdOf ByteArray.empty t247 x7_1).size ≤ 9223372036854775807
            · rw [if_pos c11] at H
              have c11b0 := eq_true c11
              have c11b1 : decide (x6_1.size + (rdOf ByteArray.empty t247 x7_1).size ≤ 9223372036854775807) = true := decide_eq_true c11
              have c11b2 : (9223372036854775807 < x6_1.size + (rdOf ByteArray.empty t247 x7_1).size) = False := eq_false (Nat.not_lt.2 c11)
              have H' := Aside0.mk H
              clear H
              have p252 : 0 ≤ (x7_1 : Int) := of_decide_eq_true (by (with_reducible assumption))
              have q252 : x7_1 < (t247.length : Int) := of_decide_eq_true (by (with_reducible assumption))
              obtain ⟨ad252, e252, hx252_0⟩ := Kd.at_string (Kd.R_reads' HO_3.out).2.2 x7_1 p252 q252
              cases e252
              replace p252 := eq_true p252
              replace q252 := eq_true q252
              go_wp2
              go_roundg k1
              case measure => have := HK1.out; omega
              case rel => exact ⟨(x6_1 ++ (rdOf ByteArray.empty t247 x7_1)), (wrap64 (x7_1 + 1)), (by rfl), (by rfl), H', ⟨by have := HK1.out; omega⟩, ⟨by (with_reducible repeat (first | apply Kd.R_alloc | apply Kd.R_drewN | apply Kd.R_drew )); exact HO_3.out⟩, ⟨by repeat ((with_reducible exact HB.out))⟩⟩
            · rw [if_neg c11] at H
              exact absurd H (by simp)
          · rw [if_neg c10] at H
            exact absurd H (by simp)
        · rw [if_neg c9] at H
          have c9b0 : decide (x7_1 < (t247.length : Int)) = false := decide_eq_false c9
          clear c9
          (skip)
          replace H := Option.bind_eq_some_iff.mp H
          obtain ⟨⟨t253, t254, t255⟩, A120, H⟩ := H
          replace H : (if t250.size + 6 ≤ 9223372036854775807 then ((impl_ReadChunks.f k1 (t250 ++ (⟨#[98, 101, 104, 105, 110, 100]⟩ : ByteArray))).bind fun bt256 => ((spec_DrawPlaces.f k1 l0).bind fun t259 => (if 0 < (t259.length : Int) then (if t250.size + 1 ≤ 9223372036854775807 then (if ((t250 ++ (⟨#[120]⟩ : ByteArray)).size : Int) = 0 then (none) else (if (wrap64 ((t250.size : Int) + 1)) = 0 then (none) else (if 0 ≤ (Int.tmod (Int.tmod (rd t259 0) ((t250 ++ (⟨#[120]⟩ : ByteArray)).size : Int)) (wrap64 ((t250.size : Int) + 1))) then (if (Int.tmod (Int.tmod (rd t259 0) ((t250 ++ (⟨#[120]⟩ : ByteArray)).size : Int)) (wrap64 ((t250.size : Int) + 1))) ≤ (t250.size : Int) then ((impl_ReadChunks.f k1 (t250.extract 0 ((Int.tmod (Int.tmod (rd t259 0) ((t250 ++ (⟨#[120]⟩ : ByteArray)).size : Int)) (wrap64 ((t250.size : Int) + 1))) : Int).toNat)).bind fun bt263 => (if (Int.tmod (rd t259 0) ((t250 ++ (⟨#[120]⟩ : ByteArray)).size : Int)) = (t250.size : Int) then (if t251 = true then (if bt263.2.2 = 0 then (some (bt263.2.1 == (t250.size : Int))) else (none)) else (none)) else (if t251 = true then (if t255 = 0 then (if t253.toList = x6_1.toList then (if t254 = (t250.size : Int) then (if bt256.2.2 = 0 then (if bt256.1.toList = x6_1.toList then (if bt256.2.1 = t254 then (if bt263.2.1 = 0 then (some (bt263.2.2 == 1)) else (none)) else (none)) else (none)) else (none)) else (none)) else (none)) else (none)) else (none)))) else (none)) else (none)))) else (none)) else (none)))) else (none)) = some r := H
          have A12 := Aside0.mk A120
          clear A120
          by_cases c13 : t250.size + 6 ≤ 9223372036854775807
          · rw [if_pos c13] at H
            have c13b0 := eq_true c13
            have c13b1 : decide (t250.size + 6 ≤ 9223372036854775807) = true := decide_eq_true c13
            have c13b2 : (9223372036854775807 < t250.size + 6) = False := eq_false (Nat.not_lt.2 c13)
            replace H := Option.bind_eq_some_iff.mp H
            obtain ⟨⟨t256, t257, t258⟩, A140, H⟩ := H
            replace H : ((spec_DrawPlaces.f k1 l0).bind fun t259 => (if 0 < (t259.length : Int) then (if t250.size + 1 ≤ 9223372036854775807 then (if ((t250 ++ (⟨#[120]⟩ : ByteArray)).size : Int) = 0 then (none) else (if (wrap64 ((t250.size : Int) + 1)) = 0 then (none) else (if 0 ≤ (Int.tmod (Int.tmod (rd t259 0) ((t250 ++ (⟨#[120]⟩ : ByteArray)).size : Int)) (wrap64 ((t250.size : Int) + 1))) then (if (Int.tmod (Int.tmod (rd t259 0) ((t250 ++ (⟨#[120]⟩ : ByteArray)).size : Int)) (wrap64 ((t250.size : Int) + 1))) ≤ (t250.size : Int) then ((impl_ReadChunks.f k1 (t250.extract 0 ((Int.tmod (Int.tmod (rd t259 0) ((t250 ++ (⟨#[120]⟩ : ByteArray)).size : Int)) (wrap64 ((t250.size : Int) + 1))) : Int).toNat)).bind fun bt263 => (if (Int.tmod (rd t259 0) ((t250 ++ (⟨#[120]⟩ : ByteArray)).size : Int)) = (t250.size : Int) then (if t251 = true then (if bt263.2.2 = 0 then (some (bt263.2.1 == (t250.size : Int))) else (none)) else (none)) else (if t251 = true then (if t255 = 0 then (if t253.toList = x6_1.toList then (if t254 = (t250.size : Int) then (if t258 = 0 then (if t256.toList = x6_1.toList then (if t257 = t254 then (if bt263.2.1 = 0 then (some (bt263.2.2 == 1)) else (none)) else (none)) else (none)) else (none)) else (none)) else (none)) else (none)) else (none)))) else (none)) else (none)))) else (none)) else (none))) = some r := H
            have A14 := Aside0.mk A140
            clear A140
            replace H := Option.bind_eq_some_iff.mp H
            obtain ⟨t259, A150, H⟩ := H
            replace H : (if 0 < (t259.length : Int) then (if t250.size + 1 ≤ 9223372036854775807 then (if ((t250 ++ (⟨#[120]⟩ : ByteArray)).size : Int) = 0 then (none) else (if (wrap64 ((t250.size : Int) + 1)) = 0 then (none) else (if 0 ≤ (Int.tmod (Int.tmod (rd t259 0) ((t250 ++ (⟨#[120]⟩ : ByteArray)).size : Int)) (wrap64 ((t250.size : Int) + 1))) then (if (Int.tmod (Int.tmod (rd t259 0) ((t250 ++ (⟨#[120]⟩ : ByteArray)).size : Int)) (wrap64 ((t250.size : Int) + 1))) ≤ (t250.size : Int) then ((impl_ReadChunks.f k1 (t250.extract 0 ((Int.tmod (Int.tmod (rd t259 0) ((t250 ++ (⟨#[120]⟩ : ByteArray)).size : Int)) (wrap64 ((t250.size : Int) + 1))) : Int).toNat)).bind fun bt263 => (if (Int.tmod (rd t259 0) ((t250 ++ (⟨#[120]⟩ : ByteArray)).size : Int)) = (t250.size : Int) then (if t251 = true then (if bt263.2.2 = 0 then (some (bt263.2.1 == (t250.size : Int))) else (none)) else (none)) else (if t251 = true then (if t255 = 0 then (if t253.toList = x6_1.toList then (if t254 = (t250.size : Int) then (if t258 = 0 then (if t256.toList = x6_1.toList then (if t257 = t254 then (if bt263.2.1 = 0 then (some (bt263.2.2 == 1)) else (none)) else (none)) else (none)) else (none)) else (none)) else (none)) else (none)) else (none)))) else (none)) else (none)))) else (none)) else (none)) = some r := H
            have A15 := Aside0.mk A150
            clear A150
            by_cases c16 : 0 < (t259.length : Int)
            · rw [if_pos c16] at H
              have c16b0 : decide (0 < (t259.length : Int)) = true := decide_eq_true c16
              have c16b1 : decide (0 < t259.length) = true := decide_eq_true (by omega)
              clear c16
              by_cases c17 : t250.size + 1 ≤ 9223372036854775807
              · rw [if_pos c17] at H
                have c17b0 := eq_true c17
                have c17b1 : decide (t250.size + 1 ≤ 9223372036854775807) = true := decide_eq_true c17
                have c17b2 : (9223372036854775807 < t250.size + 1) = False := eq_false (Nat.not_lt.2 c17)
                by_cases c18 : ((t250 ++ (⟨#[120]⟩ : ByteArray)).size : Int) = 0
                · rw [if_pos c18] at H
                  exact absurd H (by simp)
                · rw [if_neg c18] at H
                  have c18b0 : (((t250 ++ (⟨#[120]⟩ : ByteArray)).size : Int) == 0) = false := beq_eq_false_iff_ne.mpr c18
                  have c18b1 : (((t250 ++ (⟨#[120]⟩ : ByteArray)).size : Int) != 0) = true := bne_iff_ne.mpr c18
                  by_cases c19 : (wrap64 ((t250.size : Int) + 1)) = 0
                  · rw [if_pos c19] at H
                    exact absurd H (by simp)
                  · rw [if_neg c19] at H
                    have c19b0 : ((wrap64 ((t250.size : Int) + 1)) == 0) = false := beq_eq_false_iff_ne.mpr c19
                    have c19b1 : ((wrap64 ((t250.size : Int) + 1)) != 0) = true := bne_iff_ne.mpr c19
                    obtain ⟨ji20, hji20⟩ : ∃ j_ : Int, (Int.tmod (Int.tmod (rd t259 0) ((t250 ++ (⟨#[120]⟩ : ByteArray)).size : Int)) (wrap64 ((t250.size : Int) + 1))) = j_ := ⟨_, rfl⟩
                    have hs_ : ((t250 ++ (⟨#[120]⟩ : ByteArray)).size : Int) = (t250.size : Int) + 1 := by rw [ByteArray.size_append]; rfl
                    have hjs_ : Int.tmod (rd t259 0) ((t250.size : Int) + 1) = ji20 := by
                      rw [← hji20, hs_, show wrap64 ((t250.size : Int) + 1) = (t250.size : Int) + 1 from by unfold wrap64; have := of_eq_true c17b0; omega]; simp
                    have hjt_ : Int.tmod ji20 ((t250.size : Int) + 1) = ji20 := by rw [← hjs_]; simp
                    replace H : (if 0 ≤ (ji20) then (if (ji20) ≤ (t250.size : Int) then ((impl_ReadChunks.f k1 (t250.extract 0 ((ji20) : Int).toNat)).bind fun bt263 => (if (Int.tmod (rd t259 0) ((t250 ++ (⟨#[120]⟩ : ByteArray)).size : Int)) = (t250.size : Int) then (if t251 = true then (if bt263.2.2 = 0 then (some (bt263.2.1 == (t250.size : Int))) else (none)) else (none)) else (if t251 = true then (if t255 = 0 then (if t253.toList = x6_1.toList then (if t254 = (t250.size : Int) then (if t258 = 0 then (if t256.toList = x6_1.toList then (if t257 = t254 then (if bt263.2.1 = 0 then (some (bt263.2.2 == 1)) else (none)) else (none)) else (none)) else (none)) else (none)) else (none)) else (none)) else (none)))) else (none)) else (none)) = some r := by (rw [hji20] at H; exact H)
                    (try rw [hji20] at A12)
                    (try rw [hji20] at A14)
                    (try rw [hji20] at A15)
                    by_cases c21 : 0 ≤ (ji20)
                    · rw [if_pos c21] at H
                      have c21b0 := eq_true c21
                      have c21b1 : decide (0 ≤ (ji20)) = true := decide_eq_true c21
                      clear c21
                      by_cases c22 : (ji20) ≤ (t250.size : Int)
                      · rw [if_pos c22] at H
                        have c22b0 := eq_true c22
                        have c22b1 : decide ((ji20) ≤ (t250.size : Int)) = true := decide_eq_true c22
                        clear c22
                        replace H := Option.bind_eq_some_iff.mp H
                        obtain ⟨⟨t263, t264, t265⟩, A230, H⟩ := H
                        replace H : (if (Int.tmod (rd t259 0) ((t250 ++ (⟨#[120]⟩ : ByteArray)).size : Int)) = (t250.size : Int) then (if t251 = true then (if t265 = 0 then (some (t264 == (t250.size : Int))) else (none)) else (none)) else (if t251 = true then (if t255 = 0 then (if t253.toList = x6_1.toList then (if t254 = (t250.size : Int) then (if t258 = 0 then (if t256.toList = x6_1.toList then (if t257 = t254 then (if t264 = 0 then (some (t265 == 1)) else (none)) else (none)) else (none)) else (none)) else (none)) else (none)) else (none)) else (none))) = some r := H
                        have A23 := Aside0.mk A230
                        clear A230
                        have HS24 := Aside0.mk H
                        clear H
                        go_upto_if 75 with (first | ((with_reducible refine gate_callee (f := 19) rfl ?_); refine goesL_ (some 41) rfl rfl Try.func19 (by kernel_rfl) rfl #[.string t250] rfl (by (try simp only [List.map_toArray, List.map_cons, List.map_nil]); rfl) ?_; (with_reducible refine (impl_ReadChunks.calls k1 t250 t253 t254 t255 _ A12.out).mono ?_); rintro e w25 ⟨rfl, hb⟩; refine ⟨_, rfl, ?_⟩; have n0_ := Aside0.mk (Kd.R_below (by (with_reducible repeat (first | apply Kd.R_alloc | apply Kd.R_drewN | apply Kd.R_drew )); exact HO_3.out) hb); have n1_ := Aside0.mk (below_step (by repeat ((with_reducible exact HB.out))) hb); clear HO_3; clear HB; have HO_3 := n0_; have HB := n1_; clear n0_ n1_; (try clear hb); (try clear hb2); (try clear hk); (try clear hi)) | ((with_reducible refine gate_callee (f := 19) rfl ?_); refine goesL_ (some 48) rfl rfl Try.func19 (by kernel_rfl) rfl #[.string (t250 ++ (⟨#[98, 101, 104, 105, 110, 100]⟩ : ByteArray))] rfl (by (try simp only [List.map_toArray, List.map_cons, List.map_nil]); rfl) ?_; (with_reducible refine (impl_ReadChunks.calls k1 (t250 ++ (⟨#[98, 101, 104, 105, 110, 100]⟩ : ByteArray)) t256 t257 t258 _ A14.out).mono ?_); rintro e w26 ⟨rfl, hb⟩; refine ⟨_, rfl, ?_⟩; have n0_ := Aside0.mk (Kd.R_below (by (with_reducible repeat (first | apply Kd.R_alloc | apply Kd.R_drewN | apply Kd.R_drew )); exact HO_3.out) hb); have n1_ := Aside0.mk (below_step (by repeat ((with_reducible exact HB.out))) hb); clear HO_3; clear HB; have HO_3 := n0_; have HB := n1_; clear n0_ n1_; (try clear hb); (try clear hb2); (try clear hk); (try clear hi)) | ((with_reducible refine gate_callee (f := 22) rfl ?_); refine goesL_ (some 53) rfl rfl Try.func22 (by kernel_rfl) rfl #[.slice A0 l0.length c0] rfl (by (try simp only [List.map_toArray, List.map_cons, List.map_nil]); rfl) ?_; (with_reducible refine (spec_DrawPlaces.calls k1 _ _ l0 t259 _ ?side1 ?side2 A15.out).mono ?_); (case side1 => repeat (exact (Kd.C_below HR0.out HB.out))); (case side2 => exact HC0.out); rintro e w27 ⟨v260, rfl, ho0, hb⟩; refine ⟨_, rfl, ?_⟩; have n0_ := Aside0.mk (Kd.R_below (by (with_reducible repeat (first | apply Kd.R_alloc | apply Kd.R_drewN | apply Kd.R_drew )); exact HO_3.out) hb); have n1_ := Aside0.mk (Kd.R_lower ho0 (below_size (by repeat ((with_reducible exact HB.out))))); have n2_ := Aside0.mk (below_step (by repeat ((with_reducible exact HB.out))) hb); clear HO_3; clear HB; have HO_3 := n0_; have HO261 := n1_; have HB := n2_; clear n0_ n1_ n2_; (try clear hb); (try clear hb2); (try clear hk); (try clear hi); (try clear ho0); obtain ⟨Ao28, co28, eo28⟩ := Kd.R_slice HO261.out; subst eo28; have p262 : 0 ≤ (0 : Int) := (by omega); have q262 : 0 < (t259.length : Int) := of_decide_eq_true (by (with_reducible assumption)); obtain ⟨ad262, e262, hx262_0⟩ := Kd.at_int (Kd.R_reads' HO261.out).2.2 0 p262 q262; cases e262; have qi262 : (0 < t259.length) = True := eq_true (by omega); (try rw [show ((0 : Int)).toNat = 0 from rfl] at hx262_0); (try rw [Addr.add_zero'] at hx262_0); replace p262 := eq_true p262; replace q262 := eq_true q262) | ((with_reducible refine gate_callee (f := 19) rfl ?_); refine goesL_ (some 68) rfl rfl Try.func19 (by kernel_rfl) rfl #[.string (t250.extract 0 ((ji20) : Int).toNat)] rfl (by (try simp only [List.map_toArray, List.map_cons, List.map_nil]); rfl) ?_; (with_reducible refine (impl_ReadChunks.calls k1 (t250.extract 0 ((ji20) : Int).toNat) t263 t264 t265 _ A23.out).mono ?_); rintro e w29 ⟨rfl, hb⟩; refine ⟨_, rfl, ?_⟩; have n0_ := Aside0.mk (Kd.R_below (by (with_reducible repeat (first | apply Kd.R_alloc | apply Kd.R_drewN | apply Kd.R_drew )); exact HO_3.out) hb); have n1_ := Aside0.mk (Kd.R_below (by (with_reducible repeat (first | apply Kd.R_alloc | apply Kd.R_drewN | apply Kd.R_drew )); exact HO261.out) hb); have n2_ := Aside0.mk (below_step (by repeat ((with_reducible exact HB.out))) hb); clear HO_3; clear HO261; clear HB; have HO_3 := n0_; have HO261 := n1_; have HB := n2_; clear n0_ n1_ n2_; (try clear hb); (try clear hb2); (try clear hk); (try clear hi)))
                        (try simp only [Act.put, List.setIfInBounds_toArray, List.set_cons_zero, List.set_cons_succ])
                        have H := HS24.out
                        clear HS24
                        by_cases c30 : (Int.tmod (rd t259 0) ((t250 ++ (⟨#[120]⟩ : ByteArray)).size : Int)) = (t250.size : Int)
                        · rw [if_pos c30] at H
                          have c30b0 : ((Int.tmod (rd t259 0) ((t250 ++ (⟨#[120]⟩ : ByteArray)).size : Int)) == (t250.size : Int)) = true := beq_iff_eq.mpr c30
                          have c30z : (ji20 == (t250.size : Int)) = true := by rw [← hjs_, ← hs_]; exact c30b0
                          have c30b1 : ((Int.tmod (rd t259 0) ((t250 ++ (⟨#[120]⟩ : ByteArray)).size : Int)) != (t250.size : Int)) = false := bne_eq_false_iff_eq.mpr c30
                          clear c30
                          (skip)
                          by_cases c31 : t251 = true
                          · subst c31
                            have H1 : (if t265 = 0 then (some (t264 == (t250.size : Int))) else (none)) = some r := by rw [if_pos rfl] at H; exact H
                            clear H
                            have H := H1
                            clear H1
                            by_cases c32 : t265 = 0
                            · rw [if_pos c32] at H
                              have c32b0 : (t265 == 0) = true := beq_iff_eq.mpr c32
                              have c32b1 : (t265 != 0) = false := bne_eq_false_iff_eq.mpr c32
                              clear c32
                              obtain rfl := Option.some.inj H
                              go_wp2
                              go_ret
                              exact ⟨by rfl, by repeat ((with_reducible exact HB.out))⟩
                            · rw [if_neg c32] at H
                              exact absurd H (by simp)
                          · replace c31 := Bool.eq_false_iff.mpr c31
                            subst c31
                            have H1 : (none) = some r := by rw [if_neg (show ¬ (false = true) by decide)] at H; exact H
                            clear H
                            have H := H1
                            clear H1
                            exact absurd H (by simp)
                        · rw [if_neg c30] at H
                          have c30b0 : ((Int.tmod (rd t259 0) ((t250 ++ (⟨#[120]⟩ : ByteArray)).size : Int)) == (t250.size : Int)) = false := beq_eq_false_iff_ne.mpr c30
                          have c30z : (ji20 == (t250.size : Int)) = false := by rw [← hjs_, ← hs_]; exact c30b0
                          have c30b1 : ((Int.tmod (rd t259 0) ((t250 ++ (⟨#[120]⟩ : ByteArray)).size : Int)) != (t250.size : Int)) = true := bne_iff_ne.mpr c30
                          (skip)
                          by_cases c33 : t251 = true
                          · subst c33
                            have H1 : (if t255 = 0 then (if t253.toList = x6_1.toList then (if t254 = (t250.size : Int) then (if t258 = 0 then (if t256.toList = x6_1.toList then (if t257 = t254 then (if t264 = 0 then (some (t265 == 1)) else (none)) else (none)) else (none)) else (none)) else (none)) else (none)) else (none)) = some r := by rw [if_pos rfl] at H; exact H
                            clear H
                            have H := H1
                            clear H1
                            by_cases c34 : t255 = 0
                            · rw [if_pos c34] at H
                              have c34b0 : (t255 == 0) = true := beq_iff_eq.mpr c34
                              have c34b1 : (t255 != 0) = false := bne_eq_false_iff_eq.mpr c34
                              clear c34
                              by_cases c35 : t253.toList = x6_1.toList
                              · rw [if_pos c35] at H
                                have c35b0 : (t253.toList == x6_1.toList) = true := beq_iff_eq.mpr c35
                                have c35b1 : (t253.toList != x6_1.toList) = false := bne_eq_false_iff_eq.mpr c35
                                clear c35
                                by_cases c36 : t254 = (t250.size : Int)
                                · rw [if_pos c36] at H
                                  have c36b0 : (t254 == (t250.size : Int)) = true := beq_iff_eq.mpr c36
                                  have c36b1 : (t254 != (t250.size : Int)) = false := bne_eq_false_iff_eq.mpr c36
                                  clear c36
                                  by_cases c37 : t258 = 0
                                  · rw [if_pos c37] at H
                                    have c37b0 : (t258 == 0) = true := beq_iff_eq.mpr c37
                                    have c37b1 : (t258 != 0) = false := bne_eq_false_iff_eq.mpr c37
                                    clear c37
                                    by_cases c38 : t256.toList = x6_1.toList
                                    · rw [if_pos c38] at H
                                      have c38b0 : (t256.toList == x6_1.toList) = true := beq_iff_eq.mpr c38
                                      have c38b1 : (t256.toList != x6_1.toList) = false := bne_eq_false_iff_eq.mpr c38
                                      clear c38
                                      by_cases c39 : t257 = t254
                                      · rw [if_pos c39] at H
                                        have c39b0 : (t257 == t254) = true := beq_iff_eq.mpr c39
                                        have c39b1 : (t257 != t254) = false := bne_eq_false_iff_eq.mpr c39
                                        clear c39
                                        by_cases c40 : t264 = 0
                                        · rw [if_pos c40] at H
                                          have c40b0 : (t264 == 0) = true := beq_iff_eq.mpr c40
                                          have c40b1 : (t264 != 0) = false := bne_eq_false_iff_eq.mpr c40
                                          clear c40
                                          obtain rfl := Option.some.inj H
                                          go_wp2
                                          go_ret
                                          exact ⟨by rfl, by repeat ((with_reducible exact HB.out))⟩
                                        · rw [if_neg c40] at H
                                          exact absurd H (by simp)
                                      · rw [if_neg c39] at H
                                        exact absurd H (by simp)
                                    · rw [if_neg c38] at H
                                      exact absurd H (by simp)
                                  · rw [if_neg c37] at H
                                    exact absurd H (by simp)
                                · rw [if_neg c36] at H
                                  exact absurd H (by simp)
                              · rw [if_neg c35] at H
                                exact absurd H (by simp)
                            · rw [if_neg c34] at H
                              exact absurd H (by simp)
                          · replace c33 := Bool.eq_false_iff.mpr c33
                            subst c33
                            have H1 : (none) = some r := by rw [if_neg (show ¬ (false = true) by decide)] at H; exact H
                            clear H
                            have H := H1
                            clear H1
                            exact absurd H (by simp)
                      · rw [if_neg c22] at H
                        exact absurd H (by simp)
                    · rw [if_neg c21] at H
                      exact absurd H (by simp)
              · rw [if_neg c17] at H
                exact absurd H (by simp)
            · rw [if_neg c16] at H
              exact absurd H (by simp)
          · rw [if_neg c13] at H
            exact absurd H (by simp)

/-- THE ONE PURE STATEMENT of laws_FnBodies: yours. -/
def laws_FnBodies.Pure : Prop := ∀ (l0 : List Int), l0.length ≤ maxLen → l0.length * 1 ≤ 140737488351232 → (∀ x ∈ l0, (Lit.int .u8 x).wf = true) → ∃ k, laws_FnBodies.f k l0 = some true
theorem laws_FnBodies.walk (P : laws_FnBodies.Pure) (a0 : Option Addr) (len0 cap0 : Nat) (z0 : List Int) (w : World) (w0 : (a0 = none ∧ len0 = 0 ∧ cap0 = 0 ∧ z0 = []) ∨ ∃ x, a0 = some x ∧ len0 ≤ cap0 ∧ cap0 ≤ maxLen ∧ z0.length = cap0 ∧ (∀ i, i < z0.length → w.cell? (x.add i) = some (.int .u8 (z0.getD i 0))) ∧ ∀ n ∈ z0, (Lit.int .u8 n).wf = true) (y0 : len0 * 1 ≤ 140737488351232) :
    Calls Try.prog 6 #[.slice a0 len0 cap0] w fun e w' => e = .returned (.bool true) ∧ Below w.heap.size w w' := by
  obtain ⟨l0, rfl, hr0, hm0, hw0, hc0⟩ := ReadsInt.ofRowC w0
  obtain ⟨k, h⟩ := P l0 hm0 y0 hw0
  refine (laws_FnBodies.calls k _ _ l0 true w (Kd.C_of_reads (d := (0 : Int)) (h1 := fun _ => rfl) hr0) hc0 h).mono ?_
  rintro e w' ⟨rfl, hd⟩
  exact ⟨rfl, hd⟩

end Go.Proofs.Ythjigecaojaalaa.Q
