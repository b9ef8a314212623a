import Derived.Test.YtoopdknphikgkaaOfB0
import Derived.Test.YtoopdknphikgkaaOfG20
import Derived.Test.YtoopdknphikgkaaOfG101
import Derived.Test.YtoopdknphikgkaaOfWords
namespace Go.Proofs.Ytoopdknphikgkaa.Q
open Go.RowKit Go.Proofs.YtoopdknphikgkaaW.PrintWords Go.Proofs.YtoopdknphikgkaaW.PrintLast Go.Proofs.YtoopdknphikgkaaW.PrintMore
attribute [local go_sem] max2_int min2_int max_two min_two max_three min_three max_four min_four   -- for this text's walks alone
set_option linter.unusedVariables false
set_option linter.unusedSimpArgs false
def spec_Decimal.l0 : Nat → Int → Bool → ByteArray → Option (ByteArray)
  | 0, _, _, _ => none
  | k + 1, x0, x3, x4 => if x0 = 0 then (if x3 = true then (if 1 + x4.size ≤ 9223372036854775807 then (some ((⟨#[45]⟩ : ByteArray) ++ x4)) else (none)) else (some x4)) else (if (Int.tmod x0 10) < 0 then ((spec_l01Figure.f (wrap64 (-(Int.tmod x0 10)))).bind fun t592 => ((some (([t592] : List Int) : List Int)).bind fun y593 => (if (strOfNums y593).size + x4.size ≤ 9223372036854775807 then (spec_Decimal.l0 k (wrap64 (Int.tdiv x0 10)) x3 ((strOfNums y593) ++ x4)) else (none)))) else ((spec_l01Figure.f (Int.tmod x0 10)).bind fun t596 => ((some (([t596] : List Int) : List Int)).bind fun y597 => (if (strOfNums y597).size + x4.size ≤ 9223372036854775807 then (spec_Decimal.l0 k (wrap64 (Int.tdiv x0 10)) x3 ((strOfNums y597) ++ x4)) else (none)))))
def spec_Decimal.f (k : Nat) (a0 : Int) : Option (ByteArray) := if a0 = 0 then (some (⟨#[48]⟩ : ByteArray)) else (spec_Decimal.l0 k a0 (decide (a0 < 0)) (⟨#[]⟩ : ByteArray))
set_option maxHeartbeats 8000000 in
set_option maxRecDepth 100000 in
theorem spec_Decimal.calls (k : Nat) (a0 : Int) (r : ByteArray) (w : World) (h : spec_Decimal.f k a0 = some r) :
    Calls Try.prog 47 #[.int .i64 a0] w fun e w' => e = .returned (.string r) ∧ Below w.heap.size w w' := by
  have HB := Aside0.mk (Below.refl w.heap.size w)
  have H : (if a0 = 0 then (some (⟨#[48]⟩ : ByteArray)) else (spec_Decimal.l0 k a0 (decide (a0 < 0)) (⟨#[]⟩ : ByteArray))) = some r := h
  clear h
  by_cases c2 : a0 = 0
  · rw [if_pos c2] at H
    have c2b0 : (a0 == 0) = true := beq_iff_eq.mpr c2
    have c2b1 : (a0 != 0) = false := bne_eq_false_iff_eq.mpr c2
    clear c2
    obtain rfl := Option.some.inj H
    go_enter Try.func47, Try.ntmps47
    go_wp2
    go_ret
    exact ⟨by rfl, by repeat ((with_reducible exact HB.out))⟩
  · rw [if_neg c2] at H
    have c2b0 : (a0 == 0) = false := beq_eq_false_iff_ne.mpr c2
    have c2b1 : (a0 != 0) = true := bne_iff_ne.mpr c2
    have H' := Aside0.mk H
    clear H
    go_enter Try.func47, Try.ntmps47
    go_wp2
    generalize hg_gs3 : decide (a0 < 0) = gs3 at H' ⊢
    clear hg_gs3
    go_loopg [0, 4] k (fun kq v0 v4 w' => ∃ (x0_1 : Int) (x4_1 : ByteArray), v0 = .int .i64 x0_1 ∧ v4 = .string x4_1 ∧ Aside0 (spec_Decimal.l0 kq x0_1 gs3 x4_1 = some r) ∧ Aside0 (kq ≤ k) ∧ Aside0 (Below w.heap.size w w'))
    case atStart => exact ⟨(a0), ((⟨#[]⟩ : ByteArray)), (by rfl), (by rfl), H', ⟨Nat.le_refl _⟩, ⟨by repeat ((with_reducible exact HB.out))⟩⟩
    case round =>
      clear H'
      clear c2
      clear c2b0
      clear c2b1
      obtain ⟨x0_1, x4_1, rfl, rfl, HA, HK1, HB⟩ := hrel
      cases gk with
      | zero => exact absurd HA.out (by simp [spec_Decimal.l0])
      | succ k1 =>
        have H := HA.out
        clear HA
        simp only [spec_Decimal.l0] at H
        by_cases c4 : x0_1 = 0
        · rw [if_pos c4] at H
          have c4b0 : (x0_1 == 0) = true := beq_iff_eq.mpr c4
          have c4b1 : (x0_1 != 0) = false := bne_eq_false_iff_eq.mpr c4
          clear c4
          by_cases c5 : gs3 = true
          · subst c5
            have H1 : (if 1 + x4_1.size ≤ 9223372036854775807 then (some ((⟨#[45]⟩ : ByteArray) ++ x4_1)) else (none)) = some r := by rw [if_pos rfl] at H; exact H
            clear H
            have H := H1
            clear H1
            by_cases c6 : 1 + x4_1.size ≤ 9223372036854775807
            · rw [if_pos c6] at H
              have c6b0 := eq_true c6
              have c6b1 : decide (1 + x4_1.size ≤ 9223372036854775807) = true := decide_eq_true c6
              have c6b2 : (9223372036854775807 < 1 + x4_1.size) = False := eq_false (Nat.not_lt.2 c6)
              obtain rfl := Option.some.inj H
              go_wp2
              go_ret
              exact ⟨by rfl, by repeat ((with_reducible exact HB.out))⟩
            · rw [if_neg c6] at H
              exact absurd H (by simp)
          · replace c5 := Bool.eq_false_iff.mpr c5
            subst c5
            have H1 : (some x4_1) = some r := by rw [if_neg (show ¬ (false = true) by decide)] at H; exact H
            clear H
            have H := H1
            clear H1
            obtain rfl := Option.some.inj H
            go_wp2
            go_ret
            exact ⟨by rfl, by repeat ((with_reducible exact HB.out))⟩
        · rw [if_neg c4] at H
          have c4b0 : (x0_1 == 0) = false := beq_eq_false_iff_ne.mpr c4
          have c4b1 : (x0_1 != 0) = true := bne_iff_ne.mpr c4
          by_cases c7 : (Int.tmod x0_1 10) < 0
          · rw [if_pos c7] at H
            have c7b0 : decide ((Int.tmod x0_1 10) < 0) = true := decide_eq_true c7
            clear c7
            replace H := Option.bind_eq_some_iff.mp H
            obtain ⟨t592, A80, H⟩ := H
            replace H : ((some (([t592] : List Int) : List Int)).bind fun y593 => (if (strOfNums y593).size + x4_1.size ≤ 9223372036854775807 then (spec_Decimal.l0 k1 (wrap64 (Int.tdiv x0_1 10)) gs3 ((strOfNums y593) ++ x4_1)) else (none))) = some r := H
            have A8 := Aside0.mk A80
            clear A80
            obtain ⟨y593, hy593⟩ : ∃ y_ : List Int, y_ = (([t592] : List Int)) := ⟨_, rfl⟩
            replace H : (if (strOfNums y593).size + x4_1.size ≤ 9223372036854775807 then (spec_Decimal.l0 k1 (wrap64 (Int.tdiv x0_1 10)) gs3 ((strOfNums y593) ++ x4_1)) else (none)) = some r := by (have H2_ := (Option.bind_some _ _).symm.trans H; rw [hy593]; with_reducible exact H2_)
            have Ny593 := Aside0.mk hy593
            clear hy593
            by_cases c9 : (strOfNums y593).size + x4_1.size ≤ 9223372036854775807
            · rw [if_pos c9] at H
              have c9b0 := eq_true c9
              have c9b1 : decide ((strOfNums y593).size + x4_1.size ≤ 9223372036854775807) = true := decide_eq_true c9
              have c9b2 : (9223372036854775807 < (strOfNums y593).size + x4_1.size) = False := eq_false (Nat.not_lt.2 c9)
              have H' := Aside0.mk H
              clear H
              go_wp2_with (first | ((with_reducible refine gate_callee (f := 86) rfl ?_); refine goesL_ (some 19) rfl rfl Try.func86 (by kernel_rfl) rfl #[.int .i64 (wrap64 (-(Int.tmod x0_1 10)))] rfl (by (try simp only [List.map_toArray, List.map_cons, List.map_nil]); rfl) ?_; (with_reducible refine (spec_l01Figure.calls (wrap64 (-(Int.tmod x0_1 10))) t592 _ A8.out).mono ?_); rintro e w' ⟨rfl, rfl⟩; refine ⟨_, rfl, ?_⟩) | ((with_reducible refine gate_dst (N := 20) rfl ?_); refine Kd.R_lit (Kd.int .u8) _ 5 ?hg (N := 20) ?hd (xs := ([t592] : List Int)) (inner := [.int .u8 t592]) (ok := fun _ => True) (okp := fun _ => True) ?hr ?hp (fun _ hk => hk) trivial (Below.refl _ _) (Nat.le_refl _) (by simp) ?_; (case hd => rfl); (case hg => rfl); (case hr => (go_simp; done)); (case hp => exact (Reps.one (show Kd.M (Kd.int .u8) _ _ _ t592 [.int .u8 t592] from rfl) (Reps.none _ _))); intro v594 w10 ho11 hb hg_ hnew_; clear hg_ hnew_; (rw [← Ny593.out] at ho11); have n0_ := Aside0.mk (Kd.R_lower ho11 (below_size (by repeat ((with_reducible exact HB.out))))); have n1_ := Aside0.mk (below_step (by repeat ((with_reducible exact HB.out))) hb); clear HB; have HO595 := n0_; have HB := n1_; clear n0_ n1_; clear hb ho11; have hcv12 := own_string (P := Try.prog) Try.underlying36 Try.underlying5 Try.underlying9 (Kd.own_of_R HO595.out)))
              go_roundg k1
              case measure => have := HK1.out; omega
              case rel => exact ⟨(wrap64 (Int.tdiv x0_1 10)), ((strOfNums y593) ++ x4_1), (by rfl), (by rfl), H', ⟨by have := HK1.out; omega⟩, ⟨by repeat ((with_reducible exact HB.out))⟩⟩
            · rw [if_neg c9] at H
              exact absurd H (by simp)
          · rw [if_neg c7] at H
            have c7b0 : decide ((Int.tmod x0_1 10) < 0) = false := decide_eq_false c7
            clear c7
            replace H := Option.bind_eq_some_iff.mp H
            obtain ⟨t596, A130, H⟩ := H
            replace H : ((some (([t596] : List Int) : List Int)).bind fun y597 => (if (strOfNums y597).size + x4_1.size ≤ 9223372036854775807 then (spec_Decimal.l0 k1 (wrap64 (Int.tdiv x0_1 10)) gs3 ((strOfNums y597) ++ x4_1)) else (none))) = some r := H
            have A13 := Aside0.mk A130
            clear A130
            obtain ⟨y597, hy597⟩ : ∃ y_ : List Int, y_ = (([t596] : List Int)) := ⟨_, rfl⟩
            replace H : (if (strOfNums y597).size + x4_1.size ≤ 9223372036854775807 then (spec_Decimal.l0 k1 (wrap64 (Int.tdiv x0_1 10)) gs3 ((strOfNums y597) ++ x4_1)) else (none)) = some r := by (have H2_ := (Option.bind_some _ _).symm.trans H; rw [hy597]; with_reducible exact H2_)
            have Ny597 := Aside0.mk hy597
            clear hy597
            by_cases c14 : (strOfNums y597).size + x4_1.size ≤ 9223372036854775807
            · rw [if_pos c14] at H
              have c14b0 := eq_true c14
              have c14b1 : decide ((strOfNums y597).size + x4_1.size ≤ 9223372036854775807) = true := decide_eq_true c14
              have c14b2 : (9223372036854775807 < (strOfNums y597).size + x4_1.size) = False := eq_false (Nat.not_lt.2 c14)
              have H' := Aside0.mk H
              clear H
              go_wp2_with (first | ((with_reducible refine gate_callee (f := 86) rfl ?_); refine goesL_ (some 19) rfl rfl Try.func86 (by kernel_rfl) rfl #[.int .i64 (Int.tmod x0_1 10)] rfl (by (try simp only [List.map_toArray, List.map_cons, List.map_nil]); rfl) ?_; (with_reducible refine (spec_l01Figure.calls (Int.tmod x0_1 10) t596 _ A13.out).mono ?_); rintro e w' ⟨rfl, rfl⟩; refine ⟨_, rfl, ?_⟩) | ((with_reducible refine gate_dst (N := 20) rfl ?_); refine Kd.R_lit (Kd.int .u8) _ 5 ?hg (N := 20) ?hd (xs := ([t596] : List Int)) (inner := [.int .u8 t596]) (ok := fun _ => True) (okp := fun _ => True) ?hr ?hp (fun _ hk => hk) trivial (Below.refl _ _) (Nat.le_refl _) (by simp) ?_; (case hd => rfl); (case hg => rfl); (case hr => (go_simp; done)); (case hp => exact (Reps.one (show Kd.M (Kd.int .u8) _ _ _ t596 [.int .u8 t596] from rfl) (Reps.none _ _))); intro v598 w15 ho16 hb hg_ hnew_; clear hg_ hnew_; (rw [← Ny597.out] at ho16); have n0_ := Aside0.mk (Kd.R_lower ho16 (below_size (by repeat ((with_reducible exact HB.out))))); have n1_ := Aside0.mk (below_step (by repeat ((with_reducible exact HB.out))) hb); clear HB; have HO599 := n0_; have HB := n1_; clear n0_ n1_; clear hb ho16; have hcv17 := own_string (P := Try.prog) Try.underlying36 Try.underlying5 Try.underlying9 (Kd.own_of_R HO599.out)))
              go_roundg k1
              case measure => have := HK1.out; omega
              case rel => exact ⟨(wrap64 (Int.tdiv x0_1 10)), ((strOfNums y597) ++ x4_1), (by rfl), (by rfl), H', ⟨by have := HK1.out; omega⟩, ⟨by repeat ((with_reducible exact HB.out))⟩⟩
            · rw [if_neg c14] at H
              exact absurd H (by simp)
mutual
def laws_FnOften.l0 : Nat → List Int → Int → List ByteArray → List ByteArray → List (List Int) → Int → Option (Bool)
  | 0, _, _, _, _, _, _ => none
  | k + 1, x0, x4, x612000, x612001, x612002, x612003 => if x4 < 5 then ((impl_PolicyTouch.f k x612000 x612001 x612002 x612003 (⟨#[47, 111, 102, 116, 101, 110]⟩ : ByteArray)).bind fun bt612 => (laws_FnOften.l0 k x0 (wrap64 (x4 + 1)) bt612.1 bt612.2.1 bt612.2.2.1 bt612.2.2.2.1)) else ((spec_DrawPlaces.f k x0).bind fun t623 => (if 0 < (t623.length : Int) then (laws_FnOften.l1 k (rd t623 0) 0 x612000 x612001 x612002 x612003) else (none)))
def laws_FnOften.l1 : Nat → Int → Int → List ByteArray → List ByteArray → List (List Int) → Int → Option (Bool)
  | 0, _, _, _, _, _, _ => none
  | k + 1, x5, x6, x612000, x612001, x612002, x612003 => if x6 < 12 then ((spec_Decimal.f k (wrap64 (x5 + x6))).bind fun t627 => (if 5 + t627.size ≤ 9223372036854775807 then ((impl_PolicyTouch.f k x612000 x612001 x612002 x612003 ((⟨#[47, 111, 110, 99, 101]⟩ : ByteArray) ++ t627)).bind fun bt628 => ((impl_PolicyTouch.f k bt628.1 bt628.2.1 bt628.2.2.1 bt628.2.2.2.1 (⟨#[47, 111, 102, 116, 101, 110]⟩ : ByteArray)).bind fun bt639 => (laws_FnOften.l1 k x5 (wrap64 (x6 + 1)) bt639.1 bt639.2.1 bt639.2.2.1 bt639.2.2.2.1))) else (none))) else ((impl_PolicyHas.f k x612000 x612001 x612002 x612003 (⟨#[47, 111, 102, 116, 101, 110]⟩ : ByteArray)).bind fun t650 => (if t650 = true then ((impl_PolicyOk.f k x612000 x612001 x612002 x612003).bind fun t651 => (if t651 = true then ((impl_SketchGuess.f k x612002 x612003 (⟨#[47, 111, 102, 116, 101, 110]⟩ : ByteArray)).bind fun t652 => (if t652 = 15 then (some ((x612001.length : Int) == 4)) else (none))) else (none))) else (none)))
end
def laws_FnOften.f (k : Nat) (l0 : List Int) : Option (Bool) := (laws_big.f l0).bind fun t600 => (if t600 = true then (some true) else ((impl_PolicyNew.f k).bind fun bt601 => (laws_FnOften.l0 k l0 0 bt601.1 bt601.2.1 bt601.2.2.1 bt601.2.2.2)))
def laws_FnOften.T12 : Bool × List (List Nat × List Nat) := (true, [([], []), ([], []), ([], []), ([1, 2], [1, 2]), ([3], [3]), ([4], [4]), ([0, 5, 4], [0, 5]), ([6], [6]), ([7], [7]), ([7], [7]), ([8, 6, 0, 1, 2, 3, 4, 5, 6, 7, 8], [8])])
def laws_FnOften.B12 : List Nat := [0, 0, 0, 6, 14, 30, 63, 127, 255, 255, 511]
theorem laws_FnOften.tab12 : rtab .any (opsOf Try.f12 12) = laws_FnOften.T12 := by kernel_rfl
theorem laws_FnOften.bits12 : waitsOk laws_FnOften.T12.2 laws_FnOften.B12 = true := by kernel_rfl
set_option maxHeartbeats 8000000 in
set_option maxRecDepth 100000 in
theorem laws_FnOften.calls (k : Nat) (A0 : Option Addr) (c0 : Nat) (l0 : List Int) (r : Bool) (w : World) (hr0 : Kd.C (Kd.int .u8) w A0 l0.length l0) (hc0 : l0.length ≤ c0) (h : laws_FnOften.f k l0 = some r) :
    Calls Try.prog 12 #[.slice A0 l0.length c0] w fun e w' => e = .returned (.bool r) ∧ Below w.heap.size w w' := by
  have hu43 := Try.underlying43
  have hu26 := Try.underlying26
  have HR0 := Aside0.mk hr0
  have HC0 := Aside0.mk hc0
  clear hr0 hc0
  have HB := Aside0.mk (Below.refl w.heap.size w)
  have H : ((laws_big.f l0).bind fun t600 => (if t600 = true then (some true) else ((impl_PolicyNew.f k).bind fun bt601 => (laws_FnOften.l0 k l0 0 bt601.1 bt601.2.1 bt601.2.2.1 bt601.2.2.2)))) = some r := h
  clear h
  replace H := Option.bind_eq_some_iff.mp H
  obtain ⟨t600, A20, H⟩ := H
  replace H : (if t600 = true then (some true) else ((impl_PolicyNew.f k).bind fun bt601 => (laws_FnOften.l0 k l0 0 bt601.1 bt601.2.1 bt601.2.2.1 bt601.2.2.2))) = some r := H
  have A2 := Aside0.mk A20
  clear A20
  have HS3 := Aside0.mk H
  clear H
  go_enter Try.func12, Try.ntmps12
  go_upto_if 8 with (((with_reducible refine gate_callee (f := 28) rfl ?_); refine goesL_ (some 8) rfl rfl Try.func28 (by kernel_rfl) rfl #[.slice A0 l0.length c0] rfl (by (try simp only [List.map_toArray, List.map_cons, List.map_nil]); rfl) ?_; (with_reducible refine (laws_big.calls _ _ l0 t600 _ ?side1 ?side2 A2.out).mono ?_); (case side1 => repeat (exact HR0.out)); (case side2 => exact HC0.out); rintro e w' ⟨rfl, rfl⟩; refine ⟨_, rfl, ?_⟩))
  (try simp only [Act.put, List.setIfInBounds_toArray, List.set_cons_zero, List.set_cons_succ])
  have H := HS3.out
  clear HS3
  by_cases c4 : t600 = true
  · subst c4
    have H1 : (some true) = some r := by rw [if_pos rfl] at H; exact H
    clear H
    have H := H1
    clear H1
    obtain rfl := Option.some.inj H
    go_wp2
    go_ret
    exact ⟨by rfl, by repeat ((with_reducible exact HB.out))⟩
  · replace c4 := Bool.eq_false_iff.mpr c4
    subst c4
    have H1 : ((impl_PolicyNew.f k).bind fun bt601 => (laws_FnOften.l0 k l0 0 bt601.1 bt601.2.1 bt601.2.2.1 bt601.2.2.2)) = some r := by rw [if_neg (show ¬ (false = true) by decide)] at H; exact H
    clear H
    have H := H1
    clear H1
    replace H := Option.bind_eq_some_iff.mp H
    obtain ⟨⟨t601, t604, t607, t610⟩, A50, H⟩ := H
    replace H : (laws_FnOften.l0 k l0 0 t601 t604 t607 t610) = some r := H
    have A5 := Aside0.mk A50
    clear A50
    have H' := Aside0.mk H
    clear H
    go_wp2_with (first | ((with_reducible refine gate_callee (f := 33) rfl ?_); refine goesL_ (some 9) rfl rfl Try.func33 (by kernel_rfl) rfl #[] rfl (by (try simp only [List.map_toArray, List.map_cons, List.map_nil]); done) ?_; (with_reducible refine (impl_PolicyNew.calls k  t601 t604 t607 t610 _ A5.out).mono ?_); rintro e w6 ⟨v602, v605, v608, rfl, ho0, ho1, ho2, hb⟩; refine ⟨_, rfl, ?_⟩; have n0_ := Aside0.mk (Kd.R_lower ho0 (below_size (by repeat ((with_reducible exact HB.out))))); have n1_ := Aside0.mk (Kd.R_lower ho1 (below_size (by repeat ((with_reducible exact HB.out))))); have n2_ := Aside0.mk (Kd.S_lower ho2 (below_size (by repeat ((with_reducible exact HB.out))))); have n3_ := Aside0.mk (below_step (by repeat ((with_reducible exact HB.out))) hb); clear HB; have HO603 := n0_; have HO606 := n1_; have HO609 := n2_; have HB := n3_; clear n0_ n1_ n2_ n3_; (try clear hb); (try clear hb2); (try clear hk); (try clear hi); (try clear ho0); (try clear ho1); (try clear ho2)) | ((with_reducible refine gate_dst (N := 3) rfl ?_); (try (refine gate_guard (by rfl) ?_; dsimp only)); refine box_event ?hg (N := 3) ?hd (cs := #[.slice none 0 0, .slice none 0 0, .slice none 0 0, .int .i64 0]) (t := 43) ?hr ?_; (case hd => rfl); (case hg => rfl); (case hr => (go_simp; done)); intro gb611 hg w7 hbox hb; have n0_ := Aside0.mk (Kd.R_below (by (with_reducible repeat (first | apply Kd.R_alloc | apply Kd.R_drewN | apply Kd.R_drew )); exact HO603.out) hb); have n1_ := Aside0.mk (Kd.R_below (by (with_reducible repeat (first | apply Kd.R_alloc | apply Kd.R_drewN | apply Kd.R_drew )); exact HO606.out) hb); have n2_ := Aside0.mk (Kd.S_below (by (with_reducible repeat (first | apply Kd.S_alloc | apply Kd.S_drewN | apply Kd.S_drew )); exact HO609.out) hb); have n3_ := Aside0.mk (below_step (by repeat ((with_reducible exact HB.out))) hb); have n4_ := Aside0.mk (hbox); have n5_ := Aside0.mk ((by rw [hg]; exact (below_size (by repeat ((with_reducible exact HB.out)))) : w.heap.size ≤ gb611)); have n6_ := Aside0.mk ((by rw [hg]; exact (below_size (by repeat ((with_reducible exact HB.out)))) : w.heap.size ≤ gb611)); clear HO603; clear HO606; clear HO609; clear HB; have HO603 := n0_; have HO606 := n1_; have HO609 := n2_; have HB := n3_; have BK611 := n4_; have GW611 := n5_; have GE611 := n6_; clear n0_ n1_ n2_ n3_ n4_ n5_ n6_; clear hb hbox hg; obtain ⟨Ao8, co8, eo8⟩ := Kd.R_slice HO603.out; subst eo8; have hcz9_0 : w7.cell? ⟨gb611, 0, none⟩ = some (.slice none 0 0) := (blk_cell BK611.out 0).trans rfl; have hcz9_1 : w7.cell? ⟨gb611, 1, none⟩ = some (.slice none 0 0) := (blk_cell BK611.out 1).trans rfl; have hcz9_2 : w7.cell? ⟨gb611, 2, none⟩ = some (.slice none 0 0) := (blk_cell BK611.out 2).trans rfl; have hcz9_3 : w7.cell? ⟨gb611, 3, none⟩ = some (.int .i64 0) := (blk_cell BK611.out 3).trans rfl; have hfz9_0 := blk_frozen BK611.out 0; have hfz9_1 := blk_frozen BK611.out 1; have hfz9_2 := blk_frozen BK611.out 2; have hfz9_3 := blk_frozen BK611.out 3; obtain ⟨Ao10, co10, eo10⟩ := Kd.R_slice HO606.out; subst eo10; obtain ⟨Ao11, co11, eo11⟩ := Kd.S_slice HO609.out; subst eo11))
    go_loopg [4] k (fun kq v4 w' => ∃ (x4_1 : Int) (x612000_1 : List ByteArray) (x612001_1 : List ByteArray) (x612002_1 : List (List Int)) (x612003_1 : Int) (u612000 : Value) (u612001 : Value) (u612002 : Value), v4 = .int .i64 x4_1 ∧ Aside0 (laws_FnOften.l0 kq l0 x4_1 x612000_1 x612001_1 x612002_1 x612003_1 = some r) ∧ Aside0 (kq ≤ k) ∧ Aside0 (Kd.Q Kd.string 9 w' w.heap.size (fun k_ => some k_ ≠ (u612001 : Value).ownBlock) u612000 x612000_1) ∧ Aside0 (Kd.Q Kd.string 9 w' w.heap.size (fun k_ => some k_ ≠ (u612000 : Value).ownBlock) u612001 x612001_1) ∧ Aside0 (Kd.S (Kd.slice 3 (Kd.int .i64)) 58 w' w.heap.size (fun _ => True) u612002 x612002_1) ∧ Aside0 (w'.heap[gb611]? = some (.cells #[u612000, u612001, u612002, .int .i64 x612003_1] 43 (0, 0))) ∧ Aside0 (Below w.heap.size w w'))
    case atStart => exact ⟨(0), (t601), (t604), (t607), (t610), (.slice Ao8 t601.length co8), (.slice Ao10 t604.length co10), (.slice Ao11 t607.length co11), (by rfl), H', ⟨Nat.le_refl _⟩, ⟨Kd.Q_of_R (by (with_reducible repeat (first | apply Kd.R_alloc | apply Kd.R_drewN | apply Kd.R_drew )); exact Kd.R_mono (Kd.R_far (p := ⟨gb611, 3, none⟩) (Kd.R_far (p := ⟨gb611, 2, none⟩) (Kd.R_far (p := ⟨gb611, 1, none⟩) (Kd.R_far (p := ⟨gb611, 0, none⟩) (Kd.R_types HO603.out BK611.out (by decide)) (fun _ hk => hk.2) (.slice Ao8 t601.length co8)) (fun _ hk => hk.2) (.slice Ao10 t604.length co10)) (fun _ hk => hk.2) (.slice Ao11 t607.length co11)) (fun _ hk => hk.2) (.int .i64 t610)) (fun _ hk => hk.1))⟩, ⟨Kd.Q_of_R (by (with_reducible repeat (first | apply Kd.R_alloc | apply Kd.R_drewN | apply Kd.R_drew )); exact Kd.R_mono (Kd.R_far (p := ⟨gb611, 3, none⟩) (Kd.R_far (p := ⟨gb611, 2, none⟩) (Kd.R_far (p := ⟨gb611, 1, none⟩) (Kd.R_far (p := ⟨gb611, 0, none⟩) (Kd.R_types HO606.out BK611.out (by decide)) (fun _ hk => hk.2) (.slice Ao8 t601.length co8)) (fun _ hk => hk.2) (.slice Ao10 t604.length co10)) (fun _ hk => hk.2) (.slice Ao11 t607.length co11)) (fun _ hk => hk.2) (.int .i64 t610)) (fun _ hk => hk.1))⟩, ⟨by (with_reducible repeat (first | apply Kd.S_alloc | apply Kd.S_drewN | apply Kd.S_drew )); exact Kd.S_mono (Kd.S_far (p := ⟨gb611, 3, none⟩) (Kd.S_far (p := ⟨gb611, 2, none⟩) (Kd.S_far (p := ⟨gb611, 1, none⟩) (Kd.S_far (p := ⟨gb611, 0, none⟩) (Kd.S_types HO609.out BK611.out (by decide)) (fun _ hk => hk.2) (.slice Ao8 t601.length co8)) (fun _ hk => hk.2) (.slice Ao10 t604.length co10)) (fun _ hk => hk.2) (.slice Ao11 t607.length co11)) (fun _ hk => hk.2) (.int .i64 t610)) (fun _ hk => trivial)⟩, ⟨by (with_reducible repeat (first | refine blk_drewN ?_ _ | refine blk_drew ?_ | refine blk_alloc ?_ _ )); refine blk_put (cs := #[.slice Ao8 t601.length co8, .slice Ao10 t604.length co10, .slice Ao11 t607.length co11, .int .i64 0]) ?_ 3 _ rfl; (with_reducible repeat (first | refine blk_drewN ?_ _ | refine blk_drew ?_ | refine blk_alloc ?_ _ )); refine blk_put (cs := #[.slice Ao8 t601.length co8, .slice Ao10 t604.length co10, .slice none 0 0, .int .i64 0]) ?_ 2 _ rfl; (with_reducible repeat (first | refine blk_drewN ?_ _ | refine blk_drew ?_ | refine blk_alloc ?_ _ )); refine blk_put (cs := #[.slice Ao8 t601.length co8, .slice none 0 0, .slice none 0 0, .int .i64 0]) ?_ 1 _ rfl; (with_reducible repeat (first | refine blk_drewN ?_ _ | refine blk_drew ?_ | refine blk_alloc ?_ _ )); refine blk_put (cs := #[.slice none 0 0, .slice none 0 0, .slice none 0 0, .int .i64 0]) ?_ 0 _ rfl; (with_reducible repeat (first | refine blk_drewN ?_ _ | refine blk_drew ?_ | refine blk_alloc ?_ _ )); exact BK611.out⟩, ⟨by repeat ((with_reducible first | exact HB.out | refine below_set ?_ GE611.out))⟩⟩
    case round =>
      clear H'
      clear hcz9_0
      clear hcz9_1
      clear hcz9_2
      clear hcz9_3
      clear hfz9_0
      clear hfz9_1
      clear hfz9_2
      clear hfz9_3
      obtain ⟨x4_1, x612000_1, x612001_1, x612002_1, x612003_1, u612000, u612001, u612002, rfl, HA, HK1, HO_612000, HO_612001, HO_612002, BK611, HB⟩ := hrel
      cases gk with
      | zero => exact absurd HA.out (by simp [laws_FnOften.l0])
      | succ k1 =>
        have H := HA.out
        clear HA
        simp only [laws_FnOften.l0] at H
        by_cases c12 : x4_1 < 5
        · rw [if_pos c12] at H
          have c12b0 : decide (x4_1 < 5) = true := decide_eq_true c12
          clear c12
          (skip)
          replace H := Option.bind_eq_some_iff.mp H
          obtain ⟨⟨t612, t615, t618, t621, t622⟩, A130, H⟩ := H
          replace H : (laws_FnOften.l0 k1 l0 (wrap64 (x4_1 + 1)) t612 t615 t618 t621) = some r := H
          have A13 := Aside0.mk A130
          clear A130
          have H' := Aside0.mk H
          clear H
          have hcz14_0 : wr.cell? ⟨gb611, 0, none⟩ = some (u612000) := (blk_cell BK611.out 0).trans rfl
          have hcz14_1 : wr.cell? ⟨gb611, 1, none⟩ = some (u612001) := (blk_cell BK611.out 1).trans rfl
          have hcz14_2 : wr.cell? ⟨gb611, 2, none⟩ = some (u612002) := (blk_cell BK611.out 2).trans rfl
          have hcz14_3 : wr.cell? ⟨gb611, 3, none⟩ = some (.int .i64 x612003_1) := (blk_cell BK611.out 3).trans rfl
          have hfz14_0 := blk_frozen BK611.out 0
          have hfz14_1 := blk_frozen BK611.out 1
          have hfz14_2 := blk_frozen BK611.out 2
          have hfz14_3 := blk_frozen BK611.out 3
          obtain ⟨Ao15, co15, eo15, _⟩ := Kd.Q_slice HO_612000.out
          subst eo15
          obtain ⟨Ao16, co16, eo16, _⟩ := Kd.Q_slice HO_612001.out
          subst eo16
          obtain ⟨Ao17, co17, eo17⟩ := Kd.S_slice HO_612002.out
          subst eo17
          go_wp2_with (((with_reducible refine gate_callee (f := 45) rfl ?_); refine goesL_ (some 16) rfl rfl Try.func45 (by kernel_rfl) rfl #[.agg #[.slice Ao15 x612000_1.length co15, .slice Ao16 x612001_1.length co16, .slice Ao17 x612002_1.length co17, .int .i64 x612003_1], .string (⟨#[47, 111, 102, 116, 101, 110]⟩ : ByteArray)] rfl (by (try simp only [List.map_toArray, List.map_cons, List.map_nil]); rfl) ?_; (with_reducible refine (impl_PolicyTouch.calls k1 _ _ x612000_1 _ _ x612001_1 _ _ x612002_1 x612003_1 (⟨#[47, 111, 102, 116, 101, 110]⟩ : ByteArray) t612 t615 t618 t621 t622 _ ?side1 ?side2 ?side3 ?side4 ?side5 ?side6 A13.out).mono ?_); (case side1 => repeat (exact (Kd.Q_reads' HO_612000.out).2.2)); (case side2 => exact (Kd.Q_reads' HO_612000.out).2.1); (case side3 => repeat (exact (Kd.Q_reads' HO_612001.out).2.2)); (case side4 => exact (Kd.Q_reads' HO_612001.out).2.1); (case side5 => repeat (exact (Kd.S_reads' HO_612002.out).2.2)); (case side6 => exact (Kd.S_reads' HO_612002.out).2.1); rintro e w18 ⟨v613, v616, v619, rfl, ho0, ho1, ho2, hb⟩; refine ⟨_, rfl, ?_⟩; have n0_ := Aside0.mk (Kd.Q_mono (Kd.Q_told (Kd.Q_told (Kd.Q_old (by (with_reducible repeat (first | apply Kd.Q_alloc | apply Kd.Q_drewN | apply Kd.Q_drew )); exact HO_612000.out) hb) (Kd.Q_base ho0)) (Kd.Q_base ho1)) (fun _ h_ => h_.1)); have n1_ := Aside0.mk (Kd.Q_mono (Kd.Q_told (Kd.Q_told (Kd.Q_old (by (with_reducible repeat (first | apply Kd.Q_alloc | apply Kd.Q_drewN | apply Kd.Q_drew )); exact HO_612001.out) hb) (Kd.Q_base ho0)) (Kd.Q_base ho1)) (fun _ h_ => h_.1)); have n2_ := Aside0.mk (Kd.S_elder' (by (with_reducible repeat (first | apply Kd.S_alloc | apply Kd.S_drewN | apply Kd.S_drew )); exact HO_612002.out) (Kd.S_base ho2) hb); have n3_ := Aside0.mk (Kd.Q_lower (Kd.Q_new' (Kd.Q_new' ho0 (Kd.Q_lt (by (with_reducible repeat (first | apply Kd.Q_alloc | apply Kd.Q_drewN | apply Kd.Q_drew )); exact HO_612000.out))) (Kd.Q_lt (by (with_reducible repeat (first | apply Kd.Q_alloc | apply Kd.Q_drewN | apply Kd.Q_drew )); exact HO_612001.out))) (below_size (by repeat ((with_reducible exact HB.out))))); have n4_ := Aside0.mk (Kd.Q_lower (Kd.Q_new' (Kd.Q_new' ho1 (Kd.Q_lt (by (with_reducible repeat (first | apply Kd.Q_alloc | apply Kd.Q_drewN | apply Kd.Q_drew )); exact HO_612000.out))) (Kd.Q_lt (by (with_reducible repeat (first | apply Kd.Q_alloc | apply Kd.Q_drewN | apply Kd.Q_drew )); exact HO_612001.out))) (below_size (by repeat ((with_reducible exact HB.out))))); have n5_ := Aside0.mk (Kd.S_lower (Kd.S_new' ho2 (Kd.S_lt (by (with_reducible repeat (first | apply Kd.S_alloc | apply Kd.S_drewN | apply Kd.S_drew )); exact HO_612002.out))) (below_size (by repeat ((with_reducible exact HB.out))))); have n6_ := Aside0.mk (blk_below (g := gb611) (o := .cells #[.slice Ao15 x612000_1.length co15, .slice Ao16 x612001_1.length co16, .slice Ao17 x612002_1.length co17, .int .i64 x612003_1] 43 (0, 0)) (by (with_reducible repeat (first | refine blk_drewN ?_ _ | refine blk_drew ?_ | refine blk_alloc ?_ _ )); exact BK611.out) hb); have n7_ := Aside0.mk (below_step (by repeat ((with_reducible exact HB.out))) hb); clear HO_612000; clear HO_612001; clear HO_612002; clear BK611; clear HB; have HO_612000 := n0_; have HO_612001 := n1_; have HO_612002 := n2_; have HO614 := n3_; have HO617 := n4_; have HO620 := n5_; have BK611 := n6_; have HB := n7_; clear n0_ n1_ n2_ n3_ n4_ n5_ n6_ n7_; (try clear hb); (try clear hb2); (try clear hk); (try clear hi); (try clear ho0); (try clear ho1); (try clear ho2); obtain ⟨Ao19, co19, eo19, _⟩ := Kd.Q_slice HO614.out; subst eo19; have hcz20_0 : w18.cell? ⟨gb611, 0, none⟩ = some (.slice Ao15 x612000_1.length co15) := (blk_cell BK611.out 0).trans rfl; have hcz20_1 : w18.cell? ⟨gb611, 1, none⟩ = some (.slice Ao16 x612001_1.length co16) := (blk_cell BK611.out 1).trans rfl; have hcz20_2 : w18.cell? ⟨gb611, 2, none⟩ = some (.slice Ao17 x612002_1.length co17) := (blk_cell BK611.out 2).trans rfl; have hcz20_3 : w18.cell? ⟨gb611, 3, none⟩ = some (.int .i64 x612003_1) := (blk_cell BK611.out 3).trans rfl; have hfz20_0 := blk_frozen BK611.out 0; have hfz20_1 := blk_frozen BK611.out 1; have hfz20_2 := blk_frozen BK611.out 2; have hfz20_3 := blk_frozen BK611.out 3; obtain ⟨Ao21, co21, eo21, _⟩ := Kd.Q_slice HO617.out; subst eo21; obtain ⟨Ao22, co22, eo22⟩ := Kd.S_slice HO620.out; subst eo22))
          go_roundg k1
          case measure => have := HK1.out; omega
          case rel => exact ⟨(wrap64 (x4_1 + 1)), (t612), (t615), (t618), (t621), (.slice Ao19 t612.length co19), (.slice Ao21 t615.length co21), (.slice Ao22 t618.length co22), (by rfl), H', ⟨by have := HK1.out; omega⟩, ⟨by (with_reducible repeat (first | apply Kd.Q_alloc | apply Kd.Q_drewN | apply Kd.Q_drew )); exact Kd.Q_mono (Kd.Q_far (p := ⟨gb611, 3, none⟩) (Kd.Q_far (p := ⟨gb611, 2, none⟩) (Kd.Q_far (p := ⟨gb611, 1, none⟩) (Kd.Q_far (p := ⟨gb611, 0, none⟩) (Kd.Q_types HO614.out BK611.out (by decide)) (fun _ hk => hk.2) (.slice Ao19 t612.length co19)) (fun _ hk => hk.2) (.slice Ao21 t615.length co21)) (fun _ hk => hk.2) (.slice Ao22 t618.length co22)) (fun _ hk => hk.2) (.int .i64 t621)) (fun _ hk => hk.1.1.1)⟩, ⟨by (with_reducible repeat (first | apply Kd.Q_alloc | apply Kd.Q_drewN | apply Kd.Q_drew )); exact Kd.Q_mono (Kd.Q_far (p := ⟨gb611, 3, none⟩) (Kd.Q_far (p := ⟨gb611, 2, none⟩) (Kd.Q_far (p := ⟨gb611, 1, none⟩) (Kd.Q_far (p := ⟨gb611, 0, none⟩) (Kd.Q_types HO617.out BK611.out (by decide)) (fun _ hk => hk.2) (.slice Ao19 t612.length co19)) (fun _ hk => hk.2) (.slice Ao21 t615.length co21)) (fun _ hk => hk.2) (.slice Ao22 t618.length co22)) (fun _ hk => hk.2) (.int .i64 t621)) (fun _ hk => hk.1.1.1)⟩, ⟨by (with_reducible repeat (first | apply Kd.S_alloc | apply Kd.S_drewN | apply Kd.S_drew )); exact Kd.S_mono (Kd.S_far (p := ⟨gb611, 3, none⟩) (Kd.S_far (p := ⟨gb611, 2, none⟩) (Kd.S_far (p := ⟨gb611, 1, none⟩) (Kd.S_far (p := ⟨gb611, 0, none⟩) (Kd.S_types HO620.out BK611.out (by decide)) (fun _ hk => hk.2) (.slice Ao19 t612.length co19)) (fun _ hk => hk.2) (.slice Ao21 t615.length co21)) (fun _ hk => hk.2) (.slice Ao22 t618.length co22)) (fun _ hk => hk.2) (.int .i64 t621)) (fun _ hk => trivial)⟩, ⟨by (with_reducible repeat (first | refine blk_drewN ?_ _ | refine blk_drew ?_ | refine blk_alloc ?_ _ )); refine blk_put (cs := #[.slice Ao19 t612.length co19, .slice Ao21 t615.length co21, .slice Ao22 t618.length co22, .int .i64 x612003_1]) ?_ 3 _ rfl; (with_reducible repeat (first | refine blk_drewN ?_ _ | refine blk_drew ?_ | refine blk_alloc ?_ _ )); refine blk_put (cs := #[.slice Ao19 t612.length co19, .slice Ao21 t615.length co21, .slice Ao17 x612002_1.length co17, .int .i64 x612003_1]) ?_ 2 _ rfl; (with_reducible repeat (first | refine blk_drewN ?_ _ | refine blk_drew ?_ | refine blk_alloc ?_ _ )); refine blk_put (cs := #[.slice Ao19 t612.length co19, .slice Ao16 x612001_1.length co16, .slice Ao17 x612002_1.length co17, .int .i64 x612003_1]) ?_ 1 _ rfl; (with_reducible repeat (first | refine blk_drewN ?_ _ | refine blk_drew ?_ | refine blk_alloc ?_ _ )); refine blk_put (cs := #[.slice Ao15 x612000_1.length co15, .slice Ao16 x612001_1.length co16, .slice Ao17 x612002_1.length co17, .int .i64 x612003_1]) ?_ 0 _ rfl; (with_reducible repeat (first | refine blk_drewN ?_ _ | refine blk_drew ?_ | refine blk_alloc ?_ _ )); exact BK611.out⟩, ⟨by repeat ((with_reducible first | exact HB.out | refine below_set ?_ GE611.out))⟩⟩
        · rw [if_neg c12] at H
          have c12b0 : decide (x4_1 < 5) = false := decide_eq_false c12
          clear c12
          (skip)
          replace H := Option.bind_eq_some_iff.mp H
          obtain ⟨t623, A230, H⟩ := H
          replace H : (if 0 < (t623.length : Int) then (laws_FnOften.l1 k1 (rd t623 0) 0 x612000_1 x612001_1 x612002_1 x612003_1) else (none)) = some r := H
          have A23 := Aside0.mk A230
          clear A230
          by_cases c24 : 0 < (t623.length : Int)
          · rw [if_pos c24] at H
            have c24b0 : decide (0 < (t623.length : Int)) = true := decide_eq_true c24
            have c24b1 : decide (0 < t623.length) = true := decide_eq_true (by omega)
            clear c24
            have H' := Aside0.mk H
            clear H
            go_wp2_with (((with_reducible refine gate_callee (f := 46) rfl ?_); refine goesL_ (some 20) rfl rfl Try.func46 (by kernel_rfl) rfl #[.slice A0 l0.length c0] rfl (by (try simp only [List.map_toArray, List.map_cons, List.map_nil]); rfl) ?_; (with_reducible refine (spec_DrawPlaces.calls k1 _ _ l0 t623 _ ?side1 ?side2 A23.out).mono ?_); (case side1 => repeat (exact (Kd.C_below HR0.out HB.out))); (case side2 => exact HC0.out); rintro e w25 ⟨v624, rfl, ho0, hb⟩; refine ⟨_, rfl, ?_⟩; have n0_ := Aside0.mk (Kd.Q_below (by (with_reducible repeat (first | apply Kd.Q_alloc | apply Kd.Q_drewN | apply Kd.Q_drew )); exact HO_612000.out) hb); have n1_ := Aside0.mk (Kd.Q_below (by (with_reducible repeat (first | apply Kd.Q_alloc | apply Kd.Q_drewN | apply Kd.Q_drew )); exact HO_612001.out) hb); have n2_ := Aside0.mk (Kd.S_elder' (by (with_reducible repeat (first | apply Kd.S_alloc | apply Kd.S_drewN | apply Kd.S_drew )); exact HO_612002.out) (Kd.R_base ho0) hb); have n3_ := Aside0.mk (Kd.R_lower ho0 (below_size (by repeat ((with_reducible exact HB.out))))); have n4_ := Aside0.mk (blk_below (g := gb611) (o := .cells #[u612000, u612001, u612002, .int .i64 x612003_1] 43 (0, 0)) (by (with_reducible repeat (first | refine blk_drewN ?_ _ | refine blk_drew ?_ | refine blk_alloc ?_ _ )); exact BK611.out) hb); have n5_ := Aside0.mk (below_step (by repeat ((with_reducible exact HB.out))) hb); clear HO_612000; clear HO_612001; clear HO_612002; clear BK611; clear HB; have HO_612000 := n0_; have HO_612001 := n1_; have HO_612002 := n2_; have HO625 := n3_; have BK611 := n4_; have HB := n5_; clear n0_ n1_ n2_ n3_ n4_ n5_; (try clear hb); (try clear hb2); (try clear hk); (try clear hi); (try clear ho0); obtain ⟨Ao26, co26, eo26⟩ := Kd.R_slice HO625.out; subst eo26; have p626 : 0 ≤ (0 : Int) := (by omega); have q626 : 0 < (t623.length : Int) := of_decide_eq_true (by (with_reducible assumption)); obtain ⟨ad626, e626, hx626_0⟩ := Kd.at_int (Kd.R_reads' HO625.out).2.2 0 p626 q626; cases e626; have qi626 : (0 < t623.length) = True := eq_true (by omega); (try rw [show ((0 : Int)).toNat = 0 from rfl] at hx626_0); (try rw [Addr.add_zero'] at hx626_0); replace p626 := eq_true p626; replace q626 := eq_true q626))
            go_loopg [6] k1 (fun kq v6 w' => ∃ (x6_2 : Int) (x612000_2 : List ByteArray) (x612001_2 : List ByteArray) (x612002_2 : List (List Int)) (x612003_2 : Int) (u612000 : Value) (u612001 : Value) (u612002 : Value), v6 = .int .i64 x6_2 ∧ Aside0 (laws_FnOften.l1 kq (rd t623 0) x6_2 x612000_2 x612001_2 x612002_2 x612003_2 = some r) ∧ Aside0 (kq ≤ k1) ∧ Aside0 (Kd.Q Kd.string 9 w' w.heap.size (fun k_ => some k_ ≠ (u612001 : Value).ownBlock) u612000 x612000_2) ∧ Aside0 (Kd.Q Kd.string 9 w' w.heap.size (fun k_ => some k_ ≠ (u612000 : Value).ownBlock) u612001 x612001_2) ∧ Aside0 (Kd.S (Kd.slice 3 (Kd.int .i64)) 58 w' w.heap.size (fun _ => True) u612002 x612002_2) ∧ Aside0 (w'.heap[gb611]? = some (.cells #[u612000, u612001, u612002, .int .i64 x612003_2] 43 (0, 0))) ∧ Aside0 (Below w.heap.size w w'))
            case atStart => exact ⟨(0), (x612000_1), (x612001_1), (x612002_1), (x612003_1), (u612000), (u612001), (u612002), (by rfl), H', ⟨Nat.le_refl _⟩, ⟨by (with_reducible repeat (first | apply Kd.Q_alloc | apply Kd.Q_drewN | apply Kd.Q_drew )); exact HO_612000.out⟩, ⟨by (with_reducible repeat (first | apply Kd.Q_alloc | apply Kd.Q_drewN | apply Kd.Q_drew )); exact HO_612001.out⟩, ⟨by (with_reducible repeat (first | apply Kd.S_alloc | apply Kd.S_drewN | apply Kd.S_drew )); exact Kd.S_mono HO_612002.out (fun _ hk => trivial)⟩, ⟨by (with_reducible repeat (first | refine blk_drewN ?_ _ | refine blk_drew ?_ | refine blk_alloc ?_ _ )); exact BK611.out⟩, ⟨by repeat ((with_reducible exact HB.out))⟩⟩
            case round =>
              clear H'
              clear c12b0
              clear c24b0
              clear c24b1
              clear hx626_0
              clear p626
              clear q626
              obtain ⟨x6_2, x612000_2, x612001_2, x612002_2, x612003_2, u612000, u612001, u612002, rfl, HA, HK2, HO_612000, HO_612001, HO_612002, BK611, HB⟩ := hrel
              cases gk with
              | zero => exact absurd HA.out (by simp [laws_FnOften.l1])
              | succ k2 =>
                have H := HA.out
                clear HA
                simp only [laws_FnOften.l1] at H
                by_cases c27 : x6_2 < 12
                · rw [if_pos c27] at H
                  have c27b0 : decide (x6_2 < 12) = true := decide_eq_true c27
                  clear c27
                  replace H := Option.bind_eq_some_iff.mp H
                  obtain ⟨t627, A280, H⟩ := H
                  replace H : (if 5 + t627.size ≤ 9223372036854775807 then ((impl_PolicyTouch.f k2 x612000_2 x612001_2 x612002_2 x612003_2 ((⟨#[47, 111, 110, 99, 101]⟩ : ByteArray) ++ t627)).bind fun bt628 => ((impl_PolicyTouch.f k2 bt628.1 bt628.2.1 bt628.2.2.1 bt628.2.2.2.1 (⟨#[47, 111, 102, 116, 101, 110]⟩ : ByteArray)).bind fun bt639 => (laws_FnOften.l1 k2 (rd t623 0) (wrap64 (x6_2 + 1)) bt639.1 bt639.2.1 bt639.2.2.1 bt639.2.2.2.1))) else (none)) = some r := H
                  have A28 := Aside0.mk A280
                  clear A280
                  by_cases c29 : 5 + t627.size ≤ 9223372036854775807
                  · rw [if_pos c29] at H
                    have c29b0 := eq_true c29
                    have c29b1 : decide (5 + t627.size ≤ 9223372036854775807) = true := decide_eq_true c29
                    have c29b2 : (9223372036854775807 < 5 + t627.size) = False := eq_false (Nat.not_lt.2 c29)
                    replace H := Option.bind_eq_some_iff.mp H
                    obtain ⟨⟨t628, t631, t634, t637, t638⟩, A300, H⟩ := H
                    replace H : ((impl_PolicyTouch.f k2 t628 t631 t634 t637 (⟨#[47, 111, 102, 116, 101, 110]⟩ : ByteArray)).bind fun bt639 => (laws_FnOften.l1 k2 (rd t623 0) (wrap64 (x6_2 + 1)) bt639.1 bt639.2.1 bt639.2.2.1 bt639.2.2.2.1)) = some r := H
                    have A30 := Aside0.mk A300
                    clear A300
                    replace H := Option.bind_eq_some_iff.mp H
                    obtain ⟨⟨t639, t642, t645, t648, t649⟩, A310, H⟩ := H
                    replace H : (laws_FnOften.l1 k2 (rd t623 0) (wrap64 (x6_2 + 1)) t639 t642 t645 t648) = some r := H
                    have A31 := Aside0.mk A310
                    clear A310
                    have H' := Aside0.mk H
                    clear H
                    go_wp2
                    have n0_ := Aside0.mk (Kd.Q_drew HO_612000.out)
                    have n1_ := Aside0.mk (Kd.Q_drew HO_612001.out)
                    have n2_ := Aside0.mk (Kd.S_drew HO_612002.out)
                    have n3_ := Aside0.mk (blk_drew BK611.out)
                    have n4_ := Aside0.mk (below_drew1 HB.out)
                    clear HO_612000
                    clear HO_612001
                    clear HO_612002
                    clear BK611
                    clear HB
                    have HO_612000 := n0_
                    have HO_612001 := n1_
                    have HO_612002 := n2_
                    have BK611 := n3_
                    have HB := n4_
                    clear n0_ n1_ n2_ n3_ n4_
                    refine start_ (n := 11) (S := fun w' => w'.cell? ⟨gb611, 0, none⟩ = some (u612000) ∧ w'.cell? ⟨gb611, 1, none⟩ = some (u612001) ∧ w'.cell? ⟨gb611, 2, none⟩ = some (u612002) ∧ w'.cell? ⟨gb611, 3, none⟩ = some (.int .i64 x612003_2)) (ds := [10]) #[false, false, false, false, false, false, false, false, false, false, false] (by kernel_rfl) rfl rfl ⟨(blk_cell BK611.out 0).trans rfl, (blk_cell BK611.out 1).trans rfl, (blk_cell BK611.out 2).trans rfl, (blk_cell BK611.out 3).trans rfl⟩ (fun hHeld => ?_); refine with_tabW laws_FnOften.tab12 laws_FnOften.bits12 (fun HT_ HW_ => ?_)
                    generalize wr.drew = w32 at HO_612000 HO_612001 HO_612002 BK611 HB hHeld ⊢
                    refine pure_ (i := 1) (N := some 29) (v := ?_) (a' := ?_) #[false, true, false, false, false, false, false, false, false, false, false] rfl rfl (any_of HT_.out (by kernel_rfl)) (fun _ _ _ h => h) (Or.inl ⟨by rfl, ?_⟩) ?_ ?_
                    rotate_left
                    · intro w'
                      go_simp
                      with_reducible rfl
                    rotate_left
                    · simp only [Act.put, List.setIfInBounds_toArray, List.set_cons_zero, List.set_cons_succ, i64_w, i32_w]
                      rfl
                    refine pure_ (i := 2) (N := some 30) (v := ?_) (a' := ?_) #[false, true, true, false, false, false, false, false, false, false, false] rfl rfl (any_of HT_.out (by kernel_rfl)) (fun _ _ _ h => h) (Or.inl ⟨by rfl, ?_⟩) ?_ ?_
                    rotate_left
                    · intro w'
                      go_simp
                      with_reducible rfl
                    rotate_left
                    · simp only [Act.put, List.setIfInBounds_toArray, List.set_cons_zero, List.set_cons_succ, i64_w, i32_w]
                      rfl
                    refine pure_ (i := 3) (N := some 31) (v := ?_) (a' := ?_) #[false, true, true, true, false, false, false, false, false, false, false] rfl rfl (any_of HT_.out (by kernel_rfl)) (fun _ _ _ h => h) (Or.inl ⟨by rfl, ?_⟩) ?_ ?_
                    rotate_left
                    · intro w'
                      go_simp
                      with_reducible rfl
                    rotate_left
                    · simp only [Act.put, List.setIfInBounds_toArray, List.set_cons_zero, List.set_cons_succ, i64_w, i32_w]
                      rfl
                    refine take_ (i := 0) (N := some 28) (v := ?_) (a' := ?_) #[true, true, true, true, false, false, false, false, false, false, false] rfl rfl (take_ofW HT_.out HW_.out (by kernel_rfl)) (fun _ _ _ h => h) (Or.inl ⟨by rfl, ?_⟩) hHeld ?_ ?_
                    rotate_left
                    · rintro w' ⟨s0, s1, s2, s3⟩
                      go_simp
                      with_reducible rfl
                    rotate_left
                    · simp only [Act.put, List.setIfInBounds_toArray, List.set_cons_zero, List.set_cons_succ, i64_w, i32_w]
                      rfl
                    refine one_ (i := 4) (N := some 32) #[true, true, true, true, true, false, false, false, false, false, false] rfl rfl (one_of HT_.out (by kernel_rfl)) (by decide) (fun K hK => ?_)
                    refine goes_ Try.func47 (by kernel_rfl) rfl #[.int .i64 (wrap64 ((rd t623 0) + x6_2))] (by rfl) rfl rfl (by (try simp only [List.map_toArray, List.map_cons, List.map_nil]); rfl) ?_
                    with_reducible refine (spec_Decimal.calls k2 (wrap64 ((rd t623 0) + x6_2)) t627 _ A28.out).mono ?_
                    rintro e w33 ⟨rfl, hb⟩
                    refine ⟨_, rfl, ?_⟩
                    have n0_ := Aside0.mk (Kd.Q_below (by (with_reducible repeat (first | apply Kd.Q_alloc | apply Kd.Q_drewN | apply Kd.Q_drew )); exact HO_612000.out) hb)
                    have n1_ := Aside0.mk (Kd.Q_below (by (with_reducible repeat (first | apply Kd.Q_alloc | apply Kd.Q_drewN | apply Kd.Q_drew )); exact HO_612001.out) hb)
                    have n2_ := Aside0.mk (Kd.S_below (by (with_reducible repeat (first | apply Kd.S_alloc | apply Kd.S_drewN | apply Kd.S_drew )); exact HO_612002.out) hb)
                    have n3_ := Aside0.mk (blk_below (g := gb611) (o := .cells #[u612000, u612001, u612002, .int .i64 x612003_2] 43 (0, 0)) (by (with_reducible repeat (first | refine blk_drewN ?_ _ | refine blk_drew ?_ | refine blk_alloc ?_ _ )); exact BK611.out) hb)
                    have n4_ := Aside0.mk (below_step (by repeat ((with_reducible exact HB.out))) hb)
                    clear HO_612000
                    clear HO_612001
                    clear HO_612002
                    clear BK611
                    clear HB
                    have HO_612000 := n0_
                    have HO_612001 := n1_
                    have HO_612002 := n2_
                    have BK611 := n3_
                    have HB := n4_
                    clear n0_ n1_ n2_ n3_ n4_
                    (try clear hb)
                    (try clear hb2)
                    (try clear hk)
                    (try clear hi)
                    obtain ⟨Ao34, co34, eo34, _⟩ := Kd.Q_slice HO_612000.out
                    (subst eo34)
                    obtain ⟨Ao35, co35, eo35, _⟩ := Kd.Q_slice HO_612001.out
                    (subst eo35)
                    obtain ⟨Ao36, co36, eo36⟩ := Kd.S_slice HO_612002.out
                    (subst eo36)
                    refine hK.out _ _ ⟨(blk_cell BK611.out 0).trans rfl, (blk_cell BK611.out 1).trans rfl, (blk_cell BK611.out 2).trans rfl, (blk_cell BK611.out 3).trans rfl⟩ (fun hHeld => ?_)
                    clear hK K
                    refine norm_ (a' := ?_) ?_ ?_
                    rotate_left
                    · show Act.put _ (some 32) _ = _
                      simp only [Act.put, List.setIfInBounds_toArray, List.set_cons_zero, List.set_cons_succ, i64_w, i32_w]
                      rfl
                    refine pure_ (i := 5) (N := some 33) (v := ?_) (a' := ?_) #[true, true, true, true, true, true, false, false, false, false, false] rfl rfl (any_of HT_.out (by kernel_rfl)) (fun _ _ _ h => h) (Or.inl ⟨by rfl, ?_⟩) ?_ ?_
                    rotate_left
                    · intro w'
                      go_simp
                      with_reducible rfl
                    rotate_left
                    · simp only [Act.put, List.setIfInBounds_toArray, List.set_cons_zero, List.set_cons_succ, i64_w, i32_w]
                      rfl
                    refine one_ (i := 6) (N := some 34) #[true, true, true, true, true, true, true, false, false, false, false] rfl rfl (one_of HT_.out (by kernel_rfl)) (by decide) (fun K hK => ?_)
                    refine goes_ Try.func45 (by kernel_rfl) rfl #[.agg #[.slice Ao34 x612000_2.length co34, .slice Ao35 x612001_2.length co35, .slice Ao36 x612002_2.length co36, .int .i64 x612003_2], .string ((⟨#[47, 111, 110, 99, 101]⟩ : ByteArray) ++ t627)] (by rfl) rfl rfl (by (try simp only [List.map_toArray, List.map_cons, List.map_nil]); rfl) ?_
                    with_reducible refine (impl_PolicyTouch.calls k2 _ _ x612000_2 _ _ x612001_2 _ _ x612002_2 x612003_2 ((⟨#[47, 111, 110, 99, 101]⟩ : ByteArray) ++ t627) t628 t631 t634 t637 t638 _ ?side1 ?side2 ?side3 ?side4 ?side5 ?side6 A30.out).mono ?_
                    (case side1 => repeat (exact (Kd.Q_reads' HO_612000.out).2.2))
                    (case side2 => exact (Kd.Q_reads' HO_612000.out).2.1)
                    (case side3 => repeat (exact (Kd.Q_reads' HO_612001.out).2.2))
                    (case side4 => exact (Kd.Q_reads' HO_612001.out).2.1)
                    (case side5 => repeat (exact (Kd.S_reads' HO_612002.out).2.2))
                    (case side6 => exact (Kd.S_reads' HO_612002.out).2.1)
                    rintro e w37 ⟨v629, v632, v635, rfl, ho0, ho1, ho2, hb⟩
                    refine ⟨_, rfl, ?_⟩
                    have n0_ := Aside0.mk (Kd.Q_mono (Kd.Q_told (Kd.Q_told (Kd.Q_old (by (with_reducible repeat (first | apply Kd.Q_alloc | apply Kd.Q_drewN | apply Kd.Q_drew )); exact HO_612000.out) hb) (Kd.Q_base ho0)) (Kd.Q_base ho1)) (fun _ h_ => h_.1))
                    have n1_ := Aside0.mk (Kd.Q_mono (Kd.Q_told (Kd.Q_told (Kd.Q_old (by (with_reducible repeat (first | apply Kd.Q_alloc | apply Kd.Q_drewN | apply Kd.Q_drew )); exact HO_612001.out) hb) (Kd.Q_base ho0)) (Kd.Q_base ho1)) (fun _ h_ => h_.1))
                    have n2_ := Aside0.mk (Kd.S_elder' (by (with_reducible repeat (first | apply Kd.S_alloc | apply Kd.S_drewN | apply Kd.S_drew )); exact HO_612002.out) (Kd.S_base ho2) hb)
                    have n3_ := Aside0.mk (Kd.Q_lower (Kd.Q_new' (Kd.Q_new' ho0 (Kd.Q_lt (by (with_reducible repeat (first | apply Kd.Q_alloc | apply Kd.Q_drewN | apply Kd.Q_drew )); exact HO_612000.out))) (Kd.Q_lt (by (with_reducible repeat (first | apply Kd.Q_alloc | apply Kd.Q_drewN | apply Kd.Q_drew )); exact HO_612001.out))) (below_size (by repeat ((with_reducible exact HB.out)))))
                    have n4_ := Aside0.mk (Kd.Q_lower (Kd.Q_new' (Kd.Q_new' ho1 (Kd.Q_lt (by (with_reducible repeat (first | apply Kd.Q_alloc | apply Kd.Q_drewN | apply Kd.Q_drew )); exact HO_612000.out))) (Kd.Q_lt (by (with_reducible repeat (first | apply Kd.Q_alloc | apply Kd.Q_drewN | apply Kd.Q_drew )); exact HO_612001.out))) (below_size (by repeat ((with_reducible exact HB.out)))))
                    have n5_ := Aside0.mk (Kd.S_lower (Kd.S_new' ho2 (Kd.S_lt (by (with_reducible repeat (first | apply Kd.S_alloc | apply Kd.S_drewN | apply Kd.S_drew )); exact HO_612002.out))) (below_size (by repeat ((with_reducible exact HB.out)))))
                    have n6_ := Aside0.mk (blk_below (g := gb611) (o := .cells #[.slice Ao34 x612000_2.length co34, .slice Ao35 x612001_2.length co35, .slice Ao36 x612002_2.length co36, .int .i64 x612003_2] 43 (0, 0)) (by (with_reducible repeat (first | refine blk_drewN ?_ _ | refine blk_drew ?_ | refine blk_alloc ?_ _ )); exact BK611.out) hb)
                    have n7_ := Aside0.mk (below_step (by repeat ((with_reducible exact HB.out))) hb)
                    clear HO_612000
                    clear HO_612001
                    clear HO_612002
                    clear BK611
                    clear HB
                    have HO_612000 := n0_
                    have HO_612001 := n1_
                    have HO_612002 := n2_
                    have HO630 := n3_
                    have HO633 := n4_
                    have HO636 := n5_
                    have BK611 := n6_
                    have HB := n7_
                    clear n0_ n1_ n2_ n3_ n4_ n5_ n6_ n7_
                    (try clear hb)
                    (try clear hb2)
                    (try clear hk)
                    (try clear hi)
                    (try clear ho0)
                    (try clear ho1)
                    (try clear ho2)
                    obtain ⟨Ao38, co38, eo38, _⟩ := Kd.Q_slice HO630.out
                    (subst eo38)
                    obtain ⟨Ao40, co40, eo40, _⟩ := Kd.Q_slice HO633.out
                    (subst eo40)
                    obtain ⟨Ao42, co42, eo42⟩ := Kd.S_slice HO636.out
                    (subst eo42)
                    refine hK.out _ _ ⟨(blk_cell BK611.out 0).trans rfl, (blk_cell BK611.out 1).trans rfl, (blk_cell BK611.out 2).trans rfl, (blk_cell BK611.out 3).trans rfl⟩ (fun hHeld => ?_)
                    clear hK K
                    refine norm_ (a' := ?_) ?_ ?_
                    rotate_left
                    · show Act.put _ (some 34) _ = _
                      simp only [Act.put, List.setIfInBounds_toArray, List.set_cons_zero, List.set_cons_succ, i64_w, i32_w]
                      rfl
                    refine pure_ (i := 7) (N := some 27) (v := ?_) (a' := ?_) #[true, true, true, true, true, true, true, true, false, false, false] rfl rfl (any_of HT_.out (by kernel_rfl)) (fun _ _ _ h => h) (Or.inl ⟨by rfl, ?_⟩) ?_ ?_
                    rotate_left
                    · intro w'
                      go_simp
                      with_reducible rfl
                    rotate_left
                    · simp only [Act.put, List.setIfInBounds_toArray, List.set_cons_zero, List.set_cons_succ, i64_w, i32_w]
                      rfl
                    refine pure_ (i := 8) (N := some 35) (v := ?_) (a' := ?_) #[true, true, true, true, true, true, true, true, true, false, false] rfl rfl (any_of HT_.out (by kernel_rfl)) (fun _ _ _ h => h) (Or.inl ⟨by rfl, ?_⟩) ?_ ?_
                    rotate_left
                    · intro w'
                      go_simp
                      with_reducible rfl
                    rotate_left
                    · simp only [Act.put, List.setIfInBounds_toArray, List.set_cons_zero, List.set_cons_succ, i64_w, i32_w]
                      rfl
                    refine pure_ (i := 9) (N := some 36) (v := ?_) (a' := ?_) #[true, true, true, true, true, true, true, true, true, true, false] rfl rfl (any_of HT_.out (by kernel_rfl)) (fun _ _ _ h => h) (Or.inl ⟨by rfl, ?_⟩) ?_ ?_
                    rotate_left
                    · intro w'
                      go_simp
                      with_reducible rfl
                    rotate_left
                    · simp only [Act.put, List.setIfInBounds_toArray, List.set_cons_zero, List.set_cons_succ, i64_w, i32_w]
                      rfl
                    refine last_ (i := 10) (N := none) #[true, true, true, true, true, true, true, true, true, true, true] rfl rfl (one_of HT_.out (by kernel_rfl)) (by decide) (fun K hK => ?_)
                    have hs39 : w37.cell? ⟨gb611, 0, none⟩ = some (.slice Ao34 x612000_2.length co34) := (blk_cell BK611.out 0).trans rfl
                    have hfs39 := blk_frozen BK611.out 0
                    have hs41 : w37.cell? ⟨gb611, 1, none⟩ = some (.slice Ao35 x612001_2.length co35) := (blk_cell BK611.out 1).trans rfl
                    have hfs41 := blk_frozen BK611.out 1
                    have hs43 : w37.cell? ⟨gb611, 2, none⟩ = some (.slice Ao36 x612002_2.length co36) := (blk_cell BK611.out 2).trans rfl
                    have hfs43 := blk_frozen BK611.out 2
                    have hs44 : w37.cell? ⟨gb611, 3, none⟩ = some (.int .i64 x612003_2) := (blk_cell BK611.out 3).trans rfl
                    have hfs44 := blk_frozen BK611.out 3
                    refine skip_ (w1 := ?_) (by rfl) rfl ?_ ?_
                    rotate_left
                    · go_simp
                      rfl
                    refine hK.out _ _ ?_
                    clear hK K
                    refine done_ (done_of HT_.out (by kernel_rfl)) ?_
                    have hcz45_0 : w37.cell? ⟨gb611, 0, none⟩ = some (.slice Ao34 x612000_2.length co34) := (blk_cell BK611.out 0).trans rfl
                    have hcz45_1 : w37.cell? ⟨gb611, 1, none⟩ = some (.slice Ao35 x612001_2.length co35) := (blk_cell BK611.out 1).trans rfl
                    have hcz45_2 : w37.cell? ⟨gb611, 2, none⟩ = some (.slice Ao36 x612002_2.length co36) := (blk_cell BK611.out 2).trans rfl
                    have hcz45_3 : w37.cell? ⟨gb611, 3, none⟩ = some (.int .i64 x612003_2) := (blk_cell BK611.out 3).trans rfl
                    have hfz45_0 := blk_frozen BK611.out 0
                    have hfz45_1 := blk_frozen BK611.out 1
                    have hfz45_2 := blk_frozen BK611.out 2
                    have hfz45_3 := blk_frozen BK611.out 3
                    go_wp2_with (((with_reducible refine gate_callee (f := 45) rfl ?_); refine goesL_ (some 39) rfl rfl Try.func45 (by kernel_rfl) rfl #[.agg #[.slice Ao38 t628.length co38, .slice Ao40 t631.length co40, .slice Ao42 t634.length co42, .int .i64 t637], .string (⟨#[47, 111, 102, 116, 101, 110]⟩ : ByteArray)] rfl (by (try simp only [List.map_toArray, List.map_cons, List.map_nil]); rfl) ?_; (with_reducible refine (impl_PolicyTouch.calls k2 _ _ t628 _ _ t631 _ _ t634 t637 (⟨#[47, 111, 102, 116, 101, 110]⟩ : ByteArray) t639 t642 t645 t648 t649 _ ?side1 ?side2 ?side3 ?side4 ?side5 ?side6 A31.out).mono ?_); (case side1 => refine (Kd.Q_reads' (e := 9) (base := w.heap.size) (ok := fun k_ => ((some k_ ≠ (.slice Ao40 t631.length co40 : Value).ownBlock ∧ some k_ ≠ (.slice Ao34 x612000_2.length co34 : Value).ownBlock) ∧ some k_ ≠ (.slice Ao35 x612001_2.length co35 : Value).ownBlock)) (n := t628.length) (c := co38) ?_).2.2; exact (by (with_reducible repeat (first | apply Kd.Q_alloc | apply Kd.Q_drewN | apply Kd.Q_drew )); exact (Kd.Q_mono (Kd.Q_far (p := ⟨gb611, 3, none⟩) (Kd.Q_far (p := ⟨gb611, 2, none⟩) (Kd.Q_far (p := ⟨gb611, 1, none⟩) (Kd.Q_far (p := ⟨gb611, 0, none⟩) (Kd.Q_types HO630.out BK611.out (by decide)) (fun _ hk => hk.2) (.slice Ao38 t628.length co38)) (fun _ hk => hk.2) (.slice Ao40 t631.length co40)) (fun _ hk => hk.2) (.slice Ao42 t634.length co42)) (fun _ hk => hk.2) (.int .i64 t637)) (fun _ h_ => by exact h_.1)))); (case side2 => exact (Kd.Q_reads' HO630.out).2.1); (case side3 => refine (Kd.Q_reads' (e := 9) (base := w.heap.size) (ok := fun k_ => ((some k_ ≠ (.slice Ao38 t628.length co38 : Value).ownBlock ∧ some k_ ≠ (.slice Ao34 x612000_2.length co34 : Value).ownBlock) ∧ some k_ ≠ (.slice Ao35 x612001_2.length co35 : Value).ownBlock)) (n := t631.length) (c := co40) ?_).2.2; exact (by (with_reducible repeat (first | apply Kd.Q_alloc | apply Kd.Q_drewN | apply Kd.Q_drew )); exact (Kd.Q_mono (Kd.Q_far (p := ⟨gb611, 3, none⟩) (Kd.Q_far (p := ⟨gb611, 2, none⟩) (Kd.Q_far (p := ⟨gb611, 1, none⟩) (Kd.Q_far (p := ⟨gb611, 0, none⟩) (Kd.Q_types HO633.out BK611.out (by decide)) (fun _ hk => hk.2) (.slice Ao38 t628.length co38)) (fun _ hk => hk.2) (.slice Ao40 t631.length co40)) (fun _ hk => hk.2) (.slice Ao42 t634.length co42)) (fun _ hk => hk.2) (.int .i64 t637)) (fun _ h_ => by exact h_.1)))); (case side4 => exact (Kd.Q_reads' HO633.out).2.1); (case side5 => refine (Kd.S_reads' (e := 58) (base := w.heap.size) (ok := fun k_ => (True ∧ some k_ ≠ (.slice Ao36 x612002_2.length co36 : Value).ownBlock)) (n := t634.length) (c := co42) ?_).2.2; exact (by (with_reducible repeat (first | apply Kd.S_alloc | apply Kd.S_drewN | apply Kd.S_drew )); exact (Kd.S_mono (Kd.S_far (p := ⟨gb611, 3, none⟩) (Kd.S_far (p := ⟨gb611, 2, none⟩) (Kd.S_far (p := ⟨gb611, 1, none⟩) (Kd.S_far (p := ⟨gb611, 0, none⟩) (Kd.S_types HO636.out BK611.out (by decide)) (fun _ hk => hk.2) (.slice Ao38 t628.length co38)) (fun _ hk => hk.2) (.slice Ao40 t631.length co40)) (fun _ hk => hk.2) (.slice Ao42 t634.length co42)) (fun _ hk => hk.2) (.int .i64 t637)) (fun _ h_ => by exact h_.1)))); (case side6 => exact (Kd.S_reads' HO636.out).2.1); rintro e w46 ⟨v640, v643, v646, rfl, ho0, ho1, ho2, hb⟩; refine ⟨_, rfl, ?_⟩; have n0_ := Aside0.mk (Kd.Q_mono (Kd.Q_told (Kd.Q_told (Kd.Q_old (by (with_reducible repeat (first | apply Kd.Q_alloc | apply Kd.Q_drewN | apply Kd.Q_drew )); exact (Kd.Q_mono (Kd.Q_far (p := ⟨gb611, 3, none⟩) (Kd.Q_far (p := ⟨gb611, 2, none⟩) (Kd.Q_far (p := ⟨gb611, 1, none⟩) (Kd.Q_far (p := ⟨gb611, 0, none⟩) (Kd.Q_types HO_612000.out BK611.out (by decide)) (fun _ hk => hk.2) (.slice Ao38 t628.length co38)) (fun _ hk => hk.2) (.slice Ao40 t631.length co40)) (fun _ hk => hk.2) (.slice Ao42 t634.length co42)) (fun _ hk => hk.2) (.int .i64 t637)) (fun _ h_ => by exact h_.1))) hb) (Kd.Q_base ho0)) (Kd.Q_base ho1)) (fun _ h_ => h_.1)); have n1_ := Aside0.mk (Kd.Q_mono (Kd.Q_told (Kd.Q_told (Kd.Q_old (by (with_reducible repeat (first | apply Kd.Q_alloc | apply Kd.Q_drewN | apply Kd.Q_drew )); exact (Kd.Q_mono (Kd.Q_far (p := ⟨gb611, 3, none⟩) (Kd.Q_far (p := ⟨gb611, 2, none⟩) (Kd.Q_far (p := ⟨gb611, 1, none⟩) (Kd.Q_far (p := ⟨gb611, 0, none⟩) (Kd.Q_types HO_612001.out BK611.out (by decide)) (fun _ hk => hk.2) (.slice Ao38 t628.length co38)) (fun _ hk => hk.2) (.slice Ao40 t631.length co40)) (fun _ hk => hk.2) (.slice Ao42 t634.length co42)) (fun _ hk => hk.2) (.int .i64 t637)) (fun _ h_ => by exact h_.1))) hb) (Kd.Q_base ho0)) (Kd.Q_base ho1)) (fun _ h_ => h_.1)); have n2_ := Aside0.mk (Kd.S_elder' (by (with_reducible repeat (first | apply Kd.S_alloc | apply Kd.S_drewN | apply Kd.S_drew )); exact (Kd.S_mono (Kd.S_far (p := ⟨gb611, 3, none⟩) (Kd.S_far (p := ⟨gb611, 2, none⟩) (Kd.S_far (p := ⟨gb611, 1, none⟩) (Kd.S_far (p := ⟨gb611, 0, none⟩) (Kd.S_types HO_612002.out BK611.out (by decide)) (fun _ hk => hk.2) (.slice Ao38 t628.length co38)) (fun _ hk => hk.2) (.slice Ao40 t631.length co40)) (fun _ hk => hk.2) (.slice Ao42 t634.length co42)) (fun _ hk => hk.2) (.int .i64 t637)) (fun _ h_ => by exact h_.1))) (Kd.S_base ho2) hb); have n3_ := Aside0.mk (Kd.Q_mono (Kd.Q_told (Kd.Q_told (Kd.Q_old (by (with_reducible repeat (first | apply Kd.Q_alloc | apply Kd.Q_drewN | apply Kd.Q_drew )); exact (Kd.Q_mono (Kd.Q_far (p := ⟨gb611, 3, none⟩) (Kd.Q_far (p := ⟨gb611, 2, none⟩) (Kd.Q_far (p := ⟨gb611, 1, none⟩) (Kd.Q_far (p := ⟨gb611, 0, none⟩) (Kd.Q_types HO630.out BK611.out (by decide)) (fun _ hk => hk.2) (.slice Ao38 t628.length co38)) (fun _ hk => hk.2) (.slice Ao40 t631.length co40)) (fun _ hk => hk.2) (.slice Ao42 t634.length co42)) (fun _ hk => hk.2) (.int .i64 t637)) (fun _ h_ => by exact h_.1))) hb) (Kd.Q_base ho0)) (Kd.Q_base ho1)) (fun _ h_ => h_.1)); have n4_ := Aside0.mk (Kd.Q_mono (Kd.Q_told (Kd.Q_told (Kd.Q_old (by (with_reducible repeat (first | apply Kd.Q_alloc | apply Kd.Q_drewN | apply Kd.Q_drew )); exact (Kd.Q_mono (Kd.Q_far (p := ⟨gb611, 3, none⟩) (Kd.Q_far (p := ⟨gb611, 2, none⟩) (Kd.Q_far (p := ⟨gb611, 1, none⟩) (Kd.Q_far (p := ⟨gb611, 0, none⟩) (Kd.Q_types HO633.out BK611.out (by decide)) (fun _ hk => hk.2) (.slice Ao38 t628.length co38)) (fun _ hk => hk.2) (.slice Ao40 t631.length co40)) (fun _ hk => hk.2) (.slice Ao42 t634.length co42)) (fun _ hk => hk.2) (.int .i64 t637)) (fun _ h_ => by exact h_.1))) hb) (Kd.Q_base ho0)) (Kd.Q_base ho1)) (fun _ h_ => h_.1)); have n5_ := Aside0.mk (Kd.S_elder' (by (with_reducible repeat (first | apply Kd.S_alloc | apply Kd.S_drewN | apply Kd.S_drew )); exact (Kd.S_mono (Kd.S_far (p := ⟨gb611, 3, none⟩) (Kd.S_far (p := ⟨gb611, 2, none⟩) (Kd.S_far (p := ⟨gb611, 1, none⟩) (Kd.S_far (p := ⟨gb611, 0, none⟩) (Kd.S_types HO636.out BK611.out (by decide)) (fun _ hk => hk.2) (.slice Ao38 t628.length co38)) (fun _ hk => hk.2) (.slice Ao40 t631.length co40)) (fun _ hk => hk.2) (.slice Ao42 t634.length co42)) (fun _ hk => hk.2) (.int .i64 t637)) (fun _ h_ => by exact h_.1))) (Kd.S_base ho2) hb); have n6_ := Aside0.mk (Kd.Q_lower (Kd.Q_new' (Kd.Q_new' (Kd.Q_new' (Kd.Q_new' ho0 (Kd.Q_lt (by (with_reducible repeat (first | apply Kd.Q_alloc | apply Kd.Q_drewN | apply Kd.Q_drew )); exact (Kd.Q_mono (Kd.Q_far (p := ⟨gb611, 3, none⟩) (Kd.Q_far (p := ⟨gb611, 2, none⟩) (Kd.Q_far (p := ⟨gb611, 1, none⟩) (Kd.Q_far (p := ⟨gb611, 0, none⟩) (Kd.Q_types HO_612000.out BK611.out (by decide)) (fun _ hk => hk.2) (.slice Ao38 t628.length co38)) (fun _ hk => hk.2) (.slice Ao40 t631.length co40)) (fun _ hk => hk.2) (.slice Ao42 t634.length co42)) (fun _ hk => hk.2) (.int .i64 t637)) (fun _ h_ => by exact h_.1))))) (Kd.Q_lt (by (with_reducible repeat (first | apply Kd.Q_alloc | apply Kd.Q_drewN | apply Kd.Q_drew )); exact (Kd.Q_mono (Kd.Q_far (p := ⟨gb611, 3, none⟩) (Kd.Q_far (p := ⟨gb611, 2, none⟩) (Kd.Q_far (p := ⟨gb611, 1, none⟩) (Kd.Q_far (p := ⟨gb611, 0, none⟩) (Kd.Q_types HO_612001.out BK611.out (by decide)) (fun _ hk => hk.2) (.slice Ao38 t628.length co38)) (fun _ hk => hk.2) (.slice Ao40 t631.length co40)) (fun _ hk => hk.2) (.slice Ao42 t634.length co42)) (fun _ hk => hk.2) (.int .i64 t637)) (fun _ h_ => by exact h_.1))))) (Kd.Q_lt (by (with_reducible repeat (first | apply Kd.Q_alloc | apply Kd.Q_drewN | apply Kd.Q_drew )); exact (Kd.Q_mono (Kd.Q_far (p := ⟨gb611, 3, none⟩) (Kd.Q_far (p := ⟨gb611, 2, none⟩) (Kd.Q_far (p := ⟨gb611, 1, none⟩) (Kd.Q_far (p := ⟨gb611, 0, none⟩) (Kd.Q_types HO630.out BK611.out (by decide)) (fun _ hk => hk.2) (.slice Ao38 t628.length co38)) (fun _ hk => hk.2) (.slice Ao40 t631.length co40)) (fun _ hk => hk.2) (.slice Ao42 t634.length co42)) (fun _ hk => hk.2) (.int .i64 t637)) (fun _ h_ => by exact h_.1))))) (Kd.Q_lt (by (with_reducible repeat (first | apply Kd.Q_alloc | apply Kd.Q_drewN | apply Kd.Q_drew )); exact (Kd.Q_mono (Kd.Q_far (p := ⟨gb611, 3, none⟩) (Kd.Q_far (p := ⟨gb611, 2, none⟩) (Kd.Q_far (p := ⟨gb611, 1, none⟩) (Kd.Q_far (p := ⟨gb611, 0, none⟩) (Kd.Q_types HO633.out BK611.out (by decide)) (fun _ hk => hk.2) (.slice Ao38 t628.length co38)) (fun _ hk => hk.2) (.slice Ao40 t631.length co40)) (fun _ hk => hk.2) (.slice Ao42 t634.length co42)) (fun _ hk => hk.2) (.int .i64 t637)) (fun _ h_ => by exact h_.1))))) (below_size (by repeat ((with_reducible first | exact HB.out | refine below_set ?_ GE611.out))))); have n7_ := Aside0.mk (Kd.Q_lower (Kd.Q_new' (Kd.Q_new' (Kd.Q_new' (Kd.Q_new' ho1 (Kd.Q_lt (by (with_reducible repeat (first | apply Kd.Q_alloc | apply Kd.Q_drewN | apply Kd.Q_drew )); exact (Kd.Q_mono (Kd.Q_far (p := ⟨gb611, 3, none⟩) (Kd.Q_far (p := ⟨gb611, 2, none⟩) (Kd.Q_far (p := ⟨gb611, 1, none⟩) (Kd.Q_far (p := ⟨gb611, 0, none⟩) (Kd.Q_types HO_612000.out BK611.out (by decide)) (fun _ hk => hk.2) (.slice Ao38 t628.length co38)) (fun _ hk => hk.2) (.slice Ao40 t631.length co40)) (fun _ hk => hk.2) (.slice Ao42 t634.length co42)) (fun _ hk => hk.2) (.int .i64 t637)) (fun _ h_ => by exact h_.1))))) (Kd.Q_lt (by (with_reducible repeat (first | apply Kd.Q_alloc | apply Kd.Q_drewN | apply Kd.Q_drew )); exact (Kd.Q_mono (Kd.Q_far (p := ⟨gb611, 3, none⟩) (Kd.Q_far (p := ⟨gb611, 2, none⟩) (Kd.Q_far (p := ⟨gb611, 1, none⟩) (Kd.Q_far (p := ⟨gb611, 0, none⟩) (Kd.Q_types HO_612001.out BK611.out (by decide)) (fun _ hk => hk.2) (.slice Ao38 t628.length co38)) (fun _ hk => hk.2) (.slice Ao40 t631.length co40)) (fun _ hk => hk.2) (.slice Ao42 t634.length co42)) (fun _ hk => hk.2) (.int .i64 t637)) (fun _ h_ => by exact h_.1))))) (Kd.Q_lt (by (with_reducible repeat (first | apply Kd.Q_alloc | apply Kd.Q_drewN | apply Kd.Q_drew )); exact (Kd.Q_mono (Kd.Q_far (p := ⟨gb611, 3, none⟩) (Kd.Q_far (p := ⟨gb611, 2, none⟩) (Kd.Q_far (p := ⟨gb611, 1, none⟩) (Kd.Q_far (p := ⟨gb611, 0, none⟩) (Kd.Q_types HO630.out BK611.out (by decide)) (fun _ hk => hk.2) (.slice Ao38 t628.length co38)) (fun _ hk => hk.2) (.slice Ao40 t631.length co40)) (fun _ hk => hk.2) (.slice Ao42 t634.length co42)) (fun _ hk => hk.2) (.int .i64 t637)) (fun _ h_ => by exact h_.1))))) (Kd.Q_lt (by (with_reducible repeat (first | apply Kd.Q_alloc | apply Kd.Q_drewN | apply Kd.Q_drew )); exact (Kd.Q_mono (Kd.Q_far (p := ⟨gb611, 3, none⟩) (Kd.Q_far (p := ⟨gb611, 2, none⟩) (Kd.Q_far (p := ⟨gb611, 1, none⟩) (Kd.Q_far (p := ⟨gb611, 0, none⟩) (Kd.Q_types HO633.out BK611.out (by decide)) (fun _ hk => hk.2) (.slice Ao38 t628.length co38)) (fun _ hk => hk.2) (.slice Ao40 t631.length co40)) (fun _ hk => hk.2) (.slice Ao42 t634.length co42)) (fun _ hk => hk.2) (.int .i64 t637)) (fun _ h_ => by exact h_.1))))) (below_size (by repeat ((with_reducible first | exact HB.out | refine below_set ?_ GE611.out))))); have n8_ := Aside0.mk (Kd.S_lower (Kd.S_new' (Kd.S_new' ho2 (Kd.S_lt (by (with_reducible repeat (first | apply Kd.S_alloc | apply Kd.S_drewN | apply Kd.S_drew )); exact (Kd.S_mono (Kd.S_far (p := ⟨gb611, 3, none⟩) (Kd.S_far (p := ⟨gb611, 2, none⟩) (Kd.S_far (p := ⟨gb611, 1, none⟩) (Kd.S_far (p := ⟨gb611, 0, none⟩) (Kd.S_types HO_612002.out BK611.out (by decide)) (fun _ hk => hk.2) (.slice Ao38 t628.length co38)) (fun _ hk => hk.2) (.slice Ao40 t631.length co40)) (fun _ hk => hk.2) (.slice Ao42 t634.length co42)) (fun _ hk => hk.2) (.int .i64 t637)) (fun _ h_ => by exact h_.1))))) (Kd.S_lt (by (with_reducible repeat (first | apply Kd.S_alloc | apply Kd.S_drewN | apply Kd.S_drew )); exact (Kd.S_mono (Kd.S_far (p := ⟨gb611, 3, none⟩) (Kd.S_far (p := ⟨gb611, 2, none⟩) (Kd.S_far (p := ⟨gb611, 1, none⟩) (Kd.S_far (p := ⟨gb611, 0, none⟩) (Kd.S_types HO636.out BK611.out (by decide)) (fun _ hk => hk.2) (.slice Ao38 t628.length co38)) (fun _ hk => hk.2) (.slice Ao40 t631.length co40)) (fun _ hk => hk.2) (.slice Ao42 t634.length co42)) (fun _ hk => hk.2) (.int .i64 t637)) (fun _ h_ => by exact h_.1))))) (below_size (by repeat ((with_reducible first | exact HB.out | refine below_set ?_ GE611.out))))); have n9_ := Aside0.mk (blk_below (g := gb611) (o := .cells #[.slice Ao38 t628.length co38, .slice Ao40 t631.length co40, .slice Ao42 t634.length co42, .int .i64 t637] 43 (0, 0)) (by (with_reducible repeat (first | refine blk_drewN ?_ _ | refine blk_drew ?_ | refine blk_alloc ?_ _ )); refine blk_put (cs := #[.slice Ao38 t628.length co38, .slice Ao40 t631.length co40, .slice Ao42 t634.length co42, .int .i64 x612003_2]) ?_ 3 _ rfl; (with_reducible repeat (first | refine blk_drewN ?_ _ | refine blk_drew ?_ | refine blk_alloc ?_ _ )); refine blk_put (cs := #[.slice Ao38 t628.length co38, .slice Ao40 t631.length co40, .slice Ao36 x612002_2.length co36, .int .i64 x612003_2]) ?_ 2 _ rfl; (with_reducible repeat (first | refine blk_drewN ?_ _ | refine blk_drew ?_ | refine blk_alloc ?_ _ )); refine blk_put (cs := #[.slice Ao38 t628.length co38, .slice Ao35 x612001_2.length co35, .slice Ao36 x612002_2.length co36, .int .i64 x612003_2]) ?_ 1 _ rfl; (with_reducible repeat (first | refine blk_drewN ?_ _ | refine blk_drew ?_ | refine blk_alloc ?_ _ )); refine blk_put (cs := #[.slice Ao34 x612000_2.length co34, .slice Ao35 x612001_2.length co35, .slice Ao36 x612002_2.length co36, .int .i64 x612003_2]) ?_ 0 _ rfl; (with_reducible repeat (first | refine blk_drewN ?_ _ | refine blk_drew ?_ | refine blk_alloc ?_ _ )); exact BK611.out) hb); have n10_ := Aside0.mk (below_step (by repeat ((with_reducible first | exact HB.out | refine below_set ?_ GE611.out))) hb); clear HO_612000; clear HO_612001; clear HO_612002; clear HO630; clear HO633; clear HO636; clear BK611; clear HB; have HO_612000 := n0_; have HO_612001 := n1_; have HO_612002 := n2_; have HO630 := n3_; have HO633 := n4_; have HO636 := n5_; have HO641 := n6_; have HO644 := n7_; have HO647 := n8_; have BK611 := n9_; have HB := n10_; clear n0_ n1_ n2_ n3_ n4_ n5_ n6_ n7_ n8_ n9_ n10_; (try clear hb); (try clear hb2); (try clear hk); (try clear hi); (try clear ho0); (try clear ho1); (try clear ho2); obtain ⟨Ao47, co47, eo47, _⟩ := Kd.Q_slice HO641.out; subst eo47; have hcz48_0 : w46.cell? ⟨gb611, 0, none⟩ = some (.slice Ao38 t628.length co38) := (blk_cell BK611.out 0).trans rfl; have hcz48_1 : w46.cell? ⟨gb611, 1, none⟩ = some (.slice Ao40 t631.length co40) := (blk_cell BK611.out 1).trans rfl; have hcz48_2 : w46.cell? ⟨gb611, 2, none⟩ = some (.slice Ao42 t634.length co42) := (blk_cell BK611.out 2).trans rfl; have hcz48_3 : w46.cell? ⟨gb611, 3, none⟩ = some (.int .i64 t637) := (blk_cell BK611.out 3).trans rfl; have hfz48_0 := blk_frozen BK611.out 0; have hfz48_1 := blk_frozen BK611.out 1; have hfz48_2 := blk_frozen BK611.out 2; have hfz48_3 := blk_frozen BK611.out 3; obtain ⟨Ao49, co49, eo49, _⟩ := Kd.Q_slice HO644.out; subst eo49; obtain ⟨Ao50, co50, eo50⟩ := Kd.S_slice HO647.out; subst eo50))
                    go_roundg k2
                    case measure => have := HK1.out; have := HK2.out; omega
                    case rel => exact ⟨(wrap64 (x6_2 + 1)), (t639), (t642), (t645), (t648), (.slice Ao47 t639.length co47), (.slice Ao49 t642.length co49), (.slice Ao50 t645.length co50), (by rfl), H', ⟨by have := HK1.out; have := HK2.out; omega⟩, ⟨by (with_reducible repeat (first | apply Kd.Q_alloc | apply Kd.Q_drewN | apply Kd.Q_drew )); exact Kd.Q_mono (Kd.Q_far (p := ⟨gb611, 3, none⟩) (Kd.Q_far (p := ⟨gb611, 2, none⟩) (Kd.Q_far (p := ⟨gb611, 1, none⟩) (Kd.Q_far (p := ⟨gb611, 0, none⟩) (Kd.Q_types HO641.out BK611.out (by decide)) (fun _ hk => hk.2) (.slice Ao47 t639.length co47)) (fun _ hk => hk.2) (.slice Ao49 t642.length co49)) (fun _ hk => hk.2) (.slice Ao50 t645.length co50)) (fun _ hk => hk.2) (.int .i64 t648)) (fun _ hk => hk.1.1.1.1.1)⟩, ⟨by (with_reducible repeat (first | apply Kd.Q_alloc | apply Kd.Q_drewN | apply Kd.Q_drew )); exact Kd.Q_mono (Kd.Q_far (p := ⟨gb611, 3, none⟩) (Kd.Q_far (p := ⟨gb611, 2, none⟩) (Kd.Q_far (p := ⟨gb611, 1, none⟩) (Kd.Q_far (p := ⟨gb611, 0, none⟩) (Kd.Q_types HO644.out BK611.out (by decide)) (fun _ hk => hk.2) (.slice Ao47 t639.length co47)) (fun _ hk => hk.2) (.slice Ao49 t642.length co49)) (fun _ hk => hk.2) (.slice Ao50 t645.length co50)) (fun _ hk => hk.2) (.int .i64 t648)) (fun _ hk => hk.1.1.1.1.1)⟩, ⟨by (with_reducible repeat (first | apply Kd.S_alloc | apply Kd.S_drewN | apply Kd.S_drew )); exact Kd.S_mono (Kd.S_far (p := ⟨gb611, 3, none⟩) (Kd.S_far (p := ⟨gb611, 2, none⟩) (Kd.S_far (p := ⟨gb611, 1, none⟩) (Kd.S_far (p := ⟨gb611, 0, none⟩) (Kd.S_types HO647.out BK611.out (by decide)) (fun _ hk => hk.2) (.slice Ao47 t639.length co47)) (fun _ hk => hk.2) (.slice Ao49 t642.length co49)) (fun _ hk => hk.2) (.slice Ao50 t645.length co50)) (fun _ hk => hk.2) (.int .i64 t648)) (fun _ hk => trivial)⟩, ⟨by (with_reducible repeat (first | refine blk_drewN ?_ _ | refine blk_drew ?_ | refine blk_alloc ?_ _ )); refine blk_put (cs := #[.slice Ao47 t639.length co47, .slice Ao49 t642.length co49, .slice Ao50 t645.length co50, .int .i64 t637]) ?_ 3 _ rfl; (with_reducible repeat (first | refine blk_drewN ?_ _ | refine blk_drew ?_ | refine blk_alloc ?_ _ )); refine blk_put (cs := #[.slice Ao47 t639.length co47, .slice Ao49 t642.length co49, .slice Ao42 t634.length co42, .int .i64 t637]) ?_ 2 _ rfl; (with_reducible repeat (first | refine blk_drewN ?_ _ | refine blk_drew ?_ | refine blk_alloc ?_ _ )); refine blk_put (cs := #[.slice Ao47 t639.length co47, .slice Ao40 t631.length co40, .slice Ao42 t634.length co42, .int .i64 t637]) ?_ 1 _ rfl; (with_reducible repeat (first | refine blk_drewN ?_ _ | refine blk_drew ?_ | refine blk_alloc ?_ _ )); refine blk_put (cs := #[.slice Ao38 t628.length co38, .slice Ao40 t631.length co40, .slice Ao42 t634.length co42, .int .i64 t637]) ?_ 0 _ rfl; (with_reducible repeat (first | refine blk_drewN ?_ _ | refine blk_drew ?_ | refine blk_alloc ?_ _ )); exact BK611.out⟩, ⟨by repeat ((with_reducible first | exact HB.out | refine below_set ?_ GE611.out))⟩⟩
                  · rw [if_neg c29] at H
                    exact absurd H (by simp)
                · rw [if_neg c27] at H
                  have c27b0 : decide (x6_2 < 12) = false := decide_eq_false c27
                  clear c27
                  replace H := Option.bind_eq_some_iff.mp H
                  obtain ⟨t650, A510, H⟩ := H
                  replace H : (if t650 = true then ((impl_PolicyOk.f k2 x612000_2 x612001_2 x612002_2 x612003_2).bind fun t651 => (if t651 = true then ((impl_SketchGuess.f k2 x612002_2 x612003_2 (⟨#[47, 111, 102, 116, 101, 110]⟩ : ByteArray)).bind fun t652 => (if t652 = 15 then (some ((x612001_2.length : Int) == 4)) else (none))) else (none))) else (none)) = some r := H
                  have A51 := Aside0.mk A510
                  clear A510
                  by_cases c52 : t650 = true
                  · subst c52
                    have H1 : ((impl_PolicyOk.f k2 x612000_2 x612001_2 x612002_2 x612003_2).bind fun t651 => (if t651 = true then ((impl_SketchGuess.f k2 x612002_2 x612003_2 (⟨#[47, 111, 102, 116, 101, 110]⟩ : ByteArray)).bind fun t652 => (if t652 = 15 then (some ((x612001_2.length : Int) == 4)) else (none))) else (none))) = some r := by rw [if_pos rfl] at H; exact H
                    clear H
                    have H := H1
                    clear H1
                    replace H := Option.bind_eq_some_iff.mp H
                    obtain ⟨t651, A530, H⟩ := H
                    replace H : (if t651 = true then ((impl_SketchGuess.f k2 x612002_2 x612003_2 (⟨#[47, 111, 102, 116, 101, 110]⟩ : ByteArray)).bind fun t652 => (if t652 = 15 then (some ((x612001_2.length : Int) == 4)) else (none))) else (none)) = some r := H
                    have A53 := Aside0.mk A530
                    clear A530
                    by_cases c54 : t651 = true
                    · subst c54
                      have H1 : ((impl_SketchGuess.f k2 x612002_2 x612003_2 (⟨#[47, 111, 102, 116, 101, 110]⟩ : ByteArray)).bind fun t652 => (if t652 = 15 then (some ((x612001_2.length : Int) == 4)) else (none))) = some r := by rw [if_pos rfl] at H; exact H
                      clear H
                      have H := H1
                      clear H1
                      replace H := Option.bind_eq_some_iff.mp H
                      obtain ⟨t652, A550, H⟩ := H
                      replace H : (if t652 = 15 then (some ((x612001_2.length : Int) == 4)) else (none)) = some r := H
                      have A55 := Aside0.mk A550
                      clear A550
                      by_cases c56 : t652 = 15
                      · rw [if_pos c56] at H
                        have c56b0 : (t652 == 15) = true := beq_iff_eq.mpr c56
                        have c56b1 : (t652 != 15) = false := bne_eq_false_iff_eq.mpr c56
                        clear c56
                        obtain rfl := Option.some.inj H
                        have hcz57_0 : wr.cell? ⟨gb611, 0, none⟩ = some (u612000) := (blk_cell BK611.out 0).trans rfl
                        have hcz57_1 : wr.cell? ⟨gb611, 1, none⟩ = some (u612001) := (blk_cell BK611.out 1).trans rfl
                        have hcz57_2 : wr.cell? ⟨gb611, 2, none⟩ = some (u612002) := (blk_cell BK611.out 2).trans rfl
                        have hcz57_3 : wr.cell? ⟨gb611, 3, none⟩ = some (.int .i64 x612003_2) := (blk_cell BK611.out 3).trans rfl
                        have hfz57_0 := blk_frozen BK611.out 0
                        have hfz57_1 := blk_frozen BK611.out 1
                        have hfz57_2 := blk_frozen BK611.out 2
                        have hfz57_3 := blk_frozen BK611.out 3
                        obtain ⟨Ao58, co58, eo58, _⟩ := Kd.Q_slice HO_612000.out
                        subst eo58
                        obtain ⟨Ao59, co59, eo59, _⟩ := Kd.Q_slice HO_612001.out
                        subst eo59
                        obtain ⟨Ao60, co60, eo60⟩ := Kd.S_slice HO_612002.out
                        subst eo60
                        go_wp2_with (first | ((with_reducible refine gate_callee (f := 41) rfl ?_); refine goesL_ (some 43) rfl rfl Try.func41 (by kernel_rfl) rfl #[.agg #[.slice Ao58 x612000_2.length co58, .slice Ao59 x612001_2.length co59, .slice Ao60 x612002_2.length co60, .int .i64 x612003_2], .string (⟨#[47, 111, 102, 116, 101, 110]⟩ : ByteArray)] rfl (by (try simp only [List.map_toArray, List.map_cons, List.map_nil]); rfl) ?_; (with_reducible refine (impl_PolicyHas.calls k2 _ _ x612000_2 _ _ x612001_2 _ _ x612002_2 x612003_2 (⟨#[47, 111, 102, 116, 101, 110]⟩ : ByteArray) true _ ?side1 ?side2 ?side3 ?side4 ?side5 ?side6 A51.out).mono ?_); (case side1 => repeat (exact (Kd.Q_reads' HO_612000.out).2.2)); (case side2 => exact (Kd.Q_reads' HO_612000.out).2.1); (case side3 => repeat (exact (Kd.Q_reads' HO_612001.out).2.2)); (case side4 => exact (Kd.Q_reads' HO_612001.out).2.1); (case side5 => repeat (exact (Kd.S_reads' HO_612002.out).2.2)); (case side6 => exact (Kd.S_reads' HO_612002.out).2.1); rintro e w61 ⟨rfl, hb⟩; refine ⟨_, rfl, ?_⟩; have n0_ := Aside0.mk (Kd.Q_below (by (with_reducible repeat (first | apply Kd.Q_alloc | apply Kd.Q_drewN | apply Kd.Q_drew )); exact HO_612000.out) hb); have n1_ := Aside0.mk (Kd.Q_below (by (with_reducible repeat (first | apply Kd.Q_alloc | apply Kd.Q_drewN | apply Kd.Q_drew )); exact HO_612001.out) hb); have n2_ := Aside0.mk (Kd.S_below (by (with_reducible repeat (first | apply Kd.S_alloc | apply Kd.S_drewN | apply Kd.S_drew )); exact HO_612002.out) hb); have n3_ := Aside0.mk (blk_below (g := gb611) (o := .cells #[.slice Ao58 x612000_2.length co58, .slice Ao59 x612001_2.length co59, .slice Ao60 x612002_2.length co60, .int .i64 x612003_2] 43 (0, 0)) (by (with_reducible repeat (first | refine blk_drewN ?_ _ | refine blk_drew ?_ | refine blk_alloc ?_ _ )); exact BK611.out) hb); have n4_ := Aside0.mk (below_step (by repeat ((with_reducible exact HB.out))) hb); clear HO_612000; clear HO_612001; clear HO_612002; clear BK611; clear HB; have HO_612000 := n0_; have HO_612001 := n1_; have HO_612002 := n2_; have BK611 := n3_; have HB := n4_; clear n0_ n1_ n2_ n3_ n4_; (try clear hb); (try clear hb2); (try clear hk); (try clear hi); have hcz62_0 : w61.cell? ⟨gb611, 0, none⟩ = some (.slice Ao58 x612000_2.length co58) := (blk_cell BK611.out 0).trans rfl; have hcz62_1 : w61.cell? ⟨gb611, 1, none⟩ = some (.slice Ao59 x612001_2.length co59) := (blk_cell BK611.out 1).trans rfl; have hcz62_2 : w61.cell? ⟨gb611, 2, none⟩ = some (.slice Ao60 x612002_2.length co60) := (blk_cell BK611.out 2).trans rfl; have hcz62_3 : w61.cell? ⟨gb611, 3, none⟩ = some (.int .i64 x612003_2) := (blk_cell BK611.out 3).trans rfl; have hfz62_0 := blk_frozen BK611.out 0; have hfz62_1 := blk_frozen BK611.out 1; have hfz62_2 := blk_frozen BK611.out 2; have hfz62_3 := blk_frozen BK611.out 3) | (go_at_call 43; (with_reducible refine (impl_PolicyOk.calls k2 _ _ x612000_2 _ _ x612001_2 _ _ x612002_2 x612003_2 true _ ?side1 ?side2 ?side3 ?side4 ?side5 ?side6 A53.out).mono ?_); (case side1 => repeat (exact (Kd.Q_reads' HO_612000.out).2.2)); (case side2 => exact (Kd.Q_reads' HO_612000.out).2.1); (case side3 => repeat (exact (Kd.Q_reads' HO_612001.out).2.2)); (case side4 => exact (Kd.Q_reads' HO_612001.out).2.1); (case side5 => repeat (exact (Kd.S_reads' HO_612002.out).2.2)); (case side6 => exact (Kd.S_reads' HO_612002.out).2.1); rintro e w63 ⟨rfl, hb⟩; have n0_ := Aside0.mk (Kd.Q_below (by (with_reducible repeat (first | apply Kd.Q_alloc | apply Kd.Q_drewN | apply Kd.Q_drew )); exact HO_612000.out) hb); have n1_ := Aside0.mk (Kd.Q_below (by (with_reducible repeat (first | apply Kd.Q_alloc | apply Kd.Q_drewN | apply Kd.Q_drew )); exact HO_612001.out) hb); have n2_ := Aside0.mk (Kd.S_below (by (with_reducible repeat (first | apply Kd.S_alloc | apply Kd.S_drewN | apply Kd.S_drew )); exact HO_612002.out) hb); have n3_ := Aside0.mk (blk_below (g := gb611) (o := .cells #[.slice Ao58 x612000_2.length co58, .slice Ao59 x612001_2.length co59, .slice Ao60 x612002_2.length co60, .int .i64 x612003_2] 43 (0, 0)) (by (with_reducible repeat (first | refine blk_drewN ?_ _ | refine blk_drew ?_ | refine blk_alloc ?_ _ )); exact BK611.out) hb); have n4_ := Aside0.mk (below_step (by repeat ((with_reducible exact HB.out))) hb); clear HO_612000; clear HO_612001; clear HO_612002; clear BK611; clear HB; have HO_612000 := n0_; have HO_612001 := n1_; have HO_612002 := n2_; have BK611 := n3_; have HB := n4_; clear n0_ n1_ n2_ n3_ n4_; (try clear hb); (try clear hb2); (try clear hk); (try clear hi); have hcz64_0 : w63.cell? ⟨gb611, 0, none⟩ = some (.slice Ao58 x612000_2.length co58) := (blk_cell BK611.out 0).trans rfl; have hcz64_1 : w63.cell? ⟨gb611, 1, none⟩ = some (.slice Ao59 x612001_2.length co59) := (blk_cell BK611.out 1).trans rfl; have hcz64_2 : w63.cell? ⟨gb611, 2, none⟩ = some (.slice Ao60 x612002_2.length co60) := (blk_cell BK611.out 2).trans rfl; have hcz64_3 : w63.cell? ⟨gb611, 3, none⟩ = some (.int .i64 x612003_2) := (blk_cell BK611.out 3).trans rfl; have hfz64_0 := blk_frozen BK611.out 0; have hfz64_1 := blk_frozen BK611.out 1; have hfz64_2 := blk_frozen BK611.out 2; have hfz64_3 := blk_frozen BK611.out 3) | (go_at_call 31; (with_reducible refine (impl_SketchGuess.calls k2 _ _ x612002_2 x612003_2 (⟨#[47, 111, 102, 116, 101, 110]⟩ : ByteArray) t652 _ ?side1 ?side2 A55.out).mono ?_); (case side1 => repeat (exact (Kd.S_reads' HO_612002.out).2.2)); (case side2 => exact (Kd.S_reads' HO_612002.out).2.1); rintro e w65 ⟨rfl, hb⟩; have n0_ := Aside0.mk (Kd.Q_below (by (with_reducible repeat (first | apply Kd.Q_alloc | apply Kd.Q_drewN | apply Kd.Q_drew )); exact HO_612000.out) hb); have n1_ := Aside0.mk (Kd.Q_below (by (with_reducible repeat (first | apply Kd.Q_alloc | apply Kd.Q_drewN | apply Kd.Q_drew )); exact HO_612001.out) hb); have n2_ := Aside0.mk (Kd.S_below (by (with_reducible repeat (first | apply Kd.S_alloc | apply Kd.S_drewN | apply Kd.S_drew )); exact HO_612002.out) hb); have n3_ := Aside0.mk (blk_below (g := gb611) (o := .cells #[.slice Ao58 x612000_2.length co58, .slice Ao59 x612001_2.length co59, .slice Ao60 x612002_2.length co60, .int .i64 x612003_2] 43 (0, 0)) (by (with_reducible repeat (first | refine blk_drewN ?_ _ | refine blk_drew ?_ | refine blk_alloc ?_ _ )); exact BK611.out) hb); have n4_ := Aside0.mk (below_step (by repeat ((with_reducible exact HB.out))) hb); clear HO_612000; clear HO_612001; clear HO_612002; clear BK611; clear HB; have HO_612000 := n0_; have HO_612001 := n1_; have HO_612002 := n2_; have BK611 := n3_; have HB := n4_; clear n0_ n1_ n2_ n3_ n4_; (try clear hb); (try clear hb2); (try clear hk); (try clear hi); have hcz66_0 : w65.cell? ⟨gb611, 0, none⟩ = some (.slice Ao58 x612000_2.length co58) := (blk_cell BK611.out 0).trans rfl; have hcz66_1 : w65.cell? ⟨gb611, 1, none⟩ = some (.slice Ao59 x612001_2.length co59) := (blk_cell BK611.out 1).trans rfl; have hcz66_2 : w65.cell? ⟨gb611, 2, none⟩ = some (.slice Ao60 x612002_2.length co60) := (blk_cell BK611.out 2).trans rfl; have hcz66_3 : w65.cell? ⟨gb611, 3, none⟩ = some (.int .i64 x612003_2) := (blk_cell BK611.out 3).trans rfl; have hfz66_0 := blk_frozen BK611.out 0; have hfz66_1 := blk_frozen BK611.out 1; have hfz66_2 := blk_frozen BK611.out 2; have hfz66_3 := blk_frozen BK611.out 3))
                        go_ret
                        exact ⟨by rfl, by repeat ((with_reducible exact HB.out))⟩
                      · rw [if_neg c56] at H
                        exact absurd H (by simp)
                    · replace c54 := Bool.eq_false_iff.mpr c54
                      subst c54
                      have H1 : (none) = some r := by rw [if_neg (show ¬ (false = true) by decide)] at H; exact H
                      clear H
                      have H := H1
                      clear H1
                      exact absurd H (by simp)
                  · replace c52 := Bool.eq_false_iff.mpr c52
                    subst c52
                    have H1 : (none) = some r := by rw [if_neg (show ¬ (false = true) by decide)] at H; exact H
                    clear H
                    have H := H1
                    clear H1
                    exact absurd H (by simp)
          · rw [if_neg c24] at H
            exact absurd H (by simp)
end Go.Proofs.Ytoopdknphikgkaa.Q
