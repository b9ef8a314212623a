import Derived.Test.YthjigecaojaalaaBtB0
import Derived.Test.YthjigecaojaalaaBtWApart
import Derived.Test.YthjigecaojaalaaBtWKept
import Derived.Test.YthjigecaojaalaaBtWLast
import Derived.Test.YthjigecaojaalaaBtWMore
import Derived.Test.YthjigecaojaalaaBtWRepsOne
import Derived.Test.YthjigecaojaalaaBtWShare
import Derived.Test.YthjigecaojaalaaBtWWords
namespace Go.Proofs.Ythjigecaojaalaa.Q
open Go.RowKit Go.Proofs.YthjigecaojaalaaW.PrintWords Go.Proofs.YthjigecaojaalaaW.PrintLast Go.Proofs.YthjigecaojaalaaW.PrintMore
attribute [local go_sem] max2_int min2_int max_two min_two max_three min_three max_four min_four   -- for this text's walks alone
set_option linter.unusedVariables false
set_option linter.unusedSimpArgs false
mutual
def spec_l11Value.j0 : Nat → Int → Bool → Option (Int)
  | 0, _, _ => none
  | k + 1, x0, x3 => if x3 = true then (some (wrap64 ((wrap64 (x0)) - 48))) else (if x0 ≥ 97 then (spec_l11Value.j1 k x0 (decide (x0 ≤ 102))) else (spec_l11Value.j1 k x0 false))
def spec_l11Value.j1 : Nat → Int → Bool → Option (Int)
  | 0, _, _ => none
  | k + 1, x0, x13 => if x13 = true then (some (wrap64 ((wrap64 (x0)) - 87))) else (if x0 ≥ 65 then (if x0 ≤ 70 then (some (wrap64 ((wrap64 (x0)) - 55))) else (some (-1))) else (some (-1)))
end
def spec_l11Value.f (k : Nat) (a0 : Int) : Option (Int) := if a0 ≥ 48 then (spec_l11Value.j0 k a0 (decide (a0 ≤ 57))) else (spec_l11Value.j0 k a0 false)
set_option maxHeartbeats 8000000 in
set_option maxRecDepth 100000 in
theorem spec_l11Value.calls (k : Nat) (a0 : Int) (r : Int) (w : World) (h : spec_l11Value.f k a0 = some r) :
    Calls Try.prog 56 #[.int .u8 a0] w fun e w' => e = .returned (.int .i64 r) ∧ Drawn0 w w' := by
  have H : (if a0 ≥ 48 then (spec_l11Value.j0 k a0 (decide (a0 ≤ 57))) else (spec_l11Value.j0 k a0 false)) = some r := h
  clear h
  have HC2 := Aside0.mk H
  clear H
  go_enter Try.func56, Try.ntmps56
  go_upto_region 1 with (fail)
  go_cut [3] (fun v3 wc => ∃ (kq : Nat) (x3_1 : Bool), v3 = .bool x3_1 ∧ Aside0 (spec_l11Value.j0 kq a0 x3_1 = some r) ∧ Aside0 (kq ≤ k) ∧ Drawn0 w wc)
  case first =>
    have H := HC2.out
    clear HC2
    by_cases c3 : a0 ≥ 48
    · rw [if_pos c3] at H
      have c3b0 : decide (48 ≤ a0) = true := decide_eq_true c3
      clear c3
      (skip)
      have H' := Aside0.mk H
      clear H
      go_wp2
      go_meet
      case rel => exact ⟨_, (decide (a0 ≤ 57)), (by rfl), H', ⟨by omega⟩, by repeat (exact Drawn0.refl _)⟩
    · rw [if_neg c3] at H
      have c3b0 : decide (48 ≤ a0) = false := decide_eq_false c3
      clear c3
      (skip)
      have H' := Aside0.mk H
      clear H
      go_wp2
      go_meet
      case rel => exact ⟨_, (false), (by rfl), H', ⟨by omega⟩, by repeat (exact Drawn0.refl _)⟩
  case rest =>
    clear HC2
    obtain ⟨kq, x3_1, rfl, HA, HJ1, ⟨mc1, rfl⟩⟩ := hcut
    cases kq with
    | zero => exact absurd HA.out (by simp [spec_l11Value.j0])
    | succ kj1 =>
      have H := HA.out
      clear HA
      simp only [spec_l11Value.j0] at H
      by_cases c4 : x3_1 = true
      · subst c4
        have H1 : (some (wrap64 ((wrap64 (a0)) - 48))) = some r := by rw [if_pos rfl] at H; exact H
        clear H
        have H := H1
        clear H1
        obtain rfl := Option.some.inj H
        go_wp2
        go_ret
        exact ⟨by rfl, by repeat (first | exact Drawn0.refl _ | apply Drawn0.step)⟩
      · replace c4 := Bool.eq_false_iff.mpr c4
        subst c4
        have H1 : (if a0 ≥ 97 then (spec_l11Value.j1 kj1 a0 (decide (a0 ≤ 102))) else (spec_l11Value.j1 kj1 a0 false)) = some r := by rw [if_neg (show ¬ (false = true) by decide)] at H; exact H
        clear H
        have H := H1
        clear H1
        have HC5 := Aside0.mk H
        clear H
        go_upto_region 3 with (fail)
        go_cut [13] (fun v13 wc => ∃ (kq : Nat) (x13_4 : Bool), v13 = .bool x13_4 ∧ Aside0 (spec_l11Value.j1 kq a0 x13_4 = some r) ∧ Aside0 (kq ≤ kj1) ∧ Drawn0 w wc)
        case first =>
          have H := HC5.out
          clear HC5
          by_cases c6 : a0 ≥ 97
          · rw [if_pos c6] at H
            have c6b0 : decide (97 ≤ a0) = true := decide_eq_true c6
            clear c6
            (skip)
            have H' := Aside0.mk H
            clear H
            go_wp2
            go_meet
            case rel => exact ⟨_, (decide (a0 ≤ 102)), (by rfl), H', ⟨by have := HJ1.out; omega⟩, by repeat (first | exact Drawn0.refl _ | apply Drawn0.step)⟩
          · rw [if_neg c6] at H
            have c6b0 : decide (97 ≤ a0) = false := decide_eq_false c6
            clear c6
            (skip)
            have H' := Aside0.mk H
            clear H
            go_wp2
            go_meet
            case rel => exact ⟨_, (false), (by rfl), H', ⟨by have := HJ1.out; omega⟩, by repeat (first | exact Drawn0.refl _ | apply Drawn0.step)⟩
        case rest =>
          clear HC5
          obtain ⟨kq, x13_4, rfl, HA, HJ4, ⟨mc4, rfl⟩⟩ := hcut
          cases kq with
          | zero => exact absurd HA.out (by simp [spec_l11Value.j1])
          | succ kj4 =>
            have H := HA.out
            clear HA
            simp only [spec_l11Value.j1] at H
            by_cases c7 : x13_4 = true
            · subst c7
              have H1 : (some (wrap64 ((wrap64 (a0)) - 87))) = some r := by rw [if_pos rfl] at H; exact H
              clear H
              have H := H1
              clear H1
              obtain rfl := Option.some.inj H
              go_wp2
              go_ret
              exact ⟨by rfl, by repeat (first | exact Drawn0.refl _ | apply Drawn0.step)⟩
            · replace c7 := Bool.eq_false_iff.mpr c7
              subst c7
              have H1 : (if a0 ≥ 65 then (if a0 ≤ 70 then (some (wrap64 ((wrap64 (a0)) - 55))) else (some (-1))) else (some (-1))) = some r := by rw [if_neg (show ¬ (false = true) by decide)] at H; exact H
              clear H
              have H := H1
              clear H1
              by_cases c8 : a0 ≥ 65
              · rw [if_pos c8] at H
                have c8b0 : decide (65 ≤ a0) = true := decide_eq_true c8
                clear c8
                by_cases c9 : a0 ≤ 70
                · rw [if_pos c9] at H
                  have c9b0 : decide (a0 ≤ 70) = true := decide_eq_true c9
                  clear c9
                  obtain rfl := Option.some.inj H
                  go_wp2
                  go_ret
                  exact ⟨by rfl, by repeat (first | exact Drawn0.refl _ | apply Drawn0.step)⟩
                · rw [if_neg c9] at H
                  have c9b0 : decide (a0 ≤ 70) = false := decide_eq_false c9
                  clear c9
                  obtain rfl := Option.some.inj H
                  go_wp2
                  go_ret
                  exact ⟨by rfl, by repeat (first | exact Drawn0.refl _ | apply Drawn0.step)⟩
              · rw [if_neg c8] at H
                have c8b0 : decide (65 ≤ a0) = false := decide_eq_false c8
                clear c8
                obtain rfl := Option.some.inj H
                go_wp2
                go_ret
                exact ⟨by rfl, by repeat (first | exact Drawn0.refl _ | apply Drawn0.step)⟩
mutual
def spec_l11Size.j1 : Nat → ByteArray → Int → Int → Int → Option (Int × Int)
  | 0, _, _, _, _ => none
  | k + 1, x0, x1, x6, x7 => if x7 = (x0.size : Int) then (some (0, 0)) else (if x7 = x1 then (spec_l11Size.j2 k x0 x6 x7 true) else (if 0 ≤ x7 then (if x7 < (x0.size : Int) then (spec_l11Size.j2 k x0 x6 x7 ((bt x0 x7) != 13)) else (none)) else (none)))
def spec_l11Size.j2 : Nat → ByteArray → Int → Int → Bool → Option (Int × Int)
  | 0, _, _, _, _ => none
  | k + 1, x0, x6, x7, x47 => if x47 = true then (some (0, (-1))) else (if (wrap64 (x7 + 1)) = (x0.size : Int) then (some (0, 0)) else (if 0 ≤ (wrap64 (x7 + 1)) then (if (wrap64 (x7 + 1)) < (x0.size : Int) then (if (bt x0 (wrap64 (x7 + 1))) = 10 then (some (x6, wrap64 (x7 + 2))) else (some (0, (-1)))) else (none)) else (none)))
def spec_l11Size.l0 : Nat → ByteArray → Int → Int → Int → Option (Int × Int)
  | 0, _, _, _, _ => none
  | k + 1, x0, x1, x6, x7 => if x7 < (x0.size : Int) then (if (wrap64 (x7 - x1)) < 2 then (if 0 ≤ x7 then ((spec_l11Value.f k (bt x0 x7)).bind fun t148 => (if t148 ≥ 0 then ((spec_l11Value.f k (bt x0 x7)).bind fun t149 => (spec_l11Size.l0 k x0 x1 (wrap64 ((wrap64 (16 * x6)) + t149)) (wrap64 (x7 + 1)))) else (spec_l11Size.j1 k x0 x1 x6 x7))) else (none)) else (spec_l11Size.j1 k x0 x1 x6 x7)) else (spec_l11Size.j1 k x0 x1 x6 x7)
end
def spec_l11Size.f (k : Nat) (a0 : ByteArray) (a1 : Int) : Option (Int × Int) := spec_l11Size.l0 k a0 a1 0 a1
set_option maxHeartbeats 8000000 in
set_option maxRecDepth 100000 in
theorem spec_l11Size.calls (k : Nat) (a0 : ByteArray) (a1 : Int) (r1 : Int) (r2 : Int) (w : World) (h : spec_l11Size.f k a0 a1 = some (r1, r2)) :
    Calls Try.prog 37 #[.string a0, .int .i64 a1] w fun e w' => e = .returned (.tuple #[.int .i64 r1, .int .i64 r2]) ∧ Drawn0 w w' := by
  have H : (spec_l11Size.l0 k a0 a1 0 a1) = some (r1, r2) := h
  clear h
  have HC3 := Aside0.mk H
  clear H
  go_enter Try.func37, Try.ntmps37
  go_upto_block 0 with (fail)
  go_cut [6, 7] (fun v6 v7 wc => ∃ (kq : Nat) (x6_2 : Int) (x7_2 : Int), v6 = .int .i64 x6_2 ∧ v7 = .int .i64 x7_2 ∧ Aside0 (spec_l11Size.j1 kq a0 a1 x6_2 x7_2 = some (r1, r2)) ∧ Aside0 (kq ≤ k) ∧ Drawn0 w wc)
  case first =>
    have H := HC3.out
    clear HC3
    have H' := Aside0.mk H
    clear H
    go_wp2
    go_loopg [6, 7] k (fun kq v6 v7 w' => ∃ (x6_1 : Int) (x7_1 : Int), v6 = .int .i64 x6_1 ∧ v7 = .int .i64 x7_1 ∧ Aside0 (spec_l11Size.l0 kq a0 a1 x6_1 x7_1 = some (r1, r2)) ∧ Aside0 (kq ≤ k) ∧ Drawn0 w w')
    case atStart => exact ⟨(0), (a1), (by rfl), (by rfl), H', ⟨Nat.le_refl _⟩, by repeat (exact Drawn0.refl _)⟩
    case round =>
      clear H'
      obtain ⟨x6_1, x7_1, rfl, rfl, HA, HK1, ⟨m1, rfl⟩⟩ := hrel
      cases gk with
      | zero => exact absurd HA.out (by simp [spec_l11Size.l0])
      | succ k1 =>
        have H := HA.out
        clear HA
        simp only [spec_l11Size.l0] at H
        by_cases c4 : x7_1 < (a0.size : Int)
        · rw [if_pos c4] at H
          have c4b0 : decide (x7_1 < (a0.size : Int)) = true := decide_eq_true c4
          clear c4
          (skip)
          by_cases c5 : (wrap64 (x7_1 - a1)) < 2
          · rw [if_pos c5] at H
            have c5b0 : decide ((wrap64 (x7_1 - a1)) < 2) = true := decide_eq_true c5
            clear c5
            by_cases c6 : 0 ≤ x7_1
            · rw [if_pos c6] at H
              have c6b0 : decide (0 ≤ x7_1) = true := decide_eq_true c6
              clear c6
              replace H := Option.bind_eq_some_iff.mp H
              obtain ⟨t148, A80, H⟩ := H
              replace H : (if t148 ≥ 0 then ((spec_l11Value.f k1 (bt a0 x7_1)).bind fun t149 => (spec_l11Size.l0 k1 a0 a1 (wrap64 ((wrap64 (16 * x6_1)) + t149)) (wrap64 (x7_1 + 1)))) else (spec_l11Size.j1 k1 a0 a1 x6_1 x7_1)) = some (r1, r2) := H
              have A8 := Aside0.mk A80
              clear A80
              have HS9 := Aside0.mk H
              clear H
              have p7 : 0 ≤ (x7_1 : Int) := of_decide_eq_true (by (with_reducible assumption))
              have q7 : x7_1 < (a0.size : Int) := of_decide_eq_true (by (with_reducible assumption))
              have hx7 := bt_at a0 x7_1
              replace p7 := eq_true p7
              replace q7 := eq_true q7
              go_upto_if 25 with ((go_at_call 56; (with_reducible refine (spec_l11Value.calls k1 (bt a0 x7_1) t148 _ A8.out).mono ?_); rintro e w' ⟨rfl, ⟨nd, rfl⟩⟩))
              (try simp only [Act.put, List.setIfInBounds_toArray, List.set_cons_zero, List.set_cons_succ])
              have H := HS9.out
              clear HS9
              by_cases c10 : t148 ≥ 0
              · rw [if_pos c10] at H
                have c10b0 : decide (0 ≤ t148) = true := decide_eq_true c10
                clear c10
                (rw [c10b0])
                replace H := Option.bind_eq_some_iff.mp H
                obtain ⟨t149, A120, H⟩ := H
                replace H : (spec_l11Size.l0 k1 a0 a1 (wrap64 ((wrap64 (16 * x6_1)) + t149)) (wrap64 (x7_1 + 1))) = some (r1, r2) := H
                have A12 := Aside0.mk A120
                clear A120
                have H' := Aside0.mk H
                clear H
                have p11 : 0 ≤ (x7_1 : Int) := of_decide_eq_true (by (with_reducible assumption))
                have q11 : x7_1 < (a0.size : Int) := of_decide_eq_true (by (with_reducible assumption))
                have hx11 := bt_at a0 x7_1
                replace p11 := eq_true p11
                replace q11 := eq_true q11
                go_wp2_with (((with_reducible refine gate_callee (f := 56) rfl ?_); refine goesL_ (some 31) rfl rfl Try.func56 (by kernel_rfl) rfl #[.int .u8 (bt a0 x7_1)] rfl (by (try simp only [List.map_toArray, List.map_cons, List.map_nil]); rfl) ?_; (with_reducible refine (spec_l11Value.calls k1 (bt a0 x7_1) t149 _ A12.out).mono ?_); rintro e w' ⟨rfl, ⟨nd, rfl⟩⟩; refine ⟨_, rfl, ?_⟩))
                go_roundg k1
                case measure => have := HK1.out; omega
                case rel => exact ⟨(wrap64 ((wrap64 (16 * x6_1)) + t149)), (wrap64 (x7_1 + 1)), (by rfl), (by rfl), H', ⟨by have := HK1.out; omega⟩, by repeat (first | exact Drawn0.refl _ | apply Drawn0.step)⟩
              · rw [if_neg c10] at H
                have c10b0 : decide (0 ≤ t148) = false := decide_eq_false c10
                clear c10
                (rw [c10b0])
                have H' := Aside0.mk H
                clear H
                go_wp2
                go_meet
                case rel => exact ⟨_, (x6_1), (x7_1), (by rfl), (by rfl), H', ⟨by have := HK1.out; omega⟩, by repeat (first | exact Drawn0.refl _ | apply Drawn0.step)⟩
            · rw [if_neg c6] at H
              exact absurd H (by simp)
          · rw [if_neg c5] at H
            have c5b0 : decide ((wrap64 (x7_1 - a1)) < 2) = false := decide_eq_false c5
            clear c5
            have H' := Aside0.mk H
            clear H
            go_wp2
            go_meet
            case rel => exact ⟨_, (x6_1), (x7_1), (by rfl), (by rfl), H', ⟨by have := HK1.out; omega⟩, by repeat (first | exact Drawn0.refl _ | apply Drawn0.step)⟩
        · rw [if_neg c4] at H
          have c4b0 : decide (x7_1 < (a0.size : Int)) = false := decide_eq_false c4
          clear c4
          (skip)
          have H' := Aside0.mk H
          clear H
          go_wp2
          go_meet
          case rel => exact ⟨_, (x6_1), (x7_1), (by rfl), (by rfl), H', ⟨by have := HK1.out; omega⟩, by repeat (first | exact Drawn0.refl _ | apply Drawn0.step)⟩
  case rest =>
    clear HC3
    obtain ⟨kq, x6_2, x7_2, rfl, rfl, HA, HJ2, ⟨mc2, rfl⟩⟩ := hcut
    cases kq with
    | zero => exact absurd HA.out (by simp [spec_l11Size.j1])
    | succ kj2 =>
      have H := HA.out
      clear HA
      simp only [spec_l11Size.j1] at H
      by_cases c13 : x7_2 = (a0.size : Int)
      · rw [if_pos c13] at H
        have c13b0 : (x7_2 == (a0.size : Int)) = true := beq_iff_eq.mpr c13
        have c13b1 : (x7_2 != (a0.size : Int)) = false := bne_eq_false_iff_eq.mpr c13
        clear c13
        simp only [Option.some.injEq, Prod.mk.injEq] at H
        obtain ⟨rfl, rfl⟩ := H
        go_wp2
        go_ret2
        exact ⟨by rfl, by repeat (first | exact Drawn0.refl _ | apply Drawn0.step)⟩
      · rw [if_neg c13] at H
        have c13b0 : (x7_2 == (a0.size : Int)) = false := beq_eq_false_iff_ne.mpr c13
        have c13b1 : (x7_2 != (a0.size : Int)) = true := bne_iff_ne.mpr c13
        have HC14 := Aside0.mk H
        clear H
        go_upto_region 8 with (fail)
        go_cut [47] (fun v47 wc => ∃ (kq : Nat) (x47_13 : Bool), v47 = .bool x47_13 ∧ Aside0 (spec_l11Size.j2 kq a0 x6_2 x7_2 x47_13 = some (r1, r2)) ∧ Aside0 (kq ≤ kj2) ∧ Drawn0 w wc)
        case first =>
          have H := HC14.out
          clear HC14
          by_cases c15 : x7_2 = a1
          · rw [if_pos c15] at H
            have c15b0 : (x7_2 == a1) = true := beq_iff_eq.mpr c15
            have c15b1 : (x7_2 != a1) = false := bne_eq_false_iff_eq.mpr c15
            clear c15
            (skip)
            have H' := Aside0.mk H
            clear H
            go_wp2
            go_meet
            case rel => exact ⟨_, (true), (by rfl), H', ⟨by have := HJ2.out; omega⟩, by repeat (first | exact Drawn0.refl _ | apply Drawn0.step)⟩
          · rw [if_neg c15] at H
            have c15b0 : (x7_2 == a1) = false := beq_eq_false_iff_ne.mpr c15
            have c15b1 : (x7_2 != a1) = true := bne_iff_ne.mpr c15
            (skip)
            by_cases c16 : 0 ≤ x7_2
            · rw [if_pos c16] at H
              have c16b0 : decide (0 ≤ x7_2) = true := decide_eq_true c16
              clear c16
              by_cases c17 : x7_2 < (a0.size : Int)
              · rw [if_pos c17] at H
                have c17b0 : decide (x7_2 < (a0.size : Int)) = true := decide_eq_true c17
                clear c17
                have H' := Aside0.mk H
                clear H
                have p18 : 0 ≤ (x7_2 : Int) := of_decide_eq_true (by (with_reducible assumption))
                have q18 : x7_2 < (a0.size : Int) := of_decide_eq_true (by (with_reducible assumption))
                have hx18 := bt_at a0 x7_2
                replace p18 := eq_true p18
                replace q18 := eq_true q18
                go_wp2
                go_meet
                case rel => exact ⟨_, (((bt a0 x7_2) != 13)), (by rfl), H', ⟨by have := HJ2.out; omega⟩, by repeat (first | exact Drawn0.refl _ | apply Drawn0.step)⟩
              · rw [if_neg c17] at H
                exact absurd H (by simp)
            · rw [if_neg c16] at H
              exact absurd H (by simp)
        case rest =>
          clear HC14
          clear c13
          clear c13b0
          clear c13b1
          obtain ⟨kq, x47_13, rfl, HA, HJ13, ⟨mc13, rfl⟩⟩ := hcut
          cases kq with
          | zero => exact absurd HA.out (by simp [spec_l11Size.j2])
          | succ kj13 =>
            have H := HA.out
            clear HA
            simp only [spec_l11Size.j2] at H
            by_cases c19 : x47_13 = true
            · subst c19
              have H1 : (some (0, (-1))) = some (r1, r2) := by rw [if_pos rfl] at H; exact H
              clear H
              have H := H1
              clear H1
              simp only [Option.some.injEq, Prod.mk.injEq] at H
              obtain ⟨rfl, rfl⟩ := H
              go_wp2
              go_ret2
              exact ⟨by rfl, by repeat (first | exact Drawn0.refl _ | apply Drawn0.step)⟩
            · replace c19 := Bool.eq_false_iff.mpr c19
              subst c19
              have H1 : (if (wrap64 (x7_2 + 1)) = (a0.size : Int) then (some (0, 0)) else (if 0 ≤ (wrap64 (x7_2 + 1)) then (if (wrap64 (x7_2 + 1)) < (a0.size : Int) then (if (bt a0 (wrap64 (x7_2 + 1))) = 10 then (some (x6_2, wrap64 (x7_2 + 2))) else (some (0, (-1)))) else (none)) else (none))) = some (r1, r2) := by rw [if_neg (show ¬ (false = true) by decide)] at H; exact H
              clear H
              have H := H1
              clear H1
              by_cases c20 : (wrap64 (x7_2 + 1)) = (a0.size : Int)
              · rw [if_pos c20] at H
                have c20b0 : ((wrap64 (x7_2 + 1)) == (a0.size : Int)) = true := beq_iff_eq.mpr c20
                have c20b1 : ((wrap64 (x7_2 + 1)) != (a0.size : Int)) = false := bne_eq_false_iff_eq.mpr c20
                clear c20
                simp only [Option.some.injEq, Prod.mk.injEq] at H
                obtain ⟨rfl, rfl⟩ := H
                go_wp2
                go_ret2
                exact ⟨by rfl, by repeat (first | exact Drawn0.refl _ | apply Drawn0.step)⟩
              · rw [if_neg c20] at H
                have c20b0 : ((wrap64 (x7_2 + 1)) == (a0.size : Int)) = false := beq_eq_false_iff_ne.mpr c20
                have c20b1 : ((wrap64 (x7_2 + 1)) != (a0.size : Int)) = true := bne_iff_ne.mpr c20
                obtain ⟨ji21, hji21⟩ : ∃ j_ : Int, (wrap64 (x7_2 + 1)) = j_ := ⟨_, rfl⟩
                replace H : (if 0 ≤ (ji21) then (if (ji21) < (a0.size : Int) then (if (bt a0 (ji21)) = 10 then (some (x6_2, wrap64 (x7_2 + 2))) else (some (0, (-1)))) else (none)) else (none)) = some (r1, r2) := by (rw [hji21] at H; exact H)
                (try rw [hji21] at c20b0)
                (try rw [hji21] at c20b1)
                have hji21w : (IntKind.i64.wrap (x7_2 + 1)) = ji21 := (i64_w _).trans hji21
                by_cases c22 : 0 ≤ (ji21)
                · rw [if_pos c22] at H
                  have c22b0 : decide (0 ≤ (ji21)) = true := decide_eq_true c22
                  clear c22
                  by_cases c23 : (ji21) < (a0.size : Int)
                  · rw [if_pos c23] at H
                    have c23b0 : decide ((ji21) < (a0.size : Int)) = true := decide_eq_true c23
                    clear c23
                    by_cases c25 : (bt a0 (ji21)) = 10
                    · rw [if_pos c25] at H
                      have c25b0 : ((bt a0 (ji21)) == 10) = true := beq_iff_eq.mpr c25
                      have c25b1 : ((bt a0 (ji21)) != 10) = false := bne_eq_false_iff_eq.mpr c25
                      clear c25
                      simp only [Option.some.injEq, Prod.mk.injEq] at H
                      obtain ⟨rfl, rfl⟩ := H
                      have p24 : 0 ≤ ((ji21) : Int) := of_decide_eq_true (by (with_reducible assumption))
                      have q24 : (ji21) < (a0.size : Int) := of_decide_eq_true (by (with_reducible assumption))
                      have hx24 := bt_at a0 (ji21)
                      replace p24 := eq_true p24
                      replace q24 := eq_true q24
                      go_wp2
                      go_ret2
                      exact ⟨by rfl, by repeat (first | exact Drawn0.refl _ | apply Drawn0.step)⟩
                    · rw [if_neg c25] at H
                      have c25b0 : ((bt a0 (ji21)) == 10) = false := beq_eq_false_iff_ne.mpr c25
                      have c25b1 : ((bt a0 (ji21)) != 10) = true := bne_iff_ne.mpr c25
                      simp only [Option.some.injEq, Prod.mk.injEq] at H
                      obtain ⟨rfl, rfl⟩ := H
                      have p24 : 0 ≤ ((ji21) : Int) := of_decide_eq_true (by (with_reducible assumption))
                      have q24 : (ji21) < (a0.size : Int) := of_decide_eq_true (by (with_reducible assumption))
                      have hx24 := bt_at a0 (ji21)
                      replace p24 := eq_true p24
                      replace q24 := eq_true q24
                      go_wp2
                      go_ret2
                      exact ⟨by rfl, by repeat (first | exact Drawn0.refl _ | apply Drawn0.step)⟩
                  · rw [if_neg c23] at H
                    exact absurd H (by simp)
                · rw [if_neg c22] at H
                  exact absurd H (by simp)
def spec_l11End.l0 : Nat → ByteArray → Int → ByteArray → Int → Option (Int)
  | 0, _, _, _, _ => none
  | k + 1, x0, x1, x5, x6 => if x6 < 2 then (if (wrap64 (x1 + x6)) ≥ (x0.size : Int) then (some 0) else (if 0 ≤ (wrap64 (x1 + x6)) then (if (wrap64 (x1 + x6)) < (x0.size : Int) then (if 0 ≤ x6 then (if x6 < (x5.size : Int) then (if (bt x0 (wrap64 (x1 + x6))) = (bt x5 x6) then (spec_l11End.l0 k x0 x1 x5 (wrap64 (x6 + 1))) else (some (-1))) else (none)) else (none)) else (none)) else (none))) else (some (wrap64 (x1 + 2)))
def spec_l11End.f (k : Nat) (a0 : ByteArray) (a1 : Int) : Option (Int) := spec_l11End.l0 k a0 a1 (⟨#[13, 10]⟩ : ByteArray) 0
set_option maxHeartbeats 8000000 in
set_option maxRecDepth 100000 in
theorem spec_l11End.calls (k : Nat) (a0 : ByteArray) (a1 : Int) (r : Int) (w : World) (h : spec_l11End.f k a0 a1 = some r) :
    Calls Try.prog 38 #[.string a0, .int .i64 a1] w fun e w' => e = .returned (.int .i64 r) ∧ Drawn0 w w' := by
  have H : (spec_l11End.l0 k a0 a1 (⟨#[13, 10]⟩ : ByteArray) 0) = some r := h
  clear h
  have H' := Aside0.mk H
  clear H
  go_enter Try.func38, Try.ntmps38
  go_wp2
  go_loopg [6] k (fun kq v6 w' => ∃ (x6_1 : Int), v6 = .int .i64 x6_1 ∧ Aside0 (spec_l11End.l0 kq a0 a1 (⟨#[13, 10]⟩ : ByteArray) x6_1 = some r) ∧ Aside0 (kq ≤ k) ∧ Drawn0 w w')
  case atStart => exact ⟨(0), (by rfl), H', ⟨Nat.le_refl _⟩, by repeat (exact Drawn0.refl _)⟩
  case round =>
    clear H'
    obtain ⟨x6_1, rfl, HA, HK1, ⟨m1, rfl⟩⟩ := hrel
    cases gk with
    | zero => exact absurd HA.out (by simp [spec_l11End.l0])
    | succ k1 =>
      have H := HA.out
      clear HA
      simp only [spec_l11End.l0] at H
      by_cases c3 : x6_1 < 2
      · rw [if_pos c3] at H
        have c3b0 : decide (x6_1 < 2) = true := decide_eq_true c3
        clear c3
        by_cases c4 : (wrap64 (a1 + x6_1)) ≥ (a0.size : Int)
        · rw [if_pos c4] at H
          have c4b0 : decide ((a0.size : Int) ≤ (wrap64 (a1 + x6_1))) = true := decide_eq_true c4
          clear c4
          obtain rfl := Option.some.inj H
          go_wp2
          go_ret
          exact ⟨by rfl, by repeat (first | exact Drawn0.refl _ | apply Drawn0.step)⟩
        · rw [if_neg c4] at H
          have c4b0 : decide ((a0.size : Int) ≤ (wrap64 (a1 + x6_1))) = false := decide_eq_false c4
          clear c4
          obtain ⟨ji5, hji5⟩ : ∃ j_ : Int, (wrap64 (a1 + x6_1)) = j_ := ⟨_, rfl⟩
          replace H : (if 0 ≤ (ji5) then (if (ji5) < (a0.size : Int) then (if 0 ≤ x6_1 then (if x6_1 < ((⟨#[13, 10]⟩ : ByteArray).size : Int) then (if (bt a0 (ji5)) = (bt (⟨#[13, 10]⟩ : ByteArray) x6_1) then (spec_l11End.l0 k1 a0 a1 (⟨#[13, 10]⟩ : ByteArray) (wrap64 (x6_1 + 1))) else (some (-1))) else (none)) else (none)) else (none)) else (none)) = some r := by (rw [hji5] at H; exact H)
          (try rw [hji5] at c4b0)
          have hji5w : (IntKind.i64.wrap (a1 + x6_1)) = ji5 := (i64_w _).trans hji5
          by_cases c6 : 0 ≤ (ji5)
          · rw [if_pos c6] at H
            have c6b0 : decide (0 ≤ (ji5)) = true := decide_eq_true c6
            clear c6
            by_cases c7 : (ji5) < (a0.size : Int)
            · rw [if_pos c7] at H
              have c7b0 : decide ((ji5) < (a0.size : Int)) = true := decide_eq_true c7
              clear c7
              by_cases c9 : 0 ≤ x6_1
              · rw [if_pos c9] at H
                have c9b0 : decide (0 ≤ x6_1) = true := decide_eq_true c9
                clear c9
                by_cases c10 : x6_1 < ((⟨#[13, 10]⟩ : ByteArray).size : Int)
                · rw [if_pos c10] at H
                  have c10b0 : decide (x6_1 < ((⟨#[13, 10]⟩ : ByteArray).size : Int)) = true := decide_eq_true c10
                  clear c10
                  by_cases c12 : (bt a0 (ji5)) = (bt (⟨#[13, 10]⟩ : ByteArray) x6_1)
                  · rw [if_pos c12] at H
                    have c12b0 : ((bt a0 (ji5)) == (bt (⟨#[13, 10]⟩ : ByteArray) x6_1)) = true := beq_iff_eq.mpr c12
                    have c12b1 : ((bt a0 (ji5)) != (bt (⟨#[13, 10]⟩ : ByteArray) x6_1)) = false := bne_eq_false_iff_eq.mpr c12
                    clear c12
                    have H' := Aside0.mk H
                    clear H
                    have p8 : 0 ≤ ((ji5) : Int) := of_decide_eq_true (by (with_reducible assumption))
                    have q8 : (ji5) < (a0.size : Int) := of_decide_eq_true (by (with_reducible assumption))
                    have hx8 := bt_at a0 (ji5)
                    replace p8 := eq_true p8
                    replace q8 := eq_true q8
                    have p11 : 0 ≤ (x6_1 : Int) := of_decide_eq_true (by (with_reducible assumption))
                    have q11 : x6_1 < (2 : Int) := of_decide_eq_true (by (with_reducible assumption))
                    have hx11 := bt_at (⟨#[13, 10]⟩ : ByteArray) x6_1
                    replace p11 := eq_true p11
                    replace q11 := eq_true q11
                    go_wp2
                    repeat (go_quiet (fail); try go_wp2)
                    go_roundg k1
                    case measure => have := HK1.out; omega
                    case rel => exact ⟨(wrap64 (x6_1 + 1)), (by rfl), H', ⟨by have := HK1.out; omega⟩, by repeat (first | exact Drawn0.refl _ | apply Drawn0.step)⟩
                  · rw [if_neg c12] at H
                    have c12b0 : ((bt a0 (ji5)) == (bt (⟨#[13, 10]⟩ : ByteArray) x6_1)) = false := beq_eq_false_iff_ne.mpr c12
                    have c12b1 : ((bt a0 (ji5)) != (bt (⟨#[13, 10]⟩ : ByteArray) x6_1)) = true := bne_iff_ne.mpr c12
                    obtain rfl := Option.some.inj H
                    have p8 : 0 ≤ ((ji5) : Int) := of_decide_eq_true (by (with_reducible assumption))
                    have q8 : (ji5) < (a0.size : Int) := of_decide_eq_true (by (with_reducible assumption))
                    have hx8 := bt_at a0 (ji5)
                    replace p8 := eq_true p8
                    replace q8 := eq_true q8
                    have p11 : 0 ≤ (x6_1 : Int) := of_decide_eq_true (by (with_reducible assumption))
                    have q11 : x6_1 < (2 : Int) := of_decide_eq_true (by (with_reducible assumption))
                    have hx11 := bt_at (⟨#[13, 10]⟩ : ByteArray) x6_1
                    replace p11 := eq_true p11
                    replace q11 := eq_true q11
                    go_wp2
                    repeat (go_quiet (fail); try go_wp2)
                    go_ret
                    exact ⟨by rfl, by repeat (first | exact Drawn0.refl _ | apply Drawn0.step)⟩
                · rw [if_neg c10] at H
                  exact absurd H (by simp)
              · rw [if_neg c9] at H
                exact absurd H (by simp)
            · rw [if_neg c7] at H
              exact absurd H (by simp)
          · rw [if_neg c6] at H
            exact absurd H (by simp)
      · rw [if_neg c3] at H
        have c3b0 : decide (x6_1 < 2) = false := decide_eq_false c3
        clear c3
        obtain rfl := Option.some.inj H
        go_wp2
        go_ret
        exact ⟨by rfl, by repeat (first | exact Drawn0.refl _ | apply Drawn0.step)⟩
def spec_ReadChunks.l0 : Nat → ByteArray → ByteArray → Int → Option (ByteArray × Int × Int)
  | 0, _, _, _ => none
  | k + 1, x0, x5, x6 => (spec_l11Size.f k x0 x6).bind fun bt150 => (if bt150.2 < 0 then (some ((⟨#[]⟩ : ByteArray), 0, 2)) else (if bt150.2 = 0 then (some ((⟨#[]⟩ : ByteArray), 0, 1)) else (if (wrap64 ((x5.size : Int) + bt150.1)) > 400 then (some ((⟨#[]⟩ : ByteArray), 0, 2)) else (if bt150.1 > (wrap64 ((x0.size : Int) - bt150.2)) then (some ((⟨#[]⟩ : ByteArray), 0, 1)) else (if 0 ≤ bt150.2 then (if bt150.2 ≤ (wrap64 (bt150.2 + bt150.1)) then (if (wrap64 (bt150.2 + bt150.1)) ≤ (x0.size : Int) then (if x5.size + (x0.extract (bt150.2 : Int).toNat ((wrap64 (bt150.2 + bt150.1)) : Int).toNat).size ≤ 9223372036854775807 then ((spec_l11End.f k x0 (wrap64 (bt150.2 + bt150.1))).bind fun t152 => (if t152 < 0 then (some ((⟨#[]⟩ : ByteArray), 0, 2)) else (if t152 = 0 then (some ((⟨#[]⟩ : ByteArray), 0, 1)) else (if bt150.1 = 0 then (some (x5 ++ (x0.extract (bt150.2 : Int).toNat ((wrap64 (bt150.2 + bt150.1)) : Int).toNat), t152, 0)) else (spec_ReadChunks.l0 k x0 (x5 ++ (x0.extract (bt150.2 : Int).toNat ((wrap64 (bt150.2 + bt150.1)) : Int).toNat)) t152))))) else (none)) else (none)) else (none)) else (none))))))
def spec_ReadChunks.f (k : Nat) (a0 : ByteArray) : Option (ByteArray × Int × Int) := spec_ReadChunks.l0 k a0 (⟨#[]⟩ : ByteArray) 0
set_option maxHeartbeats 8000000 in
set_option maxRecDepth 100000 in
theorem spec_ReadChunks.calls (k : Nat) (a0 : ByteArray) (r1 : ByteArray) (r2 : Int) (r3 : Int) (w : World) (h : spec_ReadChunks.f k a0 = some (r1, r2, r3)) :
    Calls Try.prog 18 #[.string a0] w fun e w' => e = .returned (.tuple #[.string r1, .int .i64 r2, .int .i64 r3]) ∧ Drawn0 w w' := by
  have H : (spec_ReadChunks.l0 k a0 (⟨#[]⟩ : ByteArray) 0) = some (r1, r2, r3) := h
  clear h
  have H' := Aside0.mk H
  clear H
  go_enter Try.func18, Try.ntmps18
  go_wp2
  go_loopg [5, 6] k (fun kq v5 v6 w' => ∃ (x5_1 : ByteArray) (x6_1 : Int), v5 = .string x5_1 ∧ v6 = .int .i64 x6_1 ∧ Aside0 (spec_ReadChunks.l0 kq a0 x5_1 x6_1 = some (r1, r2, r3)) ∧ Aside0 (kq ≤ k) ∧ Drawn0 w w')
  case atStart => exact ⟨((⟨#[]⟩ : ByteArray)), (0), (by rfl), (by rfl), H', ⟨Nat.le_refl _⟩, by repeat (exact Drawn0.refl _)⟩
  case round =>
    clear H'
    obtain ⟨x5_1, x6_1, rfl, rfl, HA, HK1, ⟨m1, rfl⟩⟩ := hrel
    cases gk with
    | zero => exact absurd HA.out (by simp [spec_ReadChunks.l0])
    | succ k1 =>
      have H := HA.out
      clear HA
      simp only [spec_ReadChunks.l0] at H
      replace H := Option.bind_eq_some_iff.mp H
      obtain ⟨⟨t150, t151⟩, A20, H⟩ := H
      replace H : (if t151 < 0 then (some ((⟨#[]⟩ : ByteArray), 0, 2)) else (if t151 = 0 then (some ((⟨#[]⟩ : ByteArray), 0, 1)) else (if (wrap64 ((x5_1.size : Int) + t150)) > 400 then (some ((⟨#[]⟩ : ByteArray), 0, 2)) else (if t150 > (wrap64 ((a0.size : Int) - t151)) then (some ((⟨#[]⟩ : ByteArray), 0, 1)) else (if 0 ≤ t151 then (if t151 ≤ (wrap64 (t151 + t150)) then (if (wrap64 (t151 + t150)) ≤ (a0.size : Int) then (if x5_1.size + (a0.extract (t151 : Int).toNat ((wrap64 (t151 + t150)) : Int).toNat).size ≤ 9223372036854775807 then ((spec_l11End.f k1 a0 (wrap64 (t151 + t150))).bind fun t152 => (if t152 < 0 then (some ((⟨#[]⟩ : ByteArray), 0, 2)) else (if t152 = 0 then (some ((⟨#[]⟩ : ByteArray), 0, 1)) else (if t150 = 0 then (some (x5_1 ++ (a0.extract (t151 : Int).toNat ((wrap64 (t151 + t150)) : Int).toNat), t152, 0)) else (spec_ReadChunks.l0 k1 a0 (x5_1 ++ (a0.extract (t151 : Int).toNat ((wrap64 (t151 + t150)) : Int).toNat)) t152))))) else (none)) else (none)) else (none)) else (none)))))) = some (r1, r2, r3) := H
      have A2 := Aside0.mk A20
      clear A20
      have HS3 := Aside0.mk H
      clear H
      go_upto_if 16 with (((with_reducible refine gate_callee (f := 37) rfl ?_); refine goesL_ (some 12) rfl rfl Try.func37 (by kernel_rfl) rfl #[.string a0, .int .i64 x6_1] rfl (by (try simp only [List.map_toArray, List.map_cons, List.map_nil]); rfl) ?_; (with_reducible refine (spec_l11Size.calls k1 a0 x6_1 t150 t151 _ A2.out).mono ?_); rintro e w' ⟨rfl, ⟨nd, rfl⟩⟩; refine ⟨_, rfl, ?_⟩))
      (try simp only [Act.put, List.setIfInBounds_toArray, List.set_cons_zero, List.set_cons_succ])
      have H := HS3.out
      clear HS3
      by_cases c4 : t151 < 0
      · rw [if_pos c4] at H
        have c4b0 : decide (t151 < 0) = true := decide_eq_true c4
        clear c4
        (rw [c4b0])
        simp only [Option.some.injEq, Prod.mk.injEq] at H
        obtain ⟨rfl, rfl, rfl⟩ := H
        go_wp2
        go_ret3
        exact ⟨by rfl, by repeat (first | exact Drawn0.refl _ | apply Drawn0.step)⟩
      · rw [if_neg c4] at H
        have c4b0 : decide (t151 < 0) = false := decide_eq_false c4
        clear c4
        (rw [c4b0])
        by_cases c5 : t151 = 0
        · rw [if_pos c5] at H
          have c5b0 : (t151 == 0) = true := beq_iff_eq.mpr c5
          have c5b1 : (t151 != 0) = false := bne_eq_false_iff_eq.mpr c5
          clear c5
          simp only [Option.some.injEq, Prod.mk.injEq] at H
          obtain ⟨rfl, rfl, rfl⟩ := H
          go_wp2
          go_ret3
          exact ⟨by rfl, by repeat (first | exact Drawn0.refl _ | apply Drawn0.step)⟩
        · rw [if_neg c5] at H
          have c5b0 : (t151 == 0) = false := beq_eq_false_iff_ne.mpr c5
          have c5b1 : (t151 != 0) = true := bne_iff_ne.mpr c5
          by_cases c6 : (wrap64 ((x5_1.size : Int) + t150)) > 400
          · rw [if_pos c6] at H
            have c6b0 : decide (400 < (wrap64 ((x5_1.size : Int) + t150))) = true := decide_eq_true c6
            clear c6
            simp only [Option.some.injEq, Prod.mk.injEq] at H
            obtain ⟨rfl, rfl, rfl⟩ := H
            go_wp2
            go_ret3
            exact ⟨by rfl, by repeat (first | exact Drawn0.refl _ | apply Drawn0.step)⟩
          · rw [if_neg c6] at H
            have c6b0 : decide (400 < (wrap64 ((x5_1.size : Int) + t150))) = false := decide_eq_false c6
            clear c6
            by_cases c7 : t150 > (wrap64 ((a0.size : Int) - t151))
            · rw [if_pos c7] at H
              have c7b0 : decide ((wrap64 ((a0.size : Int) - t151)) < t150) = true := decide_eq_true c7
              clear c7
              simp only [Option.some.injEq, Prod.mk.injEq] at H
              obtain ⟨rfl, rfl, rfl⟩ := H
              go_wp2
              go_ret3
              exact ⟨by rfl, by repeat (first | exact Drawn0.refl _ | apply Drawn0.step)⟩
            · rw [if_neg c7] at H
              have c7b0 : decide ((wrap64 ((a0.size : Int) - t151)) < t150) = false := decide_eq_false c7
              clear c7
              by_cases c8 : 0 ≤ t151
              · rw [if_pos c8] at H
                have c8b0 := eq_true c8
                have c8b1 : decide (0 ≤ t151) = true := decide_eq_true c8
                clear c8
                by_cases c9 : t151 ≤ (wrap64 (t151 + t150))
                · rw [if_pos c9] at H
                  have c9b0 := eq_true c9
                  have c9b1 : decide (t151 ≤ (wrap64 (t151 + t150))) = true := decide_eq_true c9
                  by_cases c10 : (wrap64 (t151 + t150)) ≤ (a0.size : Int)
                  · rw [if_pos c10] at H
                    have c10b0 := eq_true c10
                    have c10b1 : decide ((wrap64 (t151 + t150)) ≤ (a0.size : Int)) = true := decide_eq_true c10
                    by_cases c11 : x5_1.size + (a0.extract (t151 : Int).toNat ((wrap64 (t151 + t150)) : Int).toNat).size ≤ 9223372036854775807
                    · rw [if_pos c11] at H
                      have c11b0 := eq_true c11
                      have c11b1 : decide (x5_1.size + (a0.extract (t151 : Int).toNat ((wrap64 (t151 + t150)) : Int).toNat).size ≤ 9223372036854775807) = true := decide_eq_true c11
                      have c11x : x5_1.size + ((a0.extract (t151 : Int).toNat ((wrap64 (t151 + t150)) : Int).toNat).size) ≤ 9223372036854775807 := by have h_ := c11; (try simp only [ByteArray.size_append] at h_); exact h_
                      have c11x0 := eq_true c11x
                      have c11x2 : (9223372036854775807 < x5_1.size + ((a0.extract (t151 : Int).toNat ((wrap64 (t151 + t150)) : Int).toNat).size)) = False := eq_false (Nat.not_lt.2 c11x)
                      have c11b2 : (9223372036854775807 < x5_1.size + (a0.extract (t151 : Int).toNat ((wrap64 (t151 + t150)) : Int).toNat).size) = False := eq_false (Nat.not_lt.2 c11)
                      replace H := Option.bind_eq_some_iff.mp H
                      obtain ⟨t152, A120, H⟩ := H
                      replace H : (if t152 < 0 then (some ((⟨#[]⟩ : ByteArray), 0, 2)) else (if t152 = 0 then (some ((⟨#[]⟩ : ByteArray), 0, 1)) else (if t150 = 0 then (some (x5_1 ++ (a0.extract (t151 : Int).toNat ((wrap64 (t151 + t150)) : Int).toNat), t152, 0)) else (spec_ReadChunks.l0 k1 a0 (x5_1 ++ (a0.extract (t151 : Int).toNat ((wrap64 (t151 + t150)) : Int).toNat)) t152)))) = some (r1, r2, r3) := H
                      have A12 := Aside0.mk A120
                      clear A120
                      have HS13 := Aside0.mk H
                      clear H
                      go_upto_if 44 with (((with_reducible refine gate_callee (f := 38) rfl ?_); refine goesL_ (some 42) rfl rfl Try.func38 (by kernel_rfl) rfl #[.string a0, .int .i64 (wrap64 (t151 + t150))] rfl (by (try simp only [List.map_toArray, List.map_cons, List.map_nil]); rfl) ?_; (with_reducible refine (spec_l11End.calls k1 a0 (wrap64 (t151 + t150)) t152 _ A12.out).mono ?_); rintro e w' ⟨rfl, ⟨nd, rfl⟩⟩; refine ⟨_, rfl, ?_⟩))
                      (try simp only [Act.put, List.setIfInBounds_toArray, List.set_cons_zero, List.set_cons_succ])
                      have H := HS13.out
                      clear HS13
                      by_cases c14 : t152 < 0
                      · rw [if_pos c14] at H
                        have c14b0 : decide (t152 < 0) = true := decide_eq_true c14
                        clear c14
                        (rw [c14b0])
                        simp only [Option.some.injEq, Prod.mk.injEq] at H
                        obtain ⟨rfl, rfl, rfl⟩ := H
                        go_wp2
                        go_ret3
                        exact ⟨by rfl, by repeat (first | exact Drawn0.refl _ | apply Drawn0.step)⟩
                      · rw [if_neg c14] at H
                        have c14b0 : decide (t152 < 0) = false := decide_eq_false c14
                        clear c14
                        (rw [c14b0])
                        by_cases c15 : t152 = 0
                        · rw [if_pos c15] at H
                          have c15b0 : (t152 == 0) = true := beq_iff_eq.mpr c15
                          have c15b1 : (t152 != 0) = false := bne_eq_false_iff_eq.mpr c15
                          clear c15
                          simp only [Option.some.injEq, Prod.mk.injEq] at H
                          obtain ⟨rfl, rfl, rfl⟩ := H
                          go_wp2
                          go_ret3
                          exact ⟨by rfl, by repeat (first | exact Drawn0.refl _ | apply Drawn0.step)⟩
                        · rw [if_neg c15] at H
                          have c15b0 : (t152 == 0) = false := beq_eq_false_iff_ne.mpr c15
                          have c15b1 : (t152 != 0) = true := bne_iff_ne.mpr c15
                          by_cases c16 : t150 = 0
                          · rw [if_pos c16] at H
                            have c16b0 : (t150 == 0) = true := beq_iff_eq.mpr c16
                            have c16b1 : (t150 != 0) = false := bne_eq_false_iff_eq.mpr c16
                            clear c16
                            simp only [Option.some.injEq, Prod.mk.injEq] at H
                            obtain ⟨rfl, rfl, rfl⟩ := H
                            go_wp2
                            go_ret3
                            exact ⟨by rfl, by repeat (first | exact Drawn0.refl _ | apply Drawn0.step)⟩
                          · rw [if_neg c16] at H
                            have c16b0 : (t150 == 0) = false := beq_eq_false_iff_ne.mpr c16
                            have c16b1 : (t150 != 0) = true := bne_iff_ne.mpr c16
                            have H' := Aside0.mk H
                            clear H
                            go_wp2
                            go_roundg k1
                            case measure => have := HK1.out; omega
                            case rel => exact ⟨(x5_1 ++ (a0.extract (t151 : Int).toNat ((wrap64 (t151 + t150)) : Int).toNat)), (t152), (by rfl), (by rfl), H', ⟨by have := HK1.out; omega⟩, by repeat (first | exact Drawn0.refl _ | apply Drawn0.step)⟩
                    · rw [if_neg c11] at H
                      exact absurd H (by simp)
                  · rw [if_neg c10] at H
                    exact absurd H (by simp)
                · rw [if_neg c9] at H
                  exact absurd H (by simp)
              · rw [if_neg c8] at H
                exact absurd H (by simp)
end Go.Proofs.Ythjigecaojaalaa.Q
