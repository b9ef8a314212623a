import Derived.Lib.SlBytesRow
import Derived.Test.YthjigecaojaalaaDoorKcB0
import Derived.Test.YthjigecaojaalaaDoorKcG29
import Derived.Test.YthjigecaojaalaaDoorKcG35
import Derived.Test.YthjigecaojaalaaDoorKcWords
namespace Go.Proofs.YthjigecaojaalaaDoor.Q
open Go.RowKit Go.Proofs.YthjigecaojaalaaDoorW.PrintWords Go.Proofs.YthjigecaojaalaaDoorW.PrintLast Go.Proofs.YthjigecaojaalaaDoorW.PrintMore
attribute [local go_sem] max2_int min2_int max_two min_two max_three min_three max_four min_four   -- for this text's walks alone
set_option linter.unusedVariables false
set_option linter.unusedSimpArgs false
def spec_l09Low.f (a0 : ByteArray) : Option ByteArray := if a0.size ≤ 9223372036854775807 then some (impl_lower.all a0) else none
theorem spec_l09Low.u8 (x : Int) (h : 65 ≤ x ∧ x ≤ 90) : IntKind.u8.wrap (x + 32) = x + 32 := by
  unfold IntKind.wrap; simp [IntKind.bits, IntKind.signed]; omega
set_option maxHeartbeats 4000000 in
set_option maxRecDepth 100000 in
theorem spec_l09Low.calls (a0 : ByteArray) (r : ByteArray) (w : World) (h : spec_l09Low.f a0 = some r) : Calls Tryd.prog 64 #[.string a0] w fun e w' => e = .returned (.string r) ∧ Below w.heap.size w w' := by
  have hs : a0.size ≤ 9223372036854775807 := by unfold spec_l09Low.f at h; split at h <;> simp_all
  have HH : Aside0 (impl_lower.all a0 = r) := ⟨by unfold spec_l09Low.f at h; rw [if_pos hs] at h; exact Option.some.inj h⟩
  clear h
  have kb := fun W => print_bytes (P := Tryd.prog) 9 31 5 Tryd.underlying9 Tryd.underlying31 Tryd.underlying5 a0 W
  go_enter Tryd.func64, Tryd.ntmps64
  go_wp2
  go_loopw [4] (fun v4 wr => ∃ x : Int, 0 ≤ x ∧ x ≤ (a0.size : Int) ∧ v4 = .int .i64 x ∧ Aside0 (impl_lower.Row wr w.heap.size 5 a0 x) ∧ Aside0 (Below w.heap.size w wr)) (fun v4 _ => a0.size - (intOf v4).toNat)
  case atStart => exact ⟨0, by omega, by omega, rfl, ⟨impl_lower.Row.start w 5 a0⟩, ⟨bytes_below (Below.refl _ _) (Nat.le_refl _) 5 a0⟩⟩
  case round =>
    obtain ⟨x, hx0, hx1, rfl, HR, HB⟩ := hrel
    clear kb
    by_cases hlt : x < (a0.size : Int)
    · have hc := HR.out.cell hx0 hlt
      have hf := HR.out.frozen hx0 hlt
      have hb0 := bt_range a0 x
      have hd1 : decide (x < (a0.size : Int)) = true := decide_eq_true hlt
      have hd2 : decide (0 ≤ x) = true := decide_eq_true hx0
      have p1 := eq_true hx0
      by_cases hin : 65 ≤ bt a0 x ∧ bt a0 x ≤ 90
      · have hi1 : decide (65 ≤ bt a0 x) = true := decide_eq_true hin.1
        have hi2 : decide (bt a0 x ≤ 90) = true := decide_eq_true hin.2
        have hw8 := spec_l09Low.u8 _ hin
        have HP := Aside0.mk (HR.out.put hx0 hlt hin)
        clear hin
        go_wp2
        go_roundw
        case rel => exact ⟨x + 1, by omega, by omega, by first | rfl | go_num, ⟨HP.out⟩, ⟨HB.out.setCell (by simp) _⟩⟩
        case measure => simp [intOf]; omega
      · have HP := Aside0.mk (HR.out.skip hx0 hlt hin)
        by_cases h65 : 65 ≤ bt a0 x
        · have hi1 : decide (65 ≤ bt a0 x) = true := decide_eq_true h65
          have hi2 : decide (bt a0 x ≤ 90) = false := decide_eq_false (fun h => hin ⟨h65, h⟩)
          clear hin
          go_wp2
          go_roundw
          case rel => exact ⟨x + 1, by omega, by omega, by first | rfl | go_num, ⟨HP.out⟩, ⟨HB.out⟩⟩
          case measure => simp [intOf]; omega
        · have hi1 : decide (65 ≤ bt a0 x) = false := decide_eq_false h65
          clear hin
          go_wp2
          go_roundw
          case rel => exact ⟨x + 1, by omega, by omega, by first | rfl | go_num, ⟨HP.out⟩, ⟨HB.out⟩⟩
          case measure => simp [intOf]; omega
    · have hd1 : decide (x < (a0.size : Int)) = false := decide_eq_false hlt
      have hcv := Lib.run_convert_whole (P := Tryd.prog) wr 31 5 9 Tryd.underlying31 Tryd.underlying5 Tryd.underlying9 w.heap.size 0 (impl_lower.all a0) (HR.out.bytes (by omega)) (grownCap w a0.size 0 5)
      rw [impl_lower.all_size] at hcv
      go_wp2
      go_ret
      exact ⟨by rw [← HH.out]; rfl, HB.out⟩
mutual
def spec_l09Trim.j1 : Nat → ByteArray → Option (ByteArray)
  | 0, _ => none
  | k + 1, x0 => spec_l09Trim.l1 k x0
def spec_l09Trim.l1 : Nat → ByteArray → Option (ByteArray)
  | 0, _ => none
  | k + 1, x0 => if (x0.size : Int) > 0 then (if 0 ≤ (wrap64 ((x0.size : Int) - 1)) then (if (wrap64 ((x0.size : Int) - 1)) < (x0.size : Int) then (if (bt x0 (wrap64 ((x0.size : Int) - 1))) = 32 then (if (wrap64 ((x0.size : Int) - 1)) ≤ (x0.size : Int) then (spec_l09Trim.l1 k (x0.extract 0 ((wrap64 ((x0.size : Int) - 1)) : Int).toNat)) else (none)) else (some x0)) else (none)) else (none)) else (some x0)
def spec_l09Trim.l0 : Nat → ByteArray → Option (ByteArray)
  | 0, _ => none
  | k + 1, x0 => if (x0.size : Int) > 0 then (if 0 < (x0.size : Int) then (if (bt x0 0) = 32 then (if 1 ≤ (x0.size : Int) then (spec_l09Trim.l0 k (x0.extract 1 x0.size)) else (none)) else (spec_l09Trim.j1 k x0)) else (none)) else (spec_l09Trim.j1 k x0)
end
def spec_l09Trim.f (k : Nat) (a0 : ByteArray) : Option (ByteArray) := spec_l09Trim.l0 k a0
set_option maxHeartbeats 8000000 in
set_option maxRecDepth 100000 in
theorem spec_l09Trim.calls (k : Nat) (a0 : ByteArray) (r : ByteArray) (w : World) (h : spec_l09Trim.f k a0 = some r) :
    Calls Tryd.prog 65 #[.string a0] w fun e w' => e = .returned (.string r) ∧ Drawn0 w w' := by
  have H : (spec_l09Trim.l0 k a0) = some r := h
  clear h
  have HC2 := Aside0.mk H
  clear H
  go_enter Tryd.func65, Tryd.ntmps65
  go_upto_block 0 with (fail)
  go_cut [0] (fun v0 wc => ∃ (kq : Nat) (x0_1 : ByteArray), v0 = .string x0_1 ∧ Aside0 (spec_l09Trim.j1 kq x0_1 = some r) ∧ Aside0 (kq ≤ k) ∧ Drawn0 w wc)
  case first =>
    have H := HC2.out
    clear HC2
    have H' := Aside0.mk H
    clear H
    go_wp2
    go_loopg [0] k (fun kq v0 w' => ∃ (x0_1 : ByteArray), v0 = .string x0_1 ∧ Aside0 (spec_l09Trim.l0 kq x0_1 = some r) ∧ Aside0 (kq ≤ k) ∧ Drawn0 w w')
    case atStart => exact ⟨(a0), (by first | rfl | (simp; done) | (simp [*]; done)), H', ⟨Nat.le_refl _⟩, by repeat (first | exact Drawn0.refl _ | apply Drawn0.step)⟩
    case round =>
      clear H'
      try clear p2
      obtain ⟨x0_1, rfl, HA, HK1, ⟨m1, rfl⟩⟩ := hrel
      cases gk with
      | zero => exact absurd HA.out (by simp [spec_l09Trim.l0])
      | succ k1 =>
        have H := HA.out
        clear HA
        simp only [spec_l09Trim.l0] at H
        by_cases c3 : (x0_1.size : Int) > 0
        · rw [if_pos c3] at H
          have c3b0 : decide (0 < (x0_1.size : Int)) = true := decide_eq_true c3
          have c3b1 : decide (0 < x0_1.size) = true := decide_eq_true (by omega)
          clear c3
          (first | rw [c3b0] | (simp only [i64_w, i32_w]; rw [c3b0]) | skip)
          by_cases c4 : 0 < (x0_1.size : Int)
          · rw [if_pos c4] at H
            have c4b0 : decide (0 < (x0_1.size : Int)) = true := decide_eq_true c4
            have c4b1 : decide (0 < x0_1.size) = true := decide_eq_true (by omega)
            clear c4
            by_cases c6 : (bt x0_1 0) = 32
            · rw [if_pos c6] at H
              have c6b0 : ((bt x0_1 0) == 32) = true := beq_iff_eq.mpr c6
              have c6b1 : ((bt x0_1 0) != 32) = false := bne_eq_false_iff_eq.mpr c6
              clear c6
              by_cases c7 : 1 ≤ (x0_1.size : Int)
              · rw [if_pos c7] at H
                have c7b0 := eq_true c7
                have c7b1 : decide (1 ≤ (x0_1.size : Int)) = true := decide_eq_true c7
                clear c7
                have H' := Aside0.mk H
                clear H
                have p5 : 0 ≤ (0 : Int) := (by omega)
                have q5 : 0 < x0_1.size := (by have : (0 : Int) < (x0_1.size : Int) := of_decide_eq_true (by first | (with_reducible assumption) | assumption); omega)
                have hx5 : ∀ h : 0 < x0_1.size, ((x0_1[0]'h).toNat : Int) = bt x0_1 0 := bt_at x0_1 0
                clear p5
                have qi5 : (0 < (x0_1.size : Int)) = True := eq_true (of_decide_eq_true (by first | (with_reducible assumption) | assumption))
                replace q5 := eq_true q5
                go_wp2
                go_roundg k1
                case measure => have := HK1.out; omega
                case rel => exact ⟨(x0_1.extract 1 x0_1.size), (by first | rfl | (simp; done) | (simp [*]; done)), H', ⟨by have := HK1.out; omega⟩, by repeat (first | exact Drawn0.refl _ | apply Drawn0.step)⟩
              · rw [if_neg c7] at H
                exact absurd H (by simp)
            · rw [if_neg c6] at H
              have c6b0 : ((bt x0_1 0) == 32) = false := beq_eq_false_iff_ne.mpr c6
              have c6b1 : ((bt x0_1 0) != 32) = true := bne_iff_ne.mpr c6
              have H' := Aside0.mk H
              clear H
              have p5 : 0 ≤ (0 : Int) := (by omega)
              have q5 : 0 < x0_1.size := (by have : (0 : Int) < (x0_1.size : Int) := of_decide_eq_true (by first | (with_reducible assumption) | assumption); omega)
              have hx5 : ∀ h : 0 < x0_1.size, ((x0_1[0]'h).toNat : Int) = bt x0_1 0 := bt_at x0_1 0
              clear p5
              have qi5 : (0 < (x0_1.size : Int)) = True := eq_true (of_decide_eq_true (by first | (with_reducible assumption) | assumption))
              replace q5 := eq_true q5
              go_wp2
              go_meet
              case rel => exact ⟨_, (x0_1), (by first | rfl | (simp; done) | (simp [*]; done)), H', ⟨by have := HK1.out; first | omega | exact Nat.le_refl _⟩, by repeat (first | exact Drawn0.refl _ | apply Drawn0.step)⟩
          · rw [if_neg c4] at H
            exact absurd H (by simp)
        · rw [if_neg c3] at H
          have c3b0 : decide (0 < (x0_1.size : Int)) = false := decide_eq_false c3
          have c3b1 : decide (0 < x0_1.size) = false := decide_eq_false (by omega)
          clear c3
          (first | rw [c3b0] | (simp only [i64_w, i32_w]; rw [c3b0]) | skip)
          have H' := Aside0.mk H
          clear H
          go_wp2
          go_meet
          case rel => exact ⟨_, (x0_1), (by first | rfl | (simp; done) | (simp [*]; done)), H', ⟨by have := HK1.out; first | omega | exact Nat.le_refl _⟩, by repeat (first | exact Drawn0.refl _ | apply Drawn0.step)⟩
  case rest =>
    clear HC2
    try clear p2
    try clear c3
    try clear c3b0
    try clear c3b1
    try clear c4
    try clear c4b0
    try clear c4b1
    try clear p5
    try clear q5
    try clear hx5
    try clear qi5
    try clear c6
    try clear c6b0
    try clear c6b1
    try clear c7
    try clear c7b0
    try clear c7b1
    try clear p2
    try clear p5
    try clear q5
    obtain ⟨kq, x0_1, rfl, HA, HJ1, ⟨mc1, rfl⟩⟩ := hcut
    cases kq with
    | zero => exact absurd HA.out (by simp [spec_l09Trim.j1])
    | succ kj1 =>
      have H := HA.out
      clear HA
      simp only [spec_l09Trim.j1] at H
      have H' := Aside0.mk H
      clear H
      go_wp2
      go_loopg [0] kj1 (fun kq v0 w' => ∃ (x0_2 : ByteArray), v0 = .string x0_2 ∧ Aside0 (spec_l09Trim.l1 kq x0_2 = some r) ∧ Aside0 (kq ≤ kj1) ∧ Drawn0 w w')
      case atStart => exact ⟨(x0_1), (by first | rfl | (simp; done) | (simp [*]; done)), H', ⟨Nat.le_refl _⟩, by repeat (first | exact Drawn0.refl _ | apply Drawn0.step)⟩
      case round =>
        clear H'
        try clear c1
        try clear p2
        try clear c3
        try clear c3b0
        try clear c3b1
        try clear c4
        try clear c4b0
        try clear c4b1
        try clear p5
        try clear q5
        try clear hx5
        try clear qi5
        try clear c6
        try clear c6b0
        try clear c6b1
        try clear c7
        try clear c7b0
        try clear c7b1
        try clear p2
        try clear p5
        try clear q5
        obtain ⟨x0_2, rfl, HA, HK2, ⟨m2, rfl⟩⟩ := hrel
        cases gk with
        | zero => exact absurd HA.out (by simp [spec_l09Trim.l1])
        | succ k2 =>
          have H := HA.out
          clear HA
          simp only [spec_l09Trim.l1] at H
          by_cases c8 : (x0_2.size : Int) > 0
          · rw [if_pos c8] at H
            have c8b0 : decide (0 < (x0_2.size : Int)) = true := decide_eq_true c8
            have c8b1 : decide (0 < x0_2.size) = true := decide_eq_true (by omega)
            clear c8
            obtain ⟨ji9, hji9⟩ : ∃ j_ : Int, (wrap64 ((x0_2.size : Int) - 1)) = j_ := ⟨_, rfl⟩
            replace H : (if 0 ≤ (ji9) then (if (ji9) < (x0_2.size : Int) then (if (bt x0_2 (ji9)) = 32 then (if (ji9) ≤ (x0_2.size : Int) then (spec_l09Trim.l1 k2 (x0_2.extract 0 ((ji9) : Int).toNat)) else (none)) else (some x0_2)) else (none)) else (none)) = some r := by first | (rw [hji9] at H; exact H) | (simp only [hji9] at H ⊢; exact H)
            have hji9w : (IntKind.i64.wrap ((x0_2.size : Int) - 1)) = ji9 := (i64_w _).trans hji9
            by_cases c10 : 0 ≤ (ji9)
            · rw [if_pos c10] at H
              have c10b0 : decide (0 ≤ (ji9)) = true := decide_eq_true c10
              clear c10
              by_cases c11 : (ji9) < (x0_2.size : Int)
              · rw [if_pos c11] at H
                have c11b0 : decide ((ji9) < (x0_2.size : Int)) = true := decide_eq_true c11
                clear c11
                by_cases c13 : (bt x0_2 (ji9)) = 32
                · rw [if_pos c13] at H
                  have c13b0 : ((bt x0_2 (ji9)) == 32) = true := beq_iff_eq.mpr c13
                  have c13b1 : ((bt x0_2 (ji9)) != 32) = false := bne_eq_false_iff_eq.mpr c13
                  clear c13
                  have c14b0 := eq_true (of_decide_eq_true (by first | (with_reducible assumption) | assumption) : 0 ≤ (ji9))
                  by_cases c15 : (ji9) ≤ (x0_2.size : Int)
                  · rw [if_pos c15] at H
                    have c15b0 := eq_true c15
                    have c15b1 : decide ((ji9) ≤ (x0_2.size : Int)) = true := decide_eq_true c15
                    clear c15
                    have H' := Aside0.mk H
                    clear H
                    have p12 : 0 ≤ ((ji9) : Int) := of_decide_eq_true (by first | (with_reducible assumption) | assumption)
                    have q12 : (ji9) < (x0_2.size : Int) := of_decide_eq_true (by first | (with_reducible assumption) | assumption)
                    have hx12 := bt_at x0_2 (ji9)
                    replace p12 := eq_true p12
                    replace q12 := eq_true q12
                    go_wp2
                    go_roundg k2
                    case measure => have := HJ1.out; have := HK2.out; omega
                    case rel => exact ⟨(x0_2.extract 0 ((ji9) : Int).toNat), (by first | rfl | (simp; done) | (simp only [← hji9] <;> (first | rfl | simp)) | (simp [*]; done)), H', ⟨by have := HJ1.out; have := HK2.out; omega⟩, by repeat (first | exact Drawn0.refl _ | apply Drawn0.step)⟩
                  · rw [if_neg c15] at H
                    exact absurd H (by simp)
                · rw [if_neg c13] at H
                  have c13b0 : ((bt x0_2 (ji9)) == 32) = false := beq_eq_false_iff_ne.mpr c13
                  have c13b1 : ((bt x0_2 (ji9)) != 32) = true := bne_iff_ne.mpr c13
                  obtain rfl := Option.some.inj H
                  have p12 : 0 ≤ ((ji9) : Int) := of_decide_eq_true (by first | (with_reducible assumption) | assumption)
                  have q12 : (ji9) < (x0_2.size : Int) := of_decide_eq_true (by first | (with_reducible assumption) | assumption)
                  have hx12 := bt_at x0_2 (ji9)
                  replace p12 := eq_true p12
                  replace q12 := eq_true q12
                  go_wp2
                  go_ret
                  exact ⟨by first | rfl | (simp; done) | (simp only [← hji9] <;> (first | rfl | simp)) | (simp [*]; done), by repeat (first | exact Drawn0.refl _ | apply Drawn0.step)⟩
              · rw [if_neg c11] at H
                exact absurd H (by simp)
            · rw [if_neg c10] at H
              exact absurd H (by simp)
          · rw [if_neg c8] at H
            have c8b0 : decide (0 < (x0_2.size : Int)) = false := decide_eq_false c8
            have c8b1 : decide (0 < x0_2.size) = false := decide_eq_false (by omega)
            clear c8
            obtain rfl := Option.some.inj H
            go_wp2
            go_ret
            exact ⟨by first | rfl | (simp; done) | (simp [*]; done), by repeat (first | exact Drawn0.refl _ | apply Drawn0.step)⟩
def spec_l10Begins.f (a0 : ByteArray) (a1 : ByteArray) : Option (Bool) := if (a0.size : Int) ≥ (a1.size : Int) then (if 0 ≤ (a1.size : Int) then (if (a1.size : Int) ≤ (a0.size : Int) then (some ((a0.extract 0 ((a1.size : Int) : Int).toNat).toList == a1.toList)) else (none)) else (none)) else (some false)
set_option maxHeartbeats 8000000 in
set_option maxRecDepth 100000 in
theorem spec_l10Begins.calls (a0 : ByteArray) (a1 : ByteArray) (r : Bool) (w : World) (h : spec_l10Begins.f a0 a1 = some r) :
    Calls Tryd.prog 66 #[.string a0, .string a1] w fun e w' => e = .returned (.bool r) ∧ w = w' := by
  have H : (if (a0.size : Int) ≥ (a1.size : Int) then (if 0 ≤ (a1.size : Int) then (if (a1.size : Int) ≤ (a0.size : Int) then (some ((a0.extract 0 ((a1.size : Int) : Int).toNat).toList == a1.toList)) else (none)) else (none)) else (some false)) = some r := h
  clear h
  by_cases c3 : (a0.size : Int) ≥ (a1.size : Int)
  · rw [if_pos c3] at H
    have c3b0 : decide ((a1.size : Int) ≤ (a0.size : Int)) = true := decide_eq_true c3
    have c3b1 : decide (a1.size ≤ a0.size) = true := decide_eq_true (Int.ofNat_le.mp c3)
    clear c3
    by_cases c4 : 0 ≤ (a1.size : Int)
    · rw [if_pos c4] at H
      have c4b0 := eq_true c4
      have c4b1 : decide (0 ≤ (a1.size : Int)) = true := decide_eq_true c4
      clear c4
      by_cases c5 : (a1.size : Int) ≤ (a0.size : Int)
      · rw [if_pos c5] at H
        have c5b0 := eq_true c5
        have c5b1 : decide ((a1.size : Int) ≤ (a0.size : Int)) = true := decide_eq_true c5
        clear c5
        obtain rfl := Option.some.inj H
        go_enter Tryd.func66, Tryd.ntmps66
        go_wp2
        go_ret
        exact ⟨by first | rfl | (simp; done) | (simp [*]; done), rfl⟩
      · rw [if_neg c5] at H
        exact absurd H (by simp)
    · rw [if_neg c4] at H
      exact absurd H (by simp)
  · rw [if_neg c3] at H
    have c3b0 : decide ((a1.size : Int) ≤ (a0.size : Int)) = false := decide_eq_false c3
    have c3b1 : decide (a1.size ≤ a0.size) = false := decide_eq_false (fun h => c3 (Int.ofNat_le.mpr h))
    clear c3
    obtain rfl := Option.some.inj H
    go_enter Tryd.func66, Tryd.ntmps66
    go_wp2
    go_ret
    exact ⟨by first | rfl | (simp; done) | (simp [*]; done), rfl⟩
def spec_l10Number.l0 : Nat → ByteArray → Int → Int → Option (Int × Bool)
  | 0, _, _, _ => none
  | k + 1, x0, x4, x5 => if x5 < (x0.size : Int) then (if 0 ≤ x5 then (if (bt x0 x5) < 48 then (some (0, false)) else (if (bt x0 x5) > 57 then (some (0, false)) else (spec_l10Number.l0 k x0 (wrap64 ((wrap64 ((wrap64 (10 * x4)) + (wrap64 (bt x0 x5)))) - 48)) (wrap64 (x5 + 1))))) else (none)) else (some (x4, true))
def spec_l10Number.f (k : Nat) (a0 : ByteArray) : Option (Int × Bool) := (spec_l01In.f (a0.size : Int) 1 6).bind fun t168 => (if t168 = true then (spec_l10Number.l0 k a0 0 0) else (some (0, false)))
set_option maxHeartbeats 8000000 in
set_option maxRecDepth 100000 in
theorem spec_l10Number.calls (k : Nat) (a0 : ByteArray) (r1 : Int) (r2 : Bool) (w : World) (h : spec_l10Number.f k a0 = some (r1, r2)) :
    Calls Tryd.prog 67 #[.string a0] w fun e w' => e = .returned (.tuple #[.int .i64 r1, .bool r2]) ∧ Drawn0 w w' := by
  have H : ((spec_l01In.f (a0.size : Int) 1 6).bind fun t168 => (if t168 = true then (spec_l10Number.l0 k a0 0 0) else (some (0, false)))) = some (r1, r2) := h
  clear h
  replace H := Option.bind_eq_some_iff.mp H
  obtain ⟨t168, A20, H⟩ := H
  replace H : (if t168 = true then (spec_l10Number.l0 k a0 0 0) else (some (0, false))) = some (r1, r2) := H
  have A2 := Aside0.mk A20
  clear A20
  have HS3 := Aside0.mk H
  clear H
  go_enter Tryd.func67, Tryd.ntmps67
  go_upto_if 9 with (first | ((with_reducible refine gate_callee (f := 29) rfl ?_); refine goesL_ (some 8) rfl rfl Tryd.func29 (by kernel_rfl) rfl #[.int .i64 (a0.size : Int), .int .i64 1, .int .i64 6] rfl (by (try simp only [List.map_toArray, List.map_cons, List.map_nil]); first | done | rfl | (simp only [List.length_drop, List.length_take]; rfl)) ?_; (with_reducible refine (spec_l01In.calls (a0.size : Int) 1 6 t168 _ A2.out).mono ?_); rintro e w' ⟨rfl, rfl⟩; refine ⟨_, rfl, ?_⟩))
  (try simp only [Act.put, List.setIfInBounds_toArray, List.set_cons_zero, List.set_cons_succ])
  have H := HS3.out
  clear HS3
  by_cases c4 : t168 = true
  · subst c4
    have H1 : (spec_l10Number.l0 k a0 0 0) = some (r1, r2) := by rw [if_pos rfl] at H; exact H
    clear H
    have H := H1
    clear H1
    have H' := Aside0.mk H
    clear H
    go_wp2
    go_loopg [4, 5] k (fun kq v4 v5 w' => ∃ (x4_1 : Int) (x5_1 : Int), v4 = .int .i64 x4_1 ∧ v5 = .int .i64 x5_1 ∧ Aside0 (spec_l10Number.l0 kq a0 x4_1 x5_1 = some (r1, r2)) ∧ Aside0 (kq ≤ k) ∧ Drawn0 w w')
    case atStart => exact ⟨(0), (0), (by first | rfl | (simp; done) | (simp [*]; done)), (by first | rfl | (simp; done) | (simp [*]; done)), H', ⟨Nat.le_refl _⟩, by repeat (first | exact Drawn0.refl _ | apply Drawn0.step)⟩
    case round =>
      clear H'
      try clear c2
      try clear p2
      try clear c4
      obtain ⟨x4_1, x5_1, rfl, rfl, HA, HK1, ⟨m1, rfl⟩⟩ := hrel
      cases gk with
      | zero => exact absurd HA.out (by simp [spec_l10Number.l0])
      | succ k1 =>
        have H := HA.out
        clear HA
        simp only [spec_l10Number.l0] at H
        by_cases c5 : x5_1 < (a0.size : Int)
        · rw [if_pos c5] at H
          have c5b0 : decide (x5_1 < (a0.size : Int)) = true := decide_eq_true c5
          clear c5
          (first | rw [c5b0] | (simp only [i64_w, i32_w]; rw [c5b0]) | skip)
          by_cases c6 : 0 ≤ x5_1
          · rw [if_pos c6] at H
            have c6b0 : decide (0 ≤ x5_1) = true := decide_eq_true c6
            clear c6
            by_cases c8 : (bt a0 x5_1) < 48
            · rw [if_pos c8] at H
              have c8b0 : decide ((bt a0 x5_1) < 48) = true := decide_eq_true c8
              clear c8
              simp only [Option.some.injEq, Prod.mk.injEq] at H
              obtain ⟨rfl, rfl⟩ := H
              have p7 : 0 ≤ (x5_1 : Int) := of_decide_eq_true (by first | (with_reducible assumption) | assumption)
              have q7 : x5_1 < (a0.size : Int) := of_decide_eq_true (by first | (with_reducible assumption) | assumption)
              have hx7 := bt_at a0 x5_1
              replace p7 := eq_true p7
              replace q7 := eq_true q7
              go_wp2
              go_ret2
              exact ⟨by first | rfl | (simp; done) | (simp [*]; done), by repeat (first | exact Drawn0.refl _ | apply Drawn0.step)⟩
            · rw [if_neg c8] at H
              have c8b0 : decide ((bt a0 x5_1) < 48) = false := decide_eq_false c8
              clear c8
              by_cases c10 : (bt a0 x5_1) > 57
              · rw [if_pos c10] at H
                have c10b0 : decide (57 < (bt a0 x5_1)) = true := decide_eq_true c10
                clear c10
                simp only [Option.some.injEq, Prod.mk.injEq] at H
                obtain ⟨rfl, rfl⟩ := H
                have p7 : 0 ≤ (x5_1 : Int) := of_decide_eq_true (by first | (with_reducible assumption) | assumption)
                have q7 : x5_1 < (a0.size : Int) := of_decide_eq_true (by first | (with_reducible assumption) | assumption)
                have hx7 := bt_at a0 x5_1
                replace p7 := eq_true p7
                replace q7 := eq_true q7
                have p9 : 0 ≤ (x5_1 : Int) := of_decide_eq_true (by first | (with_reducible assumption) | assumption)
                have q9 : x5_1 < (a0.size : Int) := of_decide_eq_true (by first | (with_reducible assumption) | assumption)
                have hx9 := bt_at a0 x5_1
                replace p9 := eq_true p9
                replace q9 := eq_true q9
                go_wp2
                go_ret2
                exact ⟨by first | rfl | (simp; done) | (simp [*]; done), by repeat (first | exact Drawn0.refl _ | apply Drawn0.step)⟩
              · rw [if_neg c10] at H
                have c10b0 : decide (57 < (bt a0 x5_1)) = false := decide_eq_false c10
                clear c10
                have H' := Aside0.mk H
                clear H
                have p7 : 0 ≤ (x5_1 : Int) := of_decide_eq_true (by first | (with_reducible assumption) | assumption)
                have q7 : x5_1 < (a0.size : Int) := of_decide_eq_true (by first | (with_reducible assumption) | assumption)
                have hx7 := bt_at a0 x5_1
                replace p7 := eq_true p7
                replace q7 := eq_true q7
                have p9 : 0 ≤ (x5_1 : Int) := of_decide_eq_true (by first | (with_reducible assumption) | assumption)
                have q9 : x5_1 < (a0.size : Int) := of_decide_eq_true (by first | (with_reducible assumption) | assumption)
                have hx9 := bt_at a0 x5_1
                replace p9 := eq_true p9
                replace q9 := eq_true q9
                have p11 : 0 ≤ (x5_1 : Int) := of_decide_eq_true (by first | (with_reducible assumption) | assumption)
                have q11 : x5_1 < (a0.size : Int) := of_decide_eq_true (by first | (with_reducible assumption) | assumption)
                have hx11 := bt_at a0 x5_1
                replace p11 := eq_true p11
                replace q11 := eq_true q11
                go_wp2
                go_roundg k1
                case measure => have := HK1.out; omega
                case rel => exact ⟨(wrap64 ((wrap64 ((wrap64 (10 * x4_1)) + (wrap64 (bt a0 x5_1)))) - 48)), (wrap64 (x5_1 + 1)), (by first | rfl | (simp; done) | (simp [*]; done)), (by first | rfl | (simp; done) | (simp [*]; done)), H', ⟨by have := HK1.out; omega⟩, by repeat (first | exact Drawn0.refl _ | apply Drawn0.step)⟩
          · rw [if_neg c6] at H
            exact absurd H (by simp)
        · rw [if_neg c5] at H
          have c5b0 : decide (x5_1 < (a0.size : Int)) = false := decide_eq_false c5
          clear c5
          (first | rw [c5b0] | (simp only [i64_w, i32_w]; rw [c5b0]) | skip)
          simp only [Option.some.injEq, Prod.mk.injEq] at H
          obtain ⟨rfl, rfl⟩ := H
          go_wp2
          go_ret2
          exact ⟨by first | rfl | (simp; done) | (simp [*]; done), by repeat (first | exact Drawn0.refl _ | apply Drawn0.step)⟩
  · replace c4 := Bool.eq_false_iff.mpr c4
    subst c4
    have H1 : (some (0, false)) = some (r1, r2) := by rw [if_neg (show ¬ (false = true) by decide)] at H; exact H
    clear H
    have H := H1
    clear H1
    simp only [Option.some.injEq, Prod.mk.injEq] at H
    obtain ⟨rfl, rfl⟩ := H
    go_wp2
    go_ret2
    exact ⟨by first | rfl | (simp; done) | (simp [*]; done), by repeat (first | exact Drawn0.refl _ | apply Drawn0.step)⟩
mutual
def spec_l10Part.j1 : Nat → ByteArray → Bool → Bool → Int → Int → Option (Bool × Bool × Int × Int)
  | 0, _, _, _, _, _ => none
  | k + 1, x1, x1000, x1001, x1002, x1003 => (spec_l10Begins.f x1 (⟨#[109, 97, 120, 45, 97, 103, 101, 61]⟩ : ByteArray)).bind fun t171 => (if t171 = true then (if 8 ≤ (x1.size : Int) then ((spec_l10Number.f k (x1.extract 8 x1.size)).bind fun bt172 => (if bt172.2 = true then (spec_l10Part.j2 k x1 x1000 x1001 bt172.1 x1003) else (spec_l10Part.j2 k x1 x1000 x1001 x1002 x1003))) else (none)) else (spec_l10Part.j2 k x1 x1000 x1001 x1002 x1003))
def spec_l10Part.j2 : Nat → ByteArray → Bool → Bool → Int → Int → Option (Bool × Bool × Int × Int)
  | 0, _, _, _, _, _ => none
  | k + 1, x1, x1000, x1001, x1002, x1003 => (spec_l10Begins.f x1 (⟨#[115, 45, 109, 97, 120, 97, 103, 101, 61]⟩ : ByteArray)).bind fun t174 => (if t174 = true then (if 9 ≤ (x1.size : Int) then ((spec_l10Number.f k (x1.extract 9 x1.size)).bind fun bt175 => (if bt175.2 = true then (some (x1000, x1001, x1002, bt175.1)) else (some (x1000, x1001, x1002, x1003)))) else (none)) else (some (x1000, x1001, x1002, x1003)))
def spec_l10Part.j0 : Nat → ByteArray → ByteArray → Bool → Bool → Bool → Int → Int → Option (Bool × Bool × Int × Int)
  | 0, _, _, _, _, _, _, _ => none
  | k + 1, x1, x11, x12, x1000, x1001, x1002, x1003 => if x12 = true then (spec_l10Part.j1 k x1 true x1001 x1002 x1003) else (if x11.toList = ([110, 111, 45, 99, 97, 99, 104, 101] : List UInt8) then (spec_l10Part.j1 k x1 x1000 true x1002 x1003) else (spec_l10Part.j1 k x1 x1000 x1001 x1002 x1003))
end
def spec_l10Part.f (k : Nat) (s0_0 : Bool) (s0_1 : Bool) (s0_2 : Int) (s0_3 : Int) (a1 : ByteArray) : Option (Bool × Bool × Int × Int) := (spec_l09Trim.f k a1).bind fun t169 => ((spec_l09Low.f t169).bind fun t170 => (if t170.toList = ([110, 111, 45, 115, 116, 111, 114, 101] : List UInt8) then (spec_l10Part.j0 k t170 t170 (t170.toList == ([110, 111, 45, 115, 116, 111, 114, 101] : List UInt8)) s0_0 s0_1 s0_2 s0_3) else (spec_l10Part.j0 k t170 t170 (t170.toList == ([112, 114, 105, 118, 97, 116, 101] : List UInt8)) s0_0 s0_1 s0_2 s0_3)))
set_option maxHeartbeats 8000000 in
set_option maxRecDepth 100000 in
theorem spec_l10Part.calls (k : Nat) (g : Nat) (s0_0 : Bool) (s0_1 : Bool) (s0_2 : Int) (s0_3 : Int) (a1 : ByteArray) (r1 : Bool) (r2 : Bool) (r3 : Int) (r4 : Int) (w0 w : World) (hI : IsS25 w0 w g s0_0 s0_1 s0_2 s0_3) (hB : Below w0.heap.size w0 w) (h : spec_l10Part.f k s0_0 s0_1 s0_2 s0_3 a1 = some (r1, r2, r3, r4)) :
    Calls Tryd.prog 33 #[.pointer (some ⟨g, 0, none⟩), .string a1] w fun e w' => e = .returned (.tuple #[]) ∧ IsS25 w0 w' g r1 r2 r3 r4 ∧ Below w0.heap.size w0 w' ∧ KeepBut w w' g none := by
  have HI0 := Aside0.mk hI
  have HK := Aside0.mk (KeepBut.refl w g none)
  have HL := Aside0.mk hB.size
  clear hI
  have HW0 := Aside0.mk hB.size
  have HB := Aside0.mk hB
  clear hB
  have H : ((spec_l09Trim.f k a1).bind fun t169 => ((spec_l09Low.f t169).bind fun t170 => (if t170.toList = ([110, 111, 45, 115, 116, 111, 114, 101] : List UInt8) then (spec_l10Part.j0 k t170 t170 (t170.toList == ([110, 111, 45, 115, 116, 111, 114, 101] : List UInt8)) s0_0 s0_1 s0_2 s0_3) else (spec_l10Part.j0 k t170 t170 (t170.toList == ([112, 114, 105, 118, 97, 116, 101] : List UInt8)) s0_0 s0_1 s0_2 s0_3)))) = some (r1, r2, r3, r4) := h
  clear h
  replace H := Option.bind_eq_some_iff.mp H
  obtain ⟨t169, A30, H⟩ := H
  replace H : ((spec_l09Low.f t169).bind fun t170 => (if t170.toList = ([110, 111, 45, 115, 116, 111, 114, 101] : List UInt8) then (spec_l10Part.j0 k t170 t170 (t170.toList == ([110, 111, 45, 115, 116, 111, 114, 101] : List UInt8)) s0_0 s0_1 s0_2 s0_3) else (spec_l10Part.j0 k t170 t170 (t170.toList == ([112, 114, 105, 118, 97, 116, 101] : List UInt8)) s0_0 s0_1 s0_2 s0_3))) = some (r1, r2, r3, r4) := H
  have A3 := Aside0.mk A30
  clear A30
  replace H := Option.bind_eq_some_iff.mp H
  obtain ⟨t170, A40, H⟩ := H
  replace H : (if t170.toList = ([110, 111, 45, 115, 116, 111, 114, 101] : List UInt8) then (spec_l10Part.j0 k t170 t170 (t170.toList == ([110, 111, 45, 115, 116, 111, 114, 101] : List UInt8)) s0_0 s0_1 s0_2 s0_3) else (spec_l10Part.j0 k t170 t170 (t170.toList == ([112, 114, 105, 118, 97, 116, 101] : List UInt8)) s0_0 s0_1 s0_2 s0_3)) = some (r1, r2, r3, r4) := H
  have A4 := Aside0.mk A40
  clear A40
  have HC5 := Aside0.mk H
  clear H
  go_enter Tryd.func33, Tryd.ntmps33
  go_upto_block 0 with (first | ((with_reducible refine gate_callee (f := 65) rfl ?_); refine goesL_ (some 9) rfl rfl Tryd.func65 (by kernel_rfl) rfl #[.string a1] rfl (by (try simp only [List.map_toArray, List.map_cons, List.map_nil]); first | done | rfl | (simp only [List.length_drop, List.length_take]; rfl)) ?_; (with_reducible refine (spec_l09Trim.calls k a1 t169 _ A3.out).mono ?_); rintro e w' ⟨rfl, ⟨nd, rfl⟩⟩; refine ⟨_, rfl, ?_⟩) | ((with_reducible refine gate_callee (f := 64) rfl ?_); refine goesL_ (some 10) rfl rfl Tryd.func64 (by kernel_rfl) rfl #[.string t169] rfl (by (try simp only [List.map_toArray, List.map_cons, List.map_nil]); first | done | rfl | (simp only [List.length_drop, List.length_take]; rfl)) ?_; (with_reducible refine (spec_l09Low.calls t169 t170 _ A4.out).mono ?_); rintro e w6 ⟨rfl, hb⟩; refine ⟨_, rfl, ?_⟩; have n0_ := Aside0.mk (IsS25.below (by repeat (first | (with_reducible first | exact HI0.out | apply IsS25.alloc | apply IsS25.drewN | apply IsS25.drew | apply IsS25.set_0 | apply IsS25.set_1 | apply IsS25.set_2 | apply IsS25.set_3) | exact HI0.out)) hb); have n1_ := Aside0.mk (KeepBut.trans (by repeat (first | (with_reducible first | exact HK.out | apply KeepBut.set_ | apply keep_drewN | apply keep_drew | apply keep_alloc) | exact HK.out)) (KeepBut.of_below hb g none) (.inl rfl)); have n2_ := Aside0.mk (below_step (by repeat (first | (with_reducible first | exact HB.out | apply below_alloc | apply pw_below_drewN | apply below_drew1 | refine below_set ?_ (IsS25.ge HI0.out)) | exact HB.out)) hb); clear HI0; clear HK; clear HB; have HI0 := n0_; have HK := n1_; have HB := n2_; clear n0_ n1_ n2_; (try clear hb); (try clear hb2); (try clear hk); (try clear hi)))
  (try simp only [Act.put, List.setIfInBounds_toArray, List.set_cons_zero, List.set_cons_succ])
  go_cut [] (fun wc => ∃ (kq : Nat) (x1000_4 : Bool) (x1001_4 : Bool), Aside0 (spec_l10Part.j1 kq t170 x1000_4 x1001_4 s0_2 s0_3 = some (r1, r2, r3, r4)) ∧ Aside0 (kq ≤ k) ∧ Aside0 (IsS25 w0 wc g x1000_4 x1001_4 s0_2 s0_3) ∧ Aside0 (KeepBut w wc g none) ∧ Aside0 (Below w0.heap.size w0 wc))
  case first =>
    have H := HC5.out
    clear HC5
    have HC7 := Aside0.mk H
    clear H
    go_upto_if 12 with (fail)
    go_cut [12] (fun v12 wc => ∃ (kq : Nat) (x12_6 : Bool), v12 = .bool x12_6 ∧ Aside0 (spec_l10Part.j0 kq t170 t170 x12_6 s0_0 s0_1 s0_2 s0_3 = some (r1, r2, r3, r4)) ∧ Aside0 (kq ≤ k) ∧ Aside0 (IsS25 w0 wc g s0_0 s0_1 s0_2 s0_3) ∧ Aside0 (KeepBut w wc g none) ∧ Aside0 (Below w0.heap.size w0 wc))
    case first =>
      have H := HC7.out
      clear HC7
      by_cases c8 : t170.toList = ([110, 111, 45, 115, 116, 111, 114, 101] : List UInt8)
      · rw [if_pos c8] at H
        have c8b0 : (t170.toList == ([110, 111, 45, 115, 116, 111, 114, 101] : List UInt8)) = true := beq_iff_eq.mpr c8
        have c8b1 : (t170.toList != ([110, 111, 45, 115, 116, 111, 114, 101] : List UInt8)) = false := bne_eq_false_iff_eq.mpr c8
        clear c8
        (first | rw [c8b0] | (simp only [i64_w, i32_w]; rw [c8b0]) | skip)
        have H' := Aside0.mk H
        clear H
        go_wp2
        go_meet
        case rel => exact ⟨_, ((t170.toList == ([110, 111, 45, 115, 116, 111, 114, 101] : List UInt8))), (by first | rfl | (simp; done) | (simp [*]; done)), H', ⟨by first | omega | exact Nat.le_refl _⟩, ⟨by repeat (first | (with_reducible first | exact HI0.out | apply IsS25.alloc | apply IsS25.drewN | apply IsS25.drew | apply IsS25.set_0 | apply IsS25.set_1 | apply IsS25.set_2 | apply IsS25.set_3) | exact HI0.out)⟩, ⟨by repeat (first | (with_reducible first | exact HK.out | apply KeepBut.set_ | apply keep_drewN | apply keep_drew | apply keep_alloc) | exact HK.out)⟩, ⟨by repeat (first | (with_reducible first | exact HB.out | apply below_alloc | apply pw_below_drewN | apply below_drew1 | refine below_set ?_ (IsS25.ge HI0.out)) | exact HB.out)⟩⟩
      · rw [if_neg c8] at H
        have c8b0 : (t170.toList == ([110, 111, 45, 115, 116, 111, 114, 101] : List UInt8)) = false := beq_eq_false_iff_ne.mpr c8
        have c8b1 : (t170.toList != ([110, 111, 45, 115, 116, 111, 114, 101] : List UInt8)) = true := bne_iff_ne.mpr c8
        (first | rw [c8b0] | (simp only [i64_w, i32_w]; rw [c8b0]) | skip)
        have H' := Aside0.mk H
        clear H
        go_wp2
        go_meet
        case rel => exact ⟨_, ((t170.toList == ([112, 114, 105, 118, 97, 116, 101] : List UInt8))), (by first | rfl | (simp; done) | (simp [*]; done)), H', ⟨by first | omega | exact Nat.le_refl _⟩, ⟨by repeat (first | (with_reducible first | exact HI0.out | apply IsS25.alloc | apply IsS25.drewN | apply IsS25.drew | apply IsS25.set_0 | apply IsS25.set_1 | apply IsS25.set_2 | apply IsS25.set_3) | exact HI0.out)⟩, ⟨by repeat (first | (with_reducible first | exact HK.out | apply KeepBut.set_ | apply keep_drewN | apply keep_drew | apply keep_alloc) | exact HK.out)⟩, ⟨by repeat (first | (with_reducible first | exact HB.out | apply below_alloc | apply pw_below_drewN | apply below_drew1 | refine below_set ?_ (IsS25.ge HI0.out)) | exact HB.out)⟩⟩
    case rest =>
      clear HC7
      try clear p2
      try clear c3
      try clear c6
      try clear c8
      try clear c8b0
      try clear c8b1
      obtain ⟨kq, x12_6, rfl, HA, HJ6, HI0, HK, HB⟩ := hcut
      cases kq with
      | zero => exact absurd HA.out (by simp [spec_l10Part.j0])
      | succ kj6 =>
        have H := HA.out
        clear HA
        simp only [spec_l10Part.j0] at H
        by_cases c9 : x12_6 = true
        · subst c9
          have H1 : (spec_l10Part.j1 kj6 t170 true s0_1 s0_2 s0_3) = some (r1, r2, r3, r4) := by rw [if_pos rfl] at H; exact H
          clear H
          have H := H1
          clear H1
          have H' := Aside0.mk H
          clear H
          obtain ⟨HGz10, hgz10⟩ := HI0.out
          have hcz10_0 := cellS25_0 HGz10
          have hcz10_1 := cellS25_1 HGz10
          have hcz10_2 := cellS25_2 HGz10
          have hcz10_3 := cellS25_3 HGz10
          have hfz10_0 := blk_frozen HGz10 0
          have hfz10_1 := blk_frozen HGz10 1
          have hfz10_2 := blk_frozen HGz10 2
          have hfz10_3 := blk_frozen HGz10 3
          clear HGz10 hgz10
          go_wp2
          go_meet
          case rel => exact ⟨_, (true), (s0_1), H', ⟨by have := HJ6.out; first | omega | exact Nat.le_refl _⟩, ⟨by repeat (first | (with_reducible first | exact HI0.out | apply IsS25.alloc | apply IsS25.drewN | apply IsS25.drew | apply IsS25.set_0 | apply IsS25.set_1 | apply IsS25.set_2 | apply IsS25.set_3) | exact HI0.out)⟩, ⟨by repeat (first | (with_reducible first | exact HK.out | apply KeepBut.set_ | apply keep_drewN | apply keep_drew | apply keep_alloc) | exact HK.out)⟩, ⟨by repeat (first | (with_reducible first | exact HB.out | apply below_alloc | apply pw_below_drewN | apply below_drew1 | refine below_set ?_ (IsS25.ge HI0.out)) | exact HB.out)⟩⟩
        · replace c9 := Bool.eq_false_iff.mpr c9
          subst c9
          have H1 : (if t170.toList = ([110, 111, 45, 99, 97, 99, 104, 101] : List UInt8) then (spec_l10Part.j1 kj6 t170 s0_0 true s0_2 s0_3) else (spec_l10Part.j1 kj6 t170 s0_0 s0_1 s0_2 s0_3)) = some (r1, r2, r3, r4) := by rw [if_neg (show ¬ (false = true) by decide)] at H; exact H
          clear H
          have H := H1
          clear H1
          by_cases c11 : t170.toList = ([110, 111, 45, 99, 97, 99, 104, 101] : List UInt8)
          · rw [if_pos c11] at H
            have c11b0 : (t170.toList == ([110, 111, 45, 99, 97, 99, 104, 101] : List UInt8)) = true := beq_iff_eq.mpr c11
            have c11b1 : (t170.toList != ([110, 111, 45, 99, 97, 99, 104, 101] : List UInt8)) = false := bne_eq_false_iff_eq.mpr c11
            clear c11
            have H' := Aside0.mk H
            clear H
            obtain ⟨HGz12, hgz12⟩ := HI0.out
            have hcz12_0 := cellS25_0 HGz12
            have hcz12_1 := cellS25_1 HGz12
            have hcz12_2 := cellS25_2 HGz12
            have hcz12_3 := cellS25_3 HGz12
            have hfz12_0 := blk_frozen HGz12 0
            have hfz12_1 := blk_frozen HGz12 1
            have hfz12_2 := blk_frozen HGz12 2
            have hfz12_3 := blk_frozen HGz12 3
            clear HGz12 hgz12
            go_wp2
            go_meet
            case rel => exact ⟨_, (s0_0), (true), H', ⟨by have := HJ6.out; first | omega | exact Nat.le_refl _⟩, ⟨by repeat (first | (with_reducible first | exact HI0.out | apply IsS25.alloc | apply IsS25.drewN | apply IsS25.drew | apply IsS25.set_0 | apply IsS25.set_1 | apply IsS25.set_2 | apply IsS25.set_3) | exact HI0.out)⟩, ⟨by repeat (first | (with_reducible first | exact HK.out | apply KeepBut.set_ | apply keep_drewN | apply keep_drew | apply keep_alloc) | exact HK.out)⟩, ⟨by repeat (first | (with_reducible first | exact HB.out | apply below_alloc | apply pw_below_drewN | apply below_drew1 | refine below_set ?_ (IsS25.ge HI0.out)) | exact HB.out)⟩⟩
          · rw [if_neg c11] at H
            have c11b0 : (t170.toList == ([110, 111, 45, 99, 97, 99, 104, 101] : List UInt8)) = false := beq_eq_false_iff_ne.mpr c11
            have c11b1 : (t170.toList != ([110, 111, 45, 99, 97, 99, 104, 101] : List UInt8)) = true := bne_iff_ne.mpr c11
            have H' := Aside0.mk H
            clear H
            go_wp2
            go_meet
            case rel => exact ⟨_, (s0_0), (s0_1), H', ⟨by have := HJ6.out; first | omega | exact Nat.le_refl _⟩, ⟨by repeat (first | (with_reducible first | exact HI0.out | apply IsS25.alloc | apply IsS25.drewN | apply IsS25.drew | apply IsS25.set_0 | apply IsS25.set_1 | apply IsS25.set_2 | apply IsS25.set_3) | exact HI0.out)⟩, ⟨by repeat (first | (with_reducible first | exact HK.out | apply KeepBut.set_ | apply keep_drewN | apply keep_drew | apply keep_alloc) | exact HK.out)⟩, ⟨by repeat (first | (with_reducible first | exact HB.out | apply below_alloc | apply pw_below_drewN | apply below_drew1 | refine below_set ?_ (IsS25.ge HI0.out)) | exact HB.out)⟩⟩
  case rest =>
    clear HC5
    try clear c1
    try clear p2
    try clear c3
    try clear c6
    try clear c8
    try clear c8b0
    try clear c8b1
    try clear c9
    try clear c11
    try clear c11b0
    try clear c11b1
    try clear hcz10_0
    try clear hcz10_1
    try clear hcz10_2
    try clear hcz10_3
    try clear hcz12_0
    try clear hcz12_1
    try clear hcz12_2
    try clear hcz12_3
    try clear hfz10_0
    try clear hfz10_1
    try clear hfz10_2
    try clear hfz10_3
    try clear hfz12_0
    try clear hfz12_1
    try clear hfz12_2
    try clear hfz12_3
    try clear p2
    obtain ⟨kq, x1000_4, x1001_4, HA, HJ4, HI0, HK, HB⟩ := hcut
    cases kq with
    | zero => exact absurd HA.out (by simp [spec_l10Part.j1])
    | succ kj4 =>
      have H := HA.out
      clear HA
      simp only [spec_l10Part.j1] at H
      replace H := Option.bind_eq_some_iff.mp H
      obtain ⟨t171, A130, H⟩ := H
      replace H : (if t171 = true then (if 8 ≤ (t170.size : Int) then ((spec_l10Number.f kj4 (t170.extract 8 t170.size)).bind fun bt172 => (if bt172.2 = true then (spec_l10Part.j2 kj4 t170 x1000_4 x1001_4 bt172.1 s0_3) else (spec_l10Part.j2 kj4 t170 x1000_4 x1001_4 s0_2 s0_3))) else (none)) else (spec_l10Part.j2 kj4 t170 x1000_4 x1001_4 s0_2 s0_3)) = some (r1, r2, r3, r4) := H
      have A13 := Aside0.mk A130
      clear A130
      have HC14 := Aside0.mk H
      clear H
      go_upto_if 24 with (first | ((with_reducible refine gate_callee (f := 66) rfl ?_); refine goesL_ (some 24) rfl rfl Tryd.func66 (by kernel_rfl) rfl #[.string t170, .string (⟨#[109, 97, 120, 45, 97, 103, 101, 61]⟩ : ByteArray)] rfl (by (try simp only [List.map_toArray, List.map_cons, List.map_nil]); first | done | rfl | (simp only [List.length_drop, List.length_take]; rfl)) ?_; (with_reducible refine (spec_l10Begins.calls t170 (⟨#[109, 97, 120, 45, 97, 103, 101, 61]⟩ : ByteArray) t171 _ A13.out).mono ?_); rintro e w' ⟨rfl, rfl⟩; refine ⟨_, rfl, ?_⟩))
      (try simp only [Act.put, List.setIfInBounds_toArray, List.set_cons_zero, List.set_cons_succ])
      go_cut [] (fun wc => ∃ (kq : Nat) (x1002_13 : Int), Aside0 (spec_l10Part.j2 kq t170 x1000_4 x1001_4 x1002_13 s0_3 = some (r1, r2, r3, r4)) ∧ Aside0 (kq ≤ kj4) ∧ Aside0 (IsS25 w0 wc g x1000_4 x1001_4 x1002_13 s0_3) ∧ Aside0 (KeepBut w wc g none) ∧ Aside0 (Below w0.heap.size w0 wc))
      case first =>
        have H := HC14.out
        clear HC14
        by_cases c15 : t171 = true
        · subst c15
          have H1 : (if 8 ≤ (t170.size : Int) then ((spec_l10Number.f kj4 (t170.extract 8 t170.size)).bind fun bt172 => (if bt172.2 = true then (spec_l10Part.j2 kj4 t170 x1000_4 x1001_4 bt172.1 s0_3) else (spec_l10Part.j2 kj4 t170 x1000_4 x1001_4 s0_2 s0_3))) else (none)) = some (r1, r2, r3, r4) := by rw [if_pos rfl] at H; exact H
          clear H
          have H := H1
          clear H1
          by_cases c16 : 8 ≤ (t170.size : Int)
          · rw [if_pos c16] at H
            have c16b0 := eq_true c16
            have c16b1 : decide (8 ≤ (t170.size : Int)) = true := decide_eq_true c16
            clear c16
            replace H := Option.bind_eq_some_iff.mp H
            obtain ⟨⟨t172, t173⟩, A170, H⟩ := H
            replace H : (if t173 = true then (spec_l10Part.j2 kj4 t170 x1000_4 x1001_4 t172 s0_3) else (spec_l10Part.j2 kj4 t170 x1000_4 x1001_4 s0_2 s0_3)) = some (r1, r2, r3, r4) := H
            have A17 := Aside0.mk A170
            clear A170
            have HS18 := Aside0.mk H
            clear H
            go_upto_if 31 with (first | ((with_reducible refine gate_callee (f := 67) rfl ?_); refine goesL_ (some 28) rfl rfl Tryd.func67 (by kernel_rfl) rfl #[.string (t170.extract 8 t170.size)] rfl (by (try simp only [List.map_toArray, List.map_cons, List.map_nil]); first | done | rfl | (simp only [List.length_drop, List.length_take]; rfl)) ?_; (with_reducible refine (spec_l10Number.calls kj4 (t170.extract 8 t170.size) t172 t173 _ A17.out).mono ?_); rintro e w' ⟨rfl, ⟨nd, rfl⟩⟩; refine ⟨_, rfl, ?_⟩))
            (try simp only [Act.put, List.setIfInBounds_toArray, List.set_cons_zero, List.set_cons_succ])
            have H := HS18.out
            clear HS18
            by_cases c19 : t173 = true
            · subst c19
              have H1 : (spec_l10Part.j2 kj4 t170 x1000_4 x1001_4 t172 s0_3) = some (r1, r2, r3, r4) := by rw [if_pos rfl] at H; exact H
              clear H
              have H := H1
              clear H1
              have H' := Aside0.mk H
              clear H
              obtain ⟨HGz20, hgz20⟩ := HI0.out
              have hcz20_0 := cellS25_0 HGz20
              have hcz20_1 := cellS25_1 HGz20
              have hcz20_2 := cellS25_2 HGz20
              have hcz20_3 := cellS25_3 HGz20
              have hfz20_0 := blk_frozen HGz20 0
              have hfz20_1 := blk_frozen HGz20 1
              have hfz20_2 := blk_frozen HGz20 2
              have hfz20_3 := blk_frozen HGz20 3
              clear HGz20 hgz20
              go_wp2
              go_meet
              case rel => exact ⟨_, (t172), H', ⟨by have := HJ4.out; first | omega | exact Nat.le_refl _⟩, ⟨by repeat (first | (with_reducible first | exact HI0.out | apply IsS25.alloc | apply IsS25.drewN | apply IsS25.drew | apply IsS25.set_0 | apply IsS25.set_1 | apply IsS25.set_2 | apply IsS25.set_3) | exact HI0.out)⟩, ⟨by repeat (first | (with_reducible first | exact HK.out | apply KeepBut.set_ | apply keep_drewN | apply keep_drew | apply keep_alloc) | exact HK.out)⟩, ⟨by repeat (first | (with_reducible first | exact HB.out | apply below_alloc | apply pw_below_drewN | apply below_drew1 | refine below_set ?_ (IsS25.ge HI0.out)) | exact HB.out)⟩⟩
            · replace c19 := Bool.eq_false_iff.mpr c19
              subst c19
              have H1 : (spec_l10Part.j2 kj4 t170 x1000_4 x1001_4 s0_2 s0_3) = some (r1, r2, r3, r4) := by rw [if_neg (show ¬ (false = true) by decide)] at H; exact H
              clear H
              have H := H1
              clear H1
              have H' := Aside0.mk H
              clear H
              go_wp2
              go_meet
              case rel => exact ⟨_, (s0_2), H', ⟨by have := HJ4.out; first | omega | exact Nat.le_refl _⟩, ⟨by repeat (first | (with_reducible first | exact HI0.out | apply IsS25.alloc | apply IsS25.drewN | apply IsS25.drew | apply IsS25.set_0 | apply IsS25.set_1 | apply IsS25.set_2 | apply IsS25.set_3) | exact HI0.out)⟩, ⟨by repeat (first | (with_reducible first | exact HK.out | apply KeepBut.set_ | apply keep_drewN | apply keep_drew | apply keep_alloc) | exact HK.out)⟩, ⟨by repeat (first | (with_reducible first | exact HB.out | apply below_alloc | apply pw_below_drewN | apply below_drew1 | refine below_set ?_ (IsS25.ge HI0.out)) | exact HB.out)⟩⟩
          · rw [if_neg c16] at H
            exact absurd H (by simp)
        · replace c15 := Bool.eq_false_iff.mpr c15
          subst c15
          have H1 : (spec_l10Part.j2 kj4 t170 x1000_4 x1001_4 s0_2 s0_3) = some (r1, r2, r3, r4) := by rw [if_neg (show ¬ (false = true) by decide)] at H; exact H
          clear H
          have H := H1
          clear H1
          have H' := Aside0.mk H
          clear H
          go_wp2
          go_meet
          case rel => exact ⟨_, (s0_2), H', ⟨by have := HJ4.out; first | omega | exact Nat.le_refl _⟩, ⟨by repeat (first | (with_reducible first | exact HI0.out | apply IsS25.alloc | apply IsS25.drewN | apply IsS25.drew | apply IsS25.set_0 | apply IsS25.set_1 | apply IsS25.set_2 | apply IsS25.set_3) | exact HI0.out)⟩, ⟨by repeat (first | (with_reducible first | exact HK.out | apply KeepBut.set_ | apply keep_drewN | apply keep_drew | apply keep_alloc) | exact HK.out)⟩, ⟨by repeat (first | (with_reducible first | exact HB.out | apply below_alloc | apply pw_below_drewN | apply below_drew1 | refine below_set ?_ (IsS25.ge HI0.out)) | exact HB.out)⟩⟩
      case rest =>
        clear HC14
        try clear c1
        try clear p2
        try clear c3
        try clear c6
        try clear c8
        try clear c8b0
        try clear c8b1
        try clear c9
        try clear c11
        try clear c11b0
        try clear c11b1
        try clear c15
        try clear c16
        try clear c16b0
        try clear c16b1
        try clear c19
        try clear hcz10_0
        try clear hcz10_1
        try clear hcz10_2
        try clear hcz10_3
        try clear hcz12_0
        try clear hcz12_1
        try clear hcz12_2
        try clear hcz12_3
        try clear hcz20_0
        try clear hcz20_1
        try clear hcz20_2
        try clear hcz20_3
        try clear hfz10_0
        try clear hfz10_1
        try clear hfz10_2
        try clear hfz10_3
        try clear hfz12_0
        try clear hfz12_1
        try clear hfz12_2
        try clear hfz12_3
        try clear hfz20_0
        try clear hfz20_1
        try clear hfz20_2
        try clear hfz20_3
        try clear p2
        obtain ⟨kq, x1002_13, HA, HJ13, HI0, HK, HB⟩ := hcut
        cases kq with
        | zero => exact absurd HA.out (by simp [spec_l10Part.j2])
        | succ kj13 =>
          have H := HA.out
          clear HA
          simp only [spec_l10Part.j2] at H
          replace H := Option.bind_eq_some_iff.mp H
          obtain ⟨t174, A210, H⟩ := H
          replace H : (if t174 = true then (if 9 ≤ (t170.size : Int) then ((spec_l10Number.f kj13 (t170.extract 9 t170.size)).bind fun bt175 => (if bt175.2 = true then (some (x1000_4, x1001_4, x1002_13, bt175.1)) else (some (x1000_4, x1001_4, x1002_13, s0_3)))) else (none)) else (some (x1000_4, x1001_4, x1002_13, s0_3))) = some (r1, r2, r3, r4) := H
          have A21 := Aside0.mk A210
          clear A210
          have HS22 := Aside0.mk H
          clear H
          go_upto_if 37 with (first | ((with_reducible refine gate_callee (f := 66) rfl ?_); refine goesL_ (some 37) rfl rfl Tryd.func66 (by kernel_rfl) rfl #[.string t170, .string (⟨#[115, 45, 109, 97, 120, 97, 103, 101, 61]⟩ : ByteArray)] rfl (by (try simp only [List.map_toArray, List.map_cons, List.map_nil]); first | done | rfl | (simp only [List.length_drop, List.length_take]; rfl)) ?_; (with_reducible refine (spec_l10Begins.calls t170 (⟨#[115, 45, 109, 97, 120, 97, 103, 101, 61]⟩ : ByteArray) t174 _ A21.out).mono ?_); rintro e w' ⟨rfl, rfl⟩; refine ⟨_, rfl, ?_⟩))
          (try simp only [Act.put, List.setIfInBounds_toArray, List.set_cons_zero, List.set_cons_succ])
          have H := HS22.out
          clear HS22
          by_cases c23 : t174 = true
          · subst c23
            have H1 : (if 9 ≤ (t170.size : Int) then ((spec_l10Number.f kj13 (t170.extract 9 t170.size)).bind fun bt175 => (if bt175.2 = true then (some (x1000_4, x1001_4, x1002_13, bt175.1)) else (some (x1000_4, x1001_4, x1002_13, s0_3)))) else (none)) = some (r1, r2, r3, r4) := by rw [if_pos rfl] at H; exact H
            clear H
            have H := H1
            clear H1
            by_cases c24 : 9 ≤ (t170.size : Int)
            · rw [if_pos c24] at H
              have c24b0 := eq_true c24
              have c24b1 : decide (9 ≤ (t170.size : Int)) = true := decide_eq_true c24
              clear c24
              replace H := Option.bind_eq_some_iff.mp H
              obtain ⟨⟨t175, t176⟩, A250, H⟩ := H
              replace H : (if t176 = true then (some (x1000_4, x1001_4, x1002_13, t175)) else (some (x1000_4, x1001_4, x1002_13, s0_3))) = some (r1, r2, r3, r4) := H
              have A25 := Aside0.mk A250
              clear A250
              have HS26 := Aside0.mk H
              clear H
              go_upto_if 44 with (first | ((with_reducible refine gate_callee (f := 67) rfl ?_); refine goesL_ (some 41) rfl rfl Tryd.func67 (by kernel_rfl) rfl #[.string (t170.extract 9 t170.size)] rfl (by (try simp only [List.map_toArray, List.map_cons, List.map_nil]); first | done | rfl | (simp only [List.length_drop, List.length_take]; rfl)) ?_; (with_reducible refine (spec_l10Number.calls kj13 (t170.extract 9 t170.size) t175 t176 _ A25.out).mono ?_); rintro e w' ⟨rfl, ⟨nd, rfl⟩⟩; refine ⟨_, rfl, ?_⟩))
              (try simp only [Act.put, List.setIfInBounds_toArray, List.set_cons_zero, List.set_cons_succ])
              have H := HS26.out
              clear HS26
              by_cases c27 : t176 = true
              · subst c27
                have H1 : (some (x1000_4, x1001_4, x1002_13, t175)) = some (r1, r2, r3, r4) := by rw [if_pos rfl] at H; exact H
                clear H
                have H := H1
                clear H1
                simp only [Option.some.injEq, Prod.mk.injEq] at H
                obtain ⟨rfl, rfl, rfl, rfl⟩ := H
                obtain ⟨HGz28, hgz28⟩ := HI0.out
                have hcz28_0 := cellS25_0 HGz28
                have hcz28_1 := cellS25_1 HGz28
                have hcz28_2 := cellS25_2 HGz28
                have hcz28_3 := cellS25_3 HGz28
                have hfz28_0 := blk_frozen HGz28 0
                have hfz28_1 := blk_frozen HGz28 1
                have hfz28_2 := blk_frozen HGz28 2
                have hfz28_3 := blk_frozen HGz28 3
                clear HGz28 hgz28
                go_wp2
                first | go_end0 | ((try simp only [Exit.inBlock, Exit.then]); refine bodyPost_ret (results_none rfl _ _ _) rfl ?_)
                exact ⟨by first | rfl | (simp [errW_none, errW_some] <;> rfl) | (simp [*, errW_none, errW_some] <;> rfl), by repeat (first | (with_reducible first | exact HI0.out | apply IsS25.alloc | apply IsS25.drewN | apply IsS25.drew | apply IsS25.set_0 | apply IsS25.set_1 | apply IsS25.set_2 | apply IsS25.set_3) | exact HI0.out), by repeat (first | (with_reducible first | exact HB.out | apply below_alloc | apply pw_below_drewN | apply below_drew1 | refine below_set ?_ (IsS25.ge HI0.out)) | exact HB.out), by repeat (first | (with_reducible first | exact HK.out | apply KeepBut.set_ | apply keep_drewN | apply keep_drew | apply keep_alloc) | exact HK.out)⟩
              · replace c27 := Bool.eq_false_iff.mpr c27
                subst c27
                have H1 : (some (x1000_4, x1001_4, x1002_13, s0_3)) = some (r1, r2, r3, r4) := by rw [if_neg (show ¬ (false = true) by decide)] at H; exact H
                clear H
                have H := H1
                clear H1
                simp only [Option.some.injEq, Prod.mk.injEq] at H
                obtain ⟨rfl, rfl, rfl, rfl⟩ := H
                go_wp2
                first | go_end0 | ((try simp only [Exit.inBlock, Exit.then]); refine bodyPost_ret (results_none rfl _ _ _) rfl ?_)
                exact ⟨by first | rfl | (simp [errW_none, errW_some] <;> rfl) | (simp [*, errW_none, errW_some] <;> rfl), by repeat (first | (with_reducible first | exact HI0.out | apply IsS25.alloc | apply IsS25.drewN | apply IsS25.drew | apply IsS25.set_0 | apply IsS25.set_1 | apply IsS25.set_2 | apply IsS25.set_3) | exact HI0.out), by repeat (first | (with_reducible first | exact HB.out | apply below_alloc | apply pw_below_drewN | apply below_drew1 | refine below_set ?_ (IsS25.ge HI0.out)) | exact HB.out), by repeat (first | (with_reducible first | exact HK.out | apply KeepBut.set_ | apply keep_drewN | apply keep_drew | apply keep_alloc) | exact HK.out)⟩
            · rw [if_neg c24] at H
              exact absurd H (by simp)
          · replace c23 := Bool.eq_false_iff.mpr c23
            subst c23
            have H1 : (some (x1000_4, x1001_4, x1002_13, s0_3)) = some (r1, r2, r3, r4) := by rw [if_neg (show ¬ (false = true) by decide)] at H; exact H
            clear H
            have H := H1
            clear H1
            simp only [Option.some.injEq, Prod.mk.injEq] at H
            obtain ⟨rfl, rfl, rfl, rfl⟩ := H
            go_wp2
            first | go_end0 | ((try simp only [Exit.inBlock, Exit.then]); refine bodyPost_ret (results_none rfl _ _ _) rfl ?_)
            exact ⟨by first | rfl | (simp [errW_none, errW_some] <;> rfl) | (simp [*, errW_none, errW_some] <;> rfl), by repeat (first | (with_reducible first | exact HI0.out | apply IsS25.alloc | apply IsS25.drewN | apply IsS25.drew | apply IsS25.set_0 | apply IsS25.set_1 | apply IsS25.set_2 | apply IsS25.set_3) | exact HI0.out), by repeat (first | (with_reducible first | exact HB.out | apply below_alloc | apply pw_below_drewN | apply below_drew1 | refine below_set ?_ (IsS25.ge HI0.out)) | exact HB.out), by repeat (first | (with_reducible first | exact HK.out | apply KeepBut.set_ | apply keep_drewN | apply keep_drew | apply keep_alloc) | exact HK.out)⟩
def spec_ControlOf.l0 : Nat → ByteArray → Int → Int → Bool → Bool → Int → Int → Option (Bool × Bool × Int × Int)
  | 0, _, _, _, _, _, _, _ => none
  | k + 1, x0, x4, x5, s0, s1, s2, s3 => if x5 ≤ (x0.size : Int) then (if x5 = (x0.size : Int) then (if 0 ≤ x4 then (if x4 ≤ x5 then (if x5 ≤ (x0.size : Int) then ((spec_l10Part.f k s0 s1 s2 s3 (x0.extract x4.toNat x5.toNat)).bind fun r => (spec_ControlOf.l0 k x0 (wrap64 (x5 + 1)) (wrap64 (x5 + 1)) r.1 r.2.1 r.2.2.1 r.2.2.2)) else none) else none) else none) else (if 0 ≤ x5 then (if x5 < (x0.size : Int) then (if bt x0 x5 = 44 then (if 0 ≤ x4 then (if x4 ≤ x5 then (if x5 ≤ (x0.size : Int) then ((spec_l10Part.f k s0 s1 s2 s3 (x0.extract x4.toNat x5.toNat)).bind fun r => (spec_ControlOf.l0 k x0 (wrap64 (x5 + 1)) (wrap64 (x5 + 1)) r.1 r.2.1 r.2.2.1 r.2.2.2)) else none) else none) else none) else (spec_ControlOf.l0 k x0 x4 (wrap64 (x5 + 1)) s0 s1 s2 s3)) else none) else none)) else (some (s0, s1, s2, s3))
def spec_ControlOf.f (k : Nat) (a0 : ByteArray) : Option (Bool × Bool × Int × Int) := spec_ControlOf.l0 k a0 0 0 false false (-1) (-1)
set_option maxHeartbeats 8000000 in
set_option maxRecDepth 100000 in
theorem spec_ControlOf.calls (k : Nat) (a0 : ByteArray) (r1 : Bool) (r2 : Bool) (r3 : Int) (r4 : Int) (w : World) (h : spec_ControlOf.f k a0 = some (r1, r2, r3, r4)) :
    Calls Tryd.prog 11 #[.string a0] w fun e w' => e = .returned (.agg #[.bool r1, .bool r2, .int .i64 r3, .int .i64 r4]) ∧ Below w.heap.size w w' := by
  have huT := Tryd.underlying25
  have HB := Aside0.mk (Below.refl w.heap.size w)
  have H' := Aside0.mk (show spec_ControlOf.l0 k a0 0 0 false false (-1) (-1) = some (r1, r2, r3, r4) from h)
  clear h
  go_enter Tryd.func11, Tryd.ntmps11
  go_wp2_with (first | ((with_reducible refine gate_dst (N := 2) rfl ?_); refine box_event ?hg (N := 2) ?hd (cs := #[.bool false, .bool false, .int .i64 0, .int .i64 0]) (t := 25) ?hr ?_; (case hd => rfl); (case hg => rfl); (case hr => first | (go_simp; done) | (go_simp; rfl)); intro g0 hg w3 hbox hb; have n0_ := Aside0.mk (below_step (by repeat (first | (with_reducible first | exact HB.out | apply below_alloc | apply pw_below_drewN | apply below_drew1) | exact HB.out)) hb); have n1_ := Aside0.mk hbox; have n2_ := Aside0.mk ((by rw [hg]; exact (below_size (by repeat (first | (with_reducible first | exact HB.out | apply below_alloc | apply pw_below_drewN | apply below_drew1) | exact HB.out)))) : w.heap.size ≤ g0); clear HB; have HB := n0_; have BK0 := n1_; have GE0 := n2_; clear n0_ n1_ n2_; clear hb hbox hg) | ((with_reducible refine gate_dst (N := 3) rfl ?_); refine box_event ?hg (N := 3) ?hd (cs := #[.bool false, .bool false, .int .i64 0, .int .i64 0]) (t := 25) ?hr ?_; (case hd => rfl); (case hg => rfl); (case hr => first | (go_simp; done) | (go_simp; rfl)); intro g1 hg w4 hbox hb; have n0_ := Aside0.mk (blk_below (g := g0) (o := .cells #[.bool false, .bool false, .int .i64 0, .int .i64 0] 25 (0, 0)) (by (with_reducible repeat (first | refine blk_drewN ?_ _ | refine blk_drew ?_ | refine blk_alloc ?_ _)); exact BK0.out) hb); have n1_ := Aside0.mk (below_step (by repeat (first | (with_reducible first | exact HB.out | apply below_alloc | apply pw_below_drewN | apply below_drew1 | refine below_set ?_ GE0.out) | exact HB.out)) hb); have n2_ := Aside0.mk hbox; have n3_ := Aside0.mk ((by rw [hg]; exact (below_size (by repeat (first | (with_reducible first | exact HB.out | apply below_alloc | apply pw_below_drewN | apply below_drew1 | refine below_set ?_ GE0.out) | exact HB.out)))) : w.heap.size ≤ g1); have n5_ := Aside0.mk ((by rw [hg]; exact Nat.ne_of_lt (blk_lt (g := g0) (o := .cells #[.bool false, .bool false, .int .i64 0, .int .i64 0] 25 (0, 0)) (by (with_reducible repeat (first | refine blk_drewN ?_ _ | refine blk_drew ?_ | refine blk_alloc ?_ _)); exact BK0.out))) : g0 ≠ g1); have n6_ := Aside0.mk (Ne.symm n5_.out); clear BK0 HB; have BK0 := n0_; have HB := n1_; have BK1 := n2_; have GE1 := n3_; have N01 := n5_; have N10 := n6_; clear n0_ n1_ n2_ n3_ n5_ n6_; clear hb hbox hg; have hn0 := N10.out; have hn1 := N01.out; have ca_0 : w4.cell? ⟨g1, 0, none⟩ = some (.bool false) := (blk_cell BK1.out 0).trans rfl; have fa_0 := blk_frozen BK1.out 0; have ca_1 : w4.cell? ⟨g1, 1, none⟩ = some (.bool false) := (blk_cell BK1.out 1).trans rfl; have fa_1 := blk_frozen BK1.out 1; have ca_2 : w4.cell? ⟨g1, 2, none⟩ = some (.int .i64 0) := (blk_cell BK1.out 2).trans rfl; have fa_2 := blk_frozen BK1.out 2; have ca_3 : w4.cell? ⟨g1, 3, none⟩ = some (.int .i64 0) := (blk_cell BK1.out 3).trans rfl; have fa_3 := blk_frozen BK1.out 3))
  go_loopg [4, 5] k (fun kq v4 v5 w' => ∃ (x4 : Int) (x5 : Int) (s0 : Bool) (s1 : Bool) (s2 : Int) (s3 : Int), v4 = .int .i64 x4 ∧ v5 = .int .i64 x5 ∧ Aside0 (spec_ControlOf.l0 kq a0 x4 x5 s0 s1 s2 s3 = some (r1, r2, r3, r4)) ∧ Aside0 (kq ≤ k) ∧ Aside0 (w'.heap[g0]? = some (.cells #[.bool false, .bool false, .int .i64 0, .int .i64 0] 25 (0, 0))) ∧ Aside0 (w'.heap[g1]? = some (.cells #[.bool s0, .bool s1, .int .i64 s2, .int .i64 s3] 25 (0, 0))) ∧ Aside0 (Below w.heap.size w w'))
  case atStart => exact ⟨0, 0, false, false, -1, -1, rfl, rfl, H', ⟨Nat.le_refl _⟩, ⟨by (with_reducible repeat (first | refine blk_drewN ?_ _ | refine blk_drew ?_ | refine blk_alloc ?_ _)); refine blk_far ?_ N01.out _; (with_reducible repeat (first | refine blk_drewN ?_ _ | refine blk_drew ?_ | refine blk_alloc ?_ _)); refine blk_far ?_ N01.out _; (with_reducible repeat (first | refine blk_drewN ?_ _ | refine blk_drew ?_ | refine blk_alloc ?_ _)); refine blk_far ?_ N01.out _; (with_reducible repeat (first | refine blk_drewN ?_ _ | refine blk_drew ?_ | refine blk_alloc ?_ _)); refine blk_far ?_ N01.out _; (with_reducible repeat (first | refine blk_drewN ?_ _ | refine blk_drew ?_ | refine blk_alloc ?_ _)); exact BK0.out⟩, ⟨by (with_reducible repeat (first | refine blk_drewN ?_ _ | refine blk_drew ?_ | refine blk_alloc ?_ _)); refine blk_put (cs := #[.bool false, .bool false, .int .i64 (-1), .int .i64 0]) ?_ 3 _ rfl; (with_reducible repeat (first | refine blk_drewN ?_ _ | refine blk_drew ?_ | refine blk_alloc ?_ _)); refine blk_put (cs := #[.bool false, .bool false, .int .i64 0, .int .i64 0]) ?_ 2 _ rfl; (with_reducible repeat (first | refine blk_drewN ?_ _ | refine blk_drew ?_ | refine blk_alloc ?_ _)); refine blk_put (cs := #[.bool false, .bool false, .int .i64 0, .int .i64 0]) ?_ 1 _ rfl; (with_reducible repeat (first | refine blk_drewN ?_ _ | refine blk_drew ?_ | refine blk_alloc ?_ _)); refine blk_put (cs := #[.bool false, .bool false, .int .i64 0, .int .i64 0]) ?_ 0 _ rfl; (with_reducible repeat (first | refine blk_drewN ?_ _ | refine blk_drew ?_ | refine blk_alloc ?_ _)); exact BK1.out⟩, ⟨by repeat (first | (with_reducible first | exact HB.out | apply below_alloc | apply pw_below_drewN | apply below_drew1 | refine below_set ?_ GE0.out | refine below_set ?_ GE1.out) | exact HB.out)⟩⟩
  case round =>
    clear H' ca_0 ca_1 ca_2 ca_3 fa_0 fa_1 fa_2 fa_3 BK0 BK1 HB
    obtain ⟨x4, x5, s0, s1, s2, s3, rfl, rfl, HA, HK1, BK0, BK1, HB⟩ := hrel
    cases gk with
    | zero => exact absurd HA.out (by simp [spec_ControlOf.l0])
    | succ k1 =>
      have H := HA.out
      clear HA
      simp only [spec_ControlOf.l0] at H
      by_cases c1 : x5 ≤ (a0.size : Int)
      · rw [if_pos c1] at H
        have c1b : decide (x5 ≤ (a0.size : Int)) = true := decide_eq_true c1
        by_cases c2 : x5 = (a0.size : Int)
        · rw [if_pos c2] at H
          have c2b : (x5 == (a0.size : Int)) = true := beq_iff_eq.2 c2
          clear c2
          by_cases d1 : 0 ≤ x4
          · rw [if_pos d1] at H
            by_cases d2 : x4 ≤ x5
            · rw [if_pos d2] at H
              rw [if_pos c1] at H
              replace H := Option.bind_eq_some_iff.mp H
              obtain ⟨⟨t0, t1, t2, t3⟩, A10, H⟩ := H
              have A1 := Aside0.mk A10
              clear A10
              have H' := Aside0.mk H
              clear H
              have d1b : decide (0 ≤ x4) = true := decide_eq_true d1
              have d2b : decide (x4 ≤ x5) = true := decide_eq_true d2
              have d3b : decide (0 ≤ x5) = true := decide_eq_true (by omega)
              have e1 := eq_true d1
              have e2 := eq_true d2
              have e3 := eq_true c1
              have e4 : (0 ≤ x5) = True := eq_true (by omega)
              clear d1 d2 c1
              have hI0 := Aside0.mk (show IsS25 w wr g1 s0 s1 s2 s3 from ⟨BK1.out, GE1.out⟩)
              go_wp2_with (first | (go_at_call 33; (with_reducible refine (spec_l10Part.calls k1 g1 s0 s1 s2 s3 (a0.extract x4.toNat x5.toNat) t0 t1 t2 t3 w _ hI0.out HB.out A1.out).mono ?_); rintro e w7 ⟨rfl, hI, hB, hK⟩; have n0_ := Aside0.mk (show w7.heap[g0]? = some (.cells #[.bool false, .bool false, .int .i64 0, .int .i64 0] 25 (0, 0)) from by rw [hK.2 g0 (blk_lt BK0.out) N01.out (by simp)]; exact BK0.out); have n1_ := Aside0.mk hI.1; have n2_ := Aside0.mk hB; clear hI0 BK0 BK1 HB hI hB hK; have BK0 := n0_; have BK1 := n1_; have HB := n2_; clear n0_ n1_ n2_))
              go_roundg k1
              case measure => have := HK1.out; omega
              case rel => exact ⟨wrap64 (x5 + 1), wrap64 (x5 + 1), t0, t1, t2, t3, (by first | rfl | (simp; done) | (simp [*]; done)), (by first | rfl | (simp; done) | (simp [*]; done)), H', ⟨by have := HK1.out; omega⟩, BK0, BK1, HB⟩
            · rw [if_neg d2] at H; exact absurd H (by simp)
          · rw [if_neg d1] at H; exact absurd H (by simp)
        · rw [if_neg c2] at H
          have c2b : (x5 == (a0.size : Int)) = false := beq_eq_false_iff_ne.2 c2
          clear c2
          by_cases c3 : 0 ≤ x5
          · rw [if_pos c3] at H
            by_cases c4 : x5 < (a0.size : Int)
            · rw [if_pos c4] at H
              have p3 := eq_true c3
              have q3 := eq_true c4
              have hx3 := bt_at a0 x5
              by_cases c5 : bt a0 x5 = 44
              · rw [if_pos c5] at H
                have c5b : (bt a0 x5 == 44) = true := beq_iff_eq.2 c5
                clear c5
                by_cases d1 : 0 ≤ x4
                · rw [if_pos d1] at H
                  by_cases d2 : x4 ≤ x5
                  · rw [if_pos d2] at H
                    rw [if_pos c1] at H
                    replace H := Option.bind_eq_some_iff.mp H
                    obtain ⟨⟨t0, t1, t2, t3⟩, A10, H⟩ := H
                    have A1 := Aside0.mk A10
                    clear A10
                    have H' := Aside0.mk H
                    clear H
                    have d1b : decide (0 ≤ x4) = true := decide_eq_true d1
                    have d2b : decide (x4 ≤ x5) = true := decide_eq_true d2
                    have d3b : decide (0 ≤ x5) = true := decide_eq_true (by omega)
                    have e1 := eq_true d1
                    have e2 := eq_true d2
                    have e3 := eq_true c1
                    have e4 : (0 ≤ x5) = True := eq_true (by omega)
                    clear d1 d2 c1
                    have hI0 := Aside0.mk (show IsS25 w wr g1 s0 s1 s2 s3 from ⟨BK1.out, GE1.out⟩)
                    go_wp2_with (first | (go_at_call 33; (with_reducible refine (spec_l10Part.calls k1 g1 s0 s1 s2 s3 (a0.extract x4.toNat x5.toNat) t0 t1 t2 t3 w _ hI0.out HB.out A1.out).mono ?_); rintro e w7 ⟨rfl, hI, hB, hK⟩; have n0_ := Aside0.mk (show w7.heap[g0]? = some (.cells #[.bool false, .bool false, .int .i64 0, .int .i64 0] 25 (0, 0)) from by rw [hK.2 g0 (blk_lt BK0.out) N01.out (by simp)]; exact BK0.out); have n1_ := Aside0.mk hI.1; have n2_ := Aside0.mk hB; clear hI0 BK0 BK1 HB hI hB hK; have BK0 := n0_; have BK1 := n1_; have HB := n2_; clear n0_ n1_ n2_))
                    go_roundg k1
                    case measure => have := HK1.out; omega
                    case rel => exact ⟨wrap64 (x5 + 1), wrap64 (x5 + 1), t0, t1, t2, t3, (by first | rfl | (simp; done) | (simp [*]; done)), (by first | rfl | (simp; done) | (simp [*]; done)), H', ⟨by have := HK1.out; omega⟩, BK0, BK1, HB⟩
                  · rw [if_neg d2] at H; exact absurd H (by simp)
                · rw [if_neg d1] at H; exact absurd H (by simp)
              · rw [if_neg c5] at H
                have c5b : (bt a0 x5 == 44) = false := beq_eq_false_iff_ne.2 c5
                clear c5 c4 c3 c1
                have H' := Aside0.mk H
                clear H
                go_wp2
                go_roundg k1
                case measure => have := HK1.out; omega
                case rel => exact ⟨x4, wrap64 (x5 + 1), s0, s1, s2, s3, rfl, (by first | rfl | (simp; done) | (simp [*]; done)), H', ⟨by have := HK1.out; omega⟩, BK0, BK1, HB⟩
            · rw [if_neg c4] at H; exact absurd H (by simp)
          · rw [if_neg c3] at H; exact absurd H (by simp)
      · rw [if_neg c1] at H
        have c1b : decide (x5 ≤ (a0.size : Int)) = false := decide_eq_false c1
        clear c1
        simp only [Option.some.injEq, Prod.mk.injEq] at H
        obtain ⟨rfl, rfl, rfl, rfl⟩ := H
        have hn0 := N10.out
        have hn1 := N01.out
        have cb_0 : wr.cell? ⟨g1, 0, none⟩ = some (.bool s0) := (blk_cell BK1.out 0).trans rfl
        have fb_0 := blk_frozen BK1.out 0
        have cb_1 : wr.cell? ⟨g1, 1, none⟩ = some (.bool s1) := (blk_cell BK1.out 1).trans rfl
        have fb_1 := blk_frozen BK1.out 1
        have cb_2 : wr.cell? ⟨g1, 2, none⟩ = some (.int .i64 s2) := (blk_cell BK1.out 2).trans rfl
        have fb_2 := blk_frozen BK1.out 2
        have cb_3 : wr.cell? ⟨g1, 3, none⟩ = some (.int .i64 s3) := (blk_cell BK1.out 3).trans rfl
        have fb_3 := blk_frozen BK1.out 3
        have cd_0 : wr.cell? ⟨g0, 0, none⟩ = some (.bool false) := (blk_cell BK0.out 0).trans rfl
        have fd_0 := blk_frozen BK0.out 0
        have cd_1 : wr.cell? ⟨g0, 1, none⟩ = some (.bool false) := (blk_cell BK0.out 1).trans rfl
        have fd_1 := blk_frozen BK0.out 1
        have cd_2 : wr.cell? ⟨g0, 2, none⟩ = some (.int .i64 0) := (blk_cell BK0.out 2).trans rfl
        have fd_2 := blk_frozen BK0.out 2
        have cd_3 : wr.cell? ⟨g0, 3, none⟩ = some (.int .i64 0) := (blk_cell BK0.out 3).trans rfl
        have fd_3 := blk_frozen BK0.out 3
        go_wp2
        refine bodyPost_ret (results_cell_row rfl _ _ g0 25 #[.bool s0, .bool s1, .int .i64 s2, .int .i64 s3] (0, 0) _ rfl (by (with_reducible repeat (first | refine blk_drewN ?_ _ | refine blk_drew ?_ | refine blk_alloc ?_ _)); refine blk_put (cs := #[.bool s0, .bool s1, .int .i64 s2, .int .i64 0]) ?_ 3 _ rfl; (with_reducible repeat (first | refine blk_drewN ?_ _ | refine blk_drew ?_ | refine blk_alloc ?_ _)); refine blk_put (cs := #[.bool s0, .bool s1, .int .i64 0, .int .i64 0]) ?_ 2 _ rfl; (with_reducible repeat (first | refine blk_drewN ?_ _ | refine blk_drew ?_ | refine blk_alloc ?_ _)); refine blk_put (cs := #[.bool s0, .bool false, .int .i64 0, .int .i64 0]) ?_ 1 _ rfl; (with_reducible repeat (first | refine blk_drewN ?_ _ | refine blk_drew ?_ | refine blk_alloc ?_ _)); refine blk_put (cs := #[.bool false, .bool false, .int .i64 0, .int .i64 0]) ?_ 0 _ rfl; (with_reducible repeat (first | refine blk_drewN ?_ _ | refine blk_drew ?_ | refine blk_alloc ?_ _)); exact BK0.out) Tryd.underlying25 rfl (by kernel_rfl)) rfl ?_
        exact ⟨by first | rfl | (simp; done), by repeat (first | (with_reducible first | exact HB.out | apply below_alloc | apply pw_below_drewN | apply below_drew1 | refine below_set ?_ GE0.out | refine below_set ?_ GE1.out) | exact HB.out)⟩
end Go.Proofs.YthjigecaojaalaaDoor.Q
