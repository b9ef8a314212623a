import Derived.Test.YtiibecpllokhiaaDoorHtB0
import Derived.Test.YtiibecpllokhiaaDoorHtG13
import Derived.Test.YtiibecpllokhiaaDoorHtG79
import Derived.Test.YtiibecpllokhiaaDoorHtWords
namespace Go.Proofs.YtiibecpllokhiaaDoor.Q
open Go.RowKit Go.Proofs.YtiibecpllokhiaaDoorW.PrintWords Go.Proofs.YtiibecpllokhiaaDoorW.PrintLast Go.Proofs.YtiibecpllokhiaaDoorW.PrintMore
attribute [local go_sem] max2_int min2_int max_two min_two max_three min_three max_four min_four   -- for this text's walks alone
set_option linter.unusedVariables false
set_option linter.unusedSimpArgs false
def spec_l01Long.l0 : Nat → Int → Int → List Int → Int → Option (ByteArray)
  | 0, _, _, _, _ => none
  | k + 1, x0, x1, x5, x6 => if x6 < x0 then (if 0 ≤ x6 then (if x6 < (x5.length : Int) then (spec_l01Long.l0 k x0 x1 (x5.set (x6 : Int).toNat x1) (wrap64 (x6 + 1))) else (none)) else (none)) else (some (strOfNums x5))
def spec_l01Long.f (k : Nat) (a0 : Int) (a1 : Int) : Option (ByteArray) := if 0 ≤ a0 then (if (a0 : Int).toNat ≤ 281474976710656 then (spec_l01Long.l0 k a0 a1 (List.replicate (a0 : Int).toNat 0) 0) else (none)) else (none)
set_option maxHeartbeats 8000000 in
set_option maxRecDepth 100000 in
theorem spec_l01Long.calls (k : Nat) (a0 : Int) (a1 : Int) (r : ByteArray) (w : World) (h : spec_l01Long.f k a0 a1 = some r) :
    Calls Tryd.prog 77 #[.int .i64 a0, .int .u8 a1] w fun e w' => e = .returned (.string r) ∧ Below w.heap.size w w' := by
  have HB := Aside0.mk (Below.refl w.heap.size w)
  have H : (if 0 ≤ a0 then (if (a0 : Int).toNat ≤ 281474976710656 then (spec_l01Long.l0 k a0 a1 (List.replicate (a0 : Int).toNat 0) 0) else (none)) else (none)) = some r := h
  clear h
  by_cases c3 : 0 ≤ a0
  · rw [if_pos c3] at H
    have c3b0 := eq_true c3
    have c3b1 : decide (0 ≤ a0) = true := decide_eq_true c3
    clear c3
    by_cases c4 : (a0 : Int).toNat ≤ 281474976710656
    · rw [if_pos c4] at H
      have c4b0 := eq_true c4
      have c4b1 : decide ((a0 : Int).toNat ≤ 281474976710656) = true := decide_eq_true c4
      clear c4
      obtain ⟨y456, hy456⟩ : ∃ y_ : List Int, y_ = (List.replicate (a0 : Int).toNat 0) := ⟨_, rfl⟩
      replace H : (spec_l01Long.l0 k a0 a1 y456 0) = some r := by (rw [hy456]; with_reducible exact H)
      have Ny456 := Aside0.mk hy456
      clear hy456
      have H' := Aside0.mk H
      clear H
      go_enter Tryd.func77, Tryd.ntmps77
      go_wp2_with (((with_reducible refine gate_dst (N := 8) rfl ?_); refine Kd.R_make (Kd.int .u8) _ 5 rfl (N := 8) rfl 22 _ _ rfl a0 rfl rfl Tryd.underlying22 (.int .u8 0) 1 info5 rfl (by decide) (by omega) 0 (ok := fun _ => True) (okp := fun _ => True) rfl (fun _ hk => hk) trivial (of_decide_eq_true (by (with_reducible assumption))) (Nat.le_trans (Nat.mul_le_mul_right _ (of_decide_eq_true (by (with_reducible assumption)) : a0.toNat ≤ 281474976710656)) (by omega)) (Below.refl _ _) (Nat.le_refl _) ?_; intro v457 w5 ho6 hb hg_ hnew_; clear hg_ hnew_; (rw [← Ny456.out] at ho6); have n0_ := Aside0.mk (Kd.R_lower ho6 (below_size (by repeat ((with_reducible exact HB.out))))); have n1_ := Aside0.mk (below_step (by repeat ((with_reducible exact HB.out))) hb); clear HB; have HO458 := n0_; have HB := n1_; clear n0_ n1_; clear hb ho6))
      go_loopg [6] k (fun kq v6 w' => ∃ (x5_1 : List Int) (x6_1 : Int), v6 = .int .i64 x6_1 ∧ Aside0 (spec_l01Long.l0 kq a0 a1 x5_1 x6_1 = some r) ∧ Aside0 (kq ≤ k) ∧ Aside0 (Kd.R (Kd.int .u8) 5 w' w.heap.size (fun _ => True) v457 x5_1) ∧ Aside0 (Below w.heap.size w w'))
      case atStart => exact ⟨(y456), (0), (by rfl), H', ⟨Nat.le_refl _⟩, ⟨by (with_reducible repeat (first | apply Kd.R_alloc | apply Kd.R_drewN | apply Kd.R_drew )); exact HO458.out⟩, ⟨by repeat ((with_reducible exact HB.out))⟩⟩
      case round =>
        clear H'
        clear c3b0
        clear c3b1
        clear c4b0
        clear c4b1
        obtain ⟨x5_1, x6_1, rfl, HA, HK1, HO_5, HB⟩ := hrel
        cases gk with
        | zero => exact absurd HA.out (by simp [spec_l01Long.l0])
        | succ k1 =>
          have H := HA.out
          clear HA
          simp only [spec_l01Long.l0] at H
          by_cases c7 : x6_1 < a0
          · rw [if_pos c7] at H
            have c7b0 : decide (x6_1 < a0) = true := decide_eq_true c7
            clear c7
            by_cases c8 : 0 ≤ x6_1
            · rw [if_pos c8] at H
              have c8b0 : decide (0 ≤ x6_1) = true := decide_eq_true c8
              clear c8
              by_cases c9 : x6_1 < (x5_1.length : Int)
              · rw [if_pos c9] at H
                have c9b0 : decide (x6_1 < (x5_1.length : Int)) = true := decide_eq_true c9
                clear c9
                obtain ⟨y459, hy459⟩ : ∃ y_ : List Int, y_ = (x5_1.set (x6_1 : Int).toNat a1) := ⟨_, rfl⟩
                replace H : (spec_l01Long.l0 k1 a0 a1 y459 (wrap64 (x6_1 + 1))) = some r := by (rw [hy459]; with_reducible exact H)
                have Ny459 := Aside0.mk hy459
                clear hy459
                have H' := Aside0.mk H
                clear H
                have p10 : 0 ≤ (x6_1 : Int) := of_decide_eq_true (by (with_reducible assumption))
                have q10 : (x6_1 : Int) < ((x5_1.length : Int) : Int) := of_decide_eq_true (by (with_reducible assumption))
                obtain ⟨go10, co10, eo10, gb10, gl10, cl10, HG10⟩ := Kd.R_form HO_5.out (by omega)
                (cases eo10)
                have GB10 := Aside0.mk gb10
                have GG10 := Aside0.mk HG10
                clear gb10 gl10 HG10
                obtain ⟨hx10_0, hf10_0⟩ := Kd.R_celln 0 HO_5.out (x6_1 : Int) p10 q10
                replace p10 := eq_true p10
                replace q10 := eq_true q10
                have HP11 := Kd.R_putg HO_5.out (x6_1 : Int) a1
                go_wp2_with (((with_reducible refine gate_store (t := 5) (p := 17) rfl ?_); refine store_event (t := 5) (p := 17) (v := ?vo_w12) (w1 := (wr.setCell ⟨go10, (x6_1 : Int).toNat, none⟩ (.int .u8 a1))) ?hg ?ho ?hn ?hr ?_; (case ho => rfl); (case hg => rfl); (case hn => rfl); (case hr => (go_simp; done)); intro w12 hw; have hg : wr.grownBy w12 (some go10) := (by rw [hw]; exact HP11.2); have hp_ : Kd.R (Kd.int .u8) 5 w12 w.heap.size (fun _ => True) (.slice (some ⟨go10, 0, none⟩) x5_1.length co10) y459 := (by rw [hw, Ny459.out]; exact HP11.1); clear HP11; have n0_ := Aside0.mk (hp_); have n1_ := Aside0.mk ((by rw [hw]; exact below_set (HB.out) GB10.out : Below w.heap.size w w12)); clear HO_5; clear HB; have HO_5 := n0_; have HB := n1_; clear n0_ n1_; clear hg hw hp_))
                go_roundg k1
                case measure => have := HK1.out; omega
                case rel => exact ⟨(y459), (wrap64 (x6_1 + 1)), (by rfl), H', ⟨by have := HK1.out; omega⟩, ⟨by (with_reducible repeat (first | apply Kd.R_alloc | apply Kd.R_drewN | apply Kd.R_drew )); exact HO_5.out⟩, ⟨by repeat ((with_reducible exact HB.out))⟩⟩
              · rw [if_neg c9] at H
                exact absurd H (by simp)
            · rw [if_neg c8] at H
              exact absurd H (by simp)
          · rw [if_neg c7] at H
            have c7b0 : decide (x6_1 < a0) = false := decide_eq_false c7
            clear c7
            obtain rfl := Option.some.inj H
            have hcv13 := own_string (P := Tryd.prog) Tryd.underlying22 Tryd.underlying5 Tryd.underlying9 (Kd.own_of_R HO_5.out)
            go_wp2
            go_ret
            exact ⟨by rfl, by repeat ((with_reducible exact HB.out))⟩
    · rw [if_neg c4] at H
      exact absurd H (by simp)
  · rw [if_neg c3] at H
    exact absurd H (by simp)
def spec_l09Any.l0 : Nat → Int → List Int → Int → Int → ByteArray → List (S40) → Option (ByteArray × (List (S40)) × Int × Int)
  | 0, _, _, _, _, _, _ => none
  | k + 1, x4, x1000, x1001, x1002, x474000, x474001 => if (x474001.length : Int) < (wrap64 (8 + (Int.tmod x4 2))) then ((spec_l01Long.f k (Int.tmod x4 40) 97).bind fun t493 => (if x474001.length < 4398046511104 then (spec_l09Any.l0 k x4 x1000 x1001 x1002 x474000 (x474001 ++ [(⟨(⟨#[121]⟩ : ByteArray), t493⟩ : S40)])) else (none))) else (some (x474000, x474001, x1001, x1002))
def spec_l09Any.f (k : Nat) (s0_0 : List Int) (s0_1 : Int) (s0_2 : Int) : Option (ByteArray × (List (S40)) × Int × Int) := (spec_l01Below.f s0_0 s0_1 s0_2 12).bind fun bt461 => ((spec_l01Below.f s0_0 bt461.2.1 bt461.2.2 60).bind fun bt464 => ((spec_l09Head.f k s0_0 bt464.2.1 bt464.2.2).bind fun bt467 => (if bt461.1 = 0 then ((spec_l01Long.f k 80 65).bind fun t474 => ((spec_l01Long.f k 81 65).bind fun t475 => ((some (([(⟨#[]⟩ : ByteArray), t474, t475, (⟨#[97, 13, 98]⟩ : ByteArray), (⟨#[71, 69, 84, 32, 47, 97, 32, 98, 32, 72, 84, 84, 80, 47, 49, 46, 49]⟩ : ByteArray), (⟨#[72, 84, 84, 80, 47, 49, 46, 49, 32, 55, 48, 48, 32, 120]⟩ : ByteArray), (⟨#[71, 69, 84, 32, 47, 32, 72, 84, 84, 80, 47, 49, 46, 49]⟩ : ByteArray)] : List ByteArray) : List ByteArray)).bind fun y476 => (if 0 ≤ (Int.tmod bt464.1 7) then (if (Int.tmod bt464.1 7) < (y476.length : Int) then (some (rdOf ByteArray.empty y476 (Int.tmod bt464.1 7), bt467.2.1, bt467.2.2.1, bt467.2.2.2)) else (none)) else (none))))) else (if bt461.1 = 1 then (if (bt467.2.1.length : Int) > 0 then ((spec_l01Long.f k 21 97).bind fun t480 => ((some (([(⟨#[]⟩ : ByteArray), (⟨#[65]⟩ : ByteArray), (⟨#[97, 32, 98]⟩ : ByteArray), t480, (⟨#[45]⟩ : ByteArray)] : List ByteArray) : List ByteArray)).bind fun y481 => (if 0 ≤ (Int.tmod bt464.1 5) then (if (Int.tmod bt464.1 5) < (y481.length : Int) then (if 0 < (bt467.2.1.length : Int) then (some (bt467.1, (bt467.2.1.set (0 : Int).toNat (⟨rdOf ByteArray.empty y481 (Int.tmod bt464.1 5), (rd_T40 bt467.2.1 0).f1⟩ : S40)), bt467.2.2.1, bt467.2.2.2)) else (none)) else (none)) else (none)))) else (some (bt467.1, bt467.2.1, bt467.2.2.1, bt467.2.2.2))) else (if bt461.1 = 2 then (if (bt467.2.1.length : Int) > 0 then ((spec_l01Long.f k 60 97).bind fun t486 => ((spec_l01Long.f k 61 97).bind fun t487 => ((some (([(⟨#[32, 97]⟩ : ByteArray), (⟨#[97, 32]⟩ : ByteArray), t486, t487, (⟨#[10]⟩ : ByteArray)] : List ByteArray) : List ByteArray)).bind fun y488 => (if 0 ≤ (Int.tmod bt464.1 5) then (if (Int.tmod bt464.1 5) < (y488.length : Int) then (if 0 < (bt467.2.1.length : Int) then (some (bt467.1, (bt467.2.1.set (0 : Int).toNat (⟨(rd_T40 bt467.2.1 0).f0, rdOf ByteArray.empty y488 (Int.tmod bt464.1 5)⟩ : S40)), bt467.2.2.1, bt467.2.2.2)) else (none)) else (none)) else (none))))) else (some (bt467.1, bt467.2.1, bt467.2.2.1, bt467.2.2.2))) else (if bt461.1 = 3 then (spec_l09Any.l0 k bt464.1 s0_0 bt467.2.2.1 bt467.2.2.2 bt467.1 bt467.2.1) else (some (bt467.1, bt467.2.1, bt467.2.2.1, bt467.2.2.2))))))))
def spec_l09Any.T9 : Bool × List (List Nat × List Nat) := (true, [([], []), ([0], [0]), ([], []), ([2], [2]), ([], []), ([4], [4]), ([3, 5], [3, 5]), ([6], [6]), ([1, 0, 1, 2, 3, 4, 5, 6, 7], [1]), ([8, 0, 1, 2, 3, 4, 5, 6, 7], [8]), ([9, 7, 2, 0, 1, 2, 3, 4, 5, 6, 7], [7, 9])])
def spec_l09Any.B9 : List Nat := [0, 1, 0, 4, 0, 16, 60, 124, 255, 511, 1023]
theorem spec_l09Any.tab9 : rtab .any (opsOf Tryd.f69 9) = spec_l09Any.T9 := by kernel_rfl
theorem spec_l09Any.bits9 : waitsOk spec_l09Any.T9.2 spec_l09Any.B9 = true := by kernel_rfl
def spec_l09Any.T12 : Bool × List (List Nat × List Nat) := (true, [([], []), ([0], [0]), ([], []), ([2], []), ([2, 3], [2, 3]), ([], []), ([5], [5]), ([4, 6], [4, 6]), ([7], [7]), ([1, 0, 1, 2, 3, 4, 5, 6, 7, 8], [1]), ([9, 0, 1, 2, 3, 4, 5, 6, 7, 8], [9]), ([10, 8, 3, 0, 1, 2, 3, 4, 5, 6, 7, 8], [8, 10])])
def spec_l09Any.B12 : List Nat := [0, 1, 0, 4, 12, 0, 32, 124, 252, 511, 1023, 2047]
theorem spec_l09Any.tab12 : rtab .any (opsOf Tryd.f69 12) = spec_l09Any.T12 := by kernel_rfl
theorem spec_l09Any.bits12 : waitsOk spec_l09Any.T12.2 spec_l09Any.B12 = true := by kernel_rfl
def spec_l09Any.T15 : Bool × List (List Nat × List Nat) := (true, [([], []), ([0], [0]), ([], []), ([2], [2]), ([3], [3]), ([4], [4]), ([5], [5]), ([1, 6, 4], [1, 6]), ([0, 1, 2, 3, 4, 5, 6, 7], []), ([8, 7, 7, 0, 1, 2, 3, 4, 5, 6, 7], [7, 8])])
def spec_l09Any.B15 : List Nat := [0, 1, 0, 4, 12, 28, 60, 127, 255, 511]
theorem spec_l09Any.tab15 : rtab .any (opsOf Tryd.f69 15) = spec_l09Any.T15 := by kernel_rfl
theorem spec_l09Any.bits15 : waitsOk spec_l09Any.T15.2 spec_l09Any.B15 = true := by kernel_rfl
set_option maxHeartbeats 8000000 in
set_option maxRecDepth 100000 in
theorem spec_l09Any.calls (k : Nat) (g : Nat) (s0_0 : List Int) (s0_1 : Int) (s0_2 : Int) (r1 : ByteArray) (r2 : List (S40)) (r3 : Int) (r4 : Int) (w0 w : World) (hI : IsS91 w0 w g s0_0 s0_1 s0_2) (hB : Below w0.heap.size w0 w) (h : spec_l09Any.f k s0_0 s0_1 s0_2 = some (r1, r2, r3, r4)) :
    Calls Tryd.prog 69 #[.pointer (some ⟨g, 0, none⟩)] w fun e w' => ∃ v1_ : Value, e = .returned (.agg #[.string r1, v1_]) ∧ Kd.R k40 40 w' w.heap.size (fun _ => True) v1_ r2 ∧ IsS91 w0 w' g s0_0 r3 r4 ∧ Below w0.heap.size w0 w' ∧ KeepBut w w' g none := by
  have hu26 := Tryd.underlying26
  have hu40 := Tryd.underlying40
  have HI0 := Aside0.mk hI
  have HK := Aside0.mk (KeepBut.refl w g none)
  have HL := Aside0.mk hB.size
  clear hI
  have HW0 := Aside0.mk hB.size
  have HB := Aside0.mk hB
  clear hB
  have H : ((spec_l01Below.f s0_0 s0_1 s0_2 12).bind fun bt461 => ((spec_l01Below.f s0_0 bt461.2.1 bt461.2.2 60).bind fun bt464 => ((spec_l09Head.f k s0_0 bt464.2.1 bt464.2.2).bind fun bt467 => (if bt461.1 = 0 then ((spec_l01Long.f k 80 65).bind fun t474 => ((spec_l01Long.f k 81 65).bind fun t475 => ((some (([(⟨#[]⟩ : ByteArray), t474, t475, (⟨#[97, 13, 98]⟩ : ByteArray), (⟨#[71, 69, 84, 32, 47, 97, 32, 98, 32, 72, 84, 84, 80, 47, 49, 46, 49]⟩ : ByteArray), (⟨#[72, 84, 84, 80, 47, 49, 46, 49, 32, 55, 48, 48, 32, 120]⟩ : ByteArray), (⟨#[71, 69, 84, 32, 47, 32, 72, 84, 84, 80, 47, 49, 46, 49]⟩ : ByteArray)] : List ByteArray) : List ByteArray)).bind fun y476 => (if 0 ≤ (Int.tmod bt464.1 7) then (if (Int.tmod bt464.1 7) < (y476.length : Int) then (some (rdOf ByteArray.empty y476 (Int.tmod bt464.1 7), bt467.2.1, bt467.2.2.1, bt467.2.2.2)) else (none)) else (none))))) else (if bt461.1 = 1 then (if (bt467.2.1.length : Int) > 0 then ((spec_l01Long.f k 21 97).bind fun t480 => ((some (([(⟨#[]⟩ : ByteArray), (⟨#[65]⟩ : ByteArray), (⟨#[97, 32, 98]⟩ : ByteArray), t480, (⟨#[45]⟩ : ByteArray)] : List ByteArray) : List ByteArray)).bind fun y481 => (if 0 ≤ (Int.tmod bt464.1 5) then (if (Int.tmod bt464.1 5) < (y481.length : Int) then (if 0 < (bt467.2.1.length : Int) then (some (bt467.1, (bt467.2.1.set (0 : Int).toNat (⟨rdOf ByteArray.empty y481 (Int.tmod bt464.1 5), (rd_T40 bt467.2.1 0).f1⟩ : S40)), bt467.2.2.1, bt467.2.2.2)) else (none)) else (none)) else (none)))) else (some (bt467.1, bt467.2.1, bt467.2.2.1, bt467.2.2.2))) else (if bt461.1 = 2 then (if (bt467.2.1.length : Int) > 0 then ((spec_l01Long.f k 60 97).bind fun t486 => ((spec_l01Long.f k 61 97).bind fun t487 => ((some (([(⟨#[32, 97]⟩ : ByteArray), (⟨#[97, 32]⟩ : ByteArray), t486, t487, (⟨#[10]⟩ : ByteArray)] : List ByteArray) : List ByteArray)).bind fun y488 => (if 0 ≤ (Int.tmod bt464.1 5) then (if (Int.tmod bt464.1 5) < (y488.length : Int) then (if 0 < (bt467.2.1.length : Int) then (some (bt467.1, (bt467.2.1.set (0 : Int).toNat (⟨(rd_T40 bt467.2.1 0).f0, rdOf ByteArray.empty y488 (Int.tmod bt464.1 5)⟩ : S40)), bt467.2.2.1, bt467.2.2.2)) else (none)) else (none)) else (none))))) else (some (bt467.1, bt467.2.1, bt467.2.2.1, bt467.2.2.2))) else (if bt461.1 = 3 then (spec_l09Any.l0 k bt464.1 s0_0 bt467.2.2.1 bt467.2.2.2 bt467.1 bt467.2.1) else (some (bt467.1, bt467.2.1, bt467.2.2.1, bt467.2.2.2))))))))) = some (r1, r2, r3, r4) := h
  clear h
  replace H := Option.bind_eq_some_iff.mp H
  obtain ⟨⟨t461, t462, t463⟩, A20, H⟩ := H
  replace H : ((spec_l01Below.f s0_0 t462 t463 60).bind fun bt464 => ((spec_l09Head.f k s0_0 bt464.2.1 bt464.2.2).bind fun bt467 => (if t461 = 0 then ((spec_l01Long.f k 80 65).bind fun t474 => ((spec_l01Long.f k 81 65).bind fun t475 => ((some (([(⟨#[]⟩ : ByteArray), t474, t475, (⟨#[97, 13, 98]⟩ : ByteArray), (⟨#[71, 69, 84, 32, 47, 97, 32, 98, 32, 72, 84, 84, 80, 47, 49, 46, 49]⟩ : ByteArray), (⟨#[72, 84, 84, 80, 47, 49, 46, 49, 32, 55, 48, 48, 32, 120]⟩ : ByteArray), (⟨#[71, 69, 84, 32, 47, 32, 72, 84, 84, 80, 47, 49, 46, 49]⟩ : ByteArray)] : List ByteArray) : List ByteArray)).bind fun y476 => (if 0 ≤ (Int.tmod bt464.1 7) then (if (Int.tmod bt464.1 7) < (y476.length : Int) then (some (rdOf ByteArray.empty y476 (Int.tmod bt464.1 7), bt467.2.1, bt467.2.2.1, bt467.2.2.2)) else (none)) else (none))))) else (if t461 = 1 then (if (bt467.2.1.length : Int) > 0 then ((spec_l01Long.f k 21 97).bind fun t480 => ((some (([(⟨#[]⟩ : ByteArray), (⟨#[65]⟩ : ByteArray), (⟨#[97, 32, 98]⟩ : ByteArray), t480, (⟨#[45]⟩ : ByteArray)] : List ByteArray) : List ByteArray)).bind fun y481 => (if 0 ≤ (Int.tmod bt464.1 5) then (if (Int.tmod bt464.1 5) < (y481.length : Int) then (if 0 < (bt467.2.1.length : Int) then (some (bt467.1, (bt467.2.1.set (0 : Int).toNat (⟨rdOf ByteArray.empty y481 (Int.tmod bt464.1 5), (rd_T40 bt467.2.1 0).f1⟩ : S40)), bt467.2.2.1, bt467.2.2.2)) else (none)) else (none)) else (none)))) else (some (bt467.1, bt467.2.1, bt467.2.2.1, bt467.2.2.2))) else (if t461 = 2 then (if (bt467.2.1.length : Int) > 0 then ((spec_l01Long.f k 60 97).bind fun t486 => ((spec_l01Long.f k 61 97).bind fun t487 => ((some (([(⟨#[32, 97]⟩ : ByteArray), (⟨#[97, 32]⟩ : ByteArray), t486, t487, (⟨#[10]⟩ : ByteArray)] : List ByteArray) : List ByteArray)).bind fun y488 => (if 0 ≤ (Int.tmod bt464.1 5) then (if (Int.tmod bt464.1 5) < (y488.length : Int) then (if 0 < (bt467.2.1.length : Int) then (some (bt467.1, (bt467.2.1.set (0 : Int).toNat (⟨(rd_T40 bt467.2.1 0).f0, rdOf ByteArray.empty y488 (Int.tmod bt464.1 5)⟩ : S40)), bt467.2.2.1, bt467.2.2.2)) else (none)) else (none)) else (none))))) else (some (bt467.1, bt467.2.1, bt467.2.2.1, bt467.2.2.2))) else (if t461 = 3 then (spec_l09Any.l0 k bt464.1 s0_0 bt467.2.2.1 bt467.2.2.2 bt467.1 bt467.2.1) else (some (bt467.1, bt467.2.1, bt467.2.2.1, bt467.2.2.2)))))))) = some (r1, r2, r3, r4) := H
  have A2 := Aside0.mk A20
  clear A20
  replace H := Option.bind_eq_some_iff.mp H
  obtain ⟨⟨t464, t465, t466⟩, A30, H⟩ := H
  replace H : ((spec_l09Head.f k s0_0 t465 t466).bind fun bt467 => (if t461 = 0 then ((spec_l01Long.f k 80 65).bind fun t474 => ((spec_l01Long.f k 81 65).bind fun t475 => ((some (([(⟨#[]⟩ : ByteArray), t474, t475, (⟨#[97, 13, 98]⟩ : ByteArray), (⟨#[71, 69, 84, 32, 47, 97, 32, 98, 32, 72, 84, 84, 80, 47, 49, 46, 49]⟩ : ByteArray), (⟨#[72, 84, 84, 80, 47, 49, 46, 49, 32, 55, 48, 48, 32, 120]⟩ : ByteArray), (⟨#[71, 69, 84, 32, 47, 32, 72, 84, 84, 80, 47, 49, 46, 49]⟩ : ByteArray)] : List ByteArray) : List ByteArray)).bind fun y476 => (if 0 ≤ (Int.tmod t464 7) then (if (Int.tmod t464 7) < (y476.length : Int) then (some (rdOf ByteArray.empty y476 (Int.tmod t464 7), bt467.2.1, bt467.2.2.1, bt467.2.2.2)) else (none)) else (none))))) else (if t461 = 1 then (if (bt467.2.1.length : Int) > 0 then ((spec_l01Long.f k 21 97).bind fun t480 => ((some (([(⟨#[]⟩ : ByteArray), (⟨#[65]⟩ : ByteArray), (⟨#[97, 32, 98]⟩ : ByteArray), t480, (⟨#[45]⟩ : ByteArray)] : List ByteArray) : List ByteArray)).bind fun y481 => (if 0 ≤ (Int.tmod t464 5) then (if (Int.tmod t464 5) < (y481.length : Int) then (if 0 < (bt467.2.1.length : Int) then (some (bt467.1, (bt467.2.1.set (0 : Int).toNat (⟨rdOf ByteArray.empty y481 (Int.tmod t464 5), (rd_T40 bt467.2.1 0).f1⟩ : S40)), bt467.2.2.1, bt467.2.2.2)) else (none)) else (none)) else (none)))) else (some (bt467.1, bt467.2.1, bt467.2.2.1, bt467.2.2.2))) else (if t461 = 2 then (if (bt467.2.1.length : Int) > 0 then ((spec_l01Long.f k 60 97).bind fun t486 => ((spec_l01Long.f k 61 97).bind fun t487 => ((some (([(⟨#[32, 97]⟩ : ByteArray), (⟨#[97, 32]⟩ : ByteArray), t486, t487, (⟨#[10]⟩ : ByteArray)] : List ByteArray) : List ByteArray)).bind fun y488 => (if 0 ≤ (Int.tmod t464 5) then (if (Int.tmod t464 5) < (y488.length : Int) then (if 0 < (bt467.2.1.length : Int) then (some (bt467.1, (bt467.2.1.set (0 : Int).toNat (⟨(rd_T40 bt467.2.1 0).f0, rdOf ByteArray.empty y488 (Int.tmod t464 5)⟩ : S40)), bt467.2.2.1, bt467.2.2.2)) else (none)) else (none)) else (none))))) else (some (bt467.1, bt467.2.1, bt467.2.2.1, bt467.2.2.2))) else (if t461 = 3 then (spec_l09Any.l0 k t464 s0_0 bt467.2.2.1 bt467.2.2.2 bt467.1 bt467.2.1) else (some (bt467.1, bt467.2.1, bt467.2.2.1, bt467.2.2.2))))))) = some (r1, r2, r3, r4) := H
  have A3 := Aside0.mk A30
  clear A30
  replace H := Option.bind_eq_some_iff.mp H
  obtain ⟨⟨t467, t468, t471, t472⟩, A40, H⟩ := H
  replace H : (if t461 = 0 then ((spec_l01Long.f k 80 65).bind fun t474 => ((spec_l01Long.f k 81 65).bind fun t475 => ((some (([(⟨#[]⟩ : ByteArray), t474, t475, (⟨#[97, 13, 98]⟩ : ByteArray), (⟨#[71, 69, 84, 32, 47, 97, 32, 98, 32, 72, 84, 84, 80, 47, 49, 46, 49]⟩ : ByteArray), (⟨#[72, 84, 84, 80, 47, 49, 46, 49, 32, 55, 48, 48, 32, 120]⟩ : ByteArray), (⟨#[71, 69, 84, 32, 47, 32, 72, 84, 84, 80, 47, 49, 46, 49]⟩ : ByteArray)] : List ByteArray) : List ByteArray)).bind fun y476 => (if 0 ≤ (Int.tmod t464 7) then (if (Int.tmod t464 7) < (y476.length : Int) then (some (rdOf ByteArray.empty y476 (Int.tmod t464 7), t468, t471, t472)) else (none)) else (none))))) else (if t461 = 1 then (if (t468.length : Int) > 0 then ((spec_l01Long.f k 21 97).bind fun t480 => ((some (([(⟨#[]⟩ : ByteArray), (⟨#[65]⟩ : ByteArray), (⟨#[97, 32, 98]⟩ : ByteArray), t480, (⟨#[45]⟩ : ByteArray)] : List ByteArray) : List ByteArray)).bind fun y481 => (if 0 ≤ (Int.tmod t464 5) then (if (Int.tmod t464 5) < (y481.length : Int) then (if 0 < (t468.length : Int) then (some (t467, (t468.set (0 : Int).toNat (⟨rdOf ByteArray.empty y481 (Int.tmod t464 5), (rd_T40 t468 0).f1⟩ : S40)), t471, t472)) else (none)) else (none)) else (none)))) else (some (t467, t468, t471, t472))) else (if t461 = 2 then (if (t468.length : Int) > 0 then ((spec_l01Long.f k 60 97).bind fun t486 => ((spec_l01Long.f k 61 97).bind fun t487 => ((some (([(⟨#[32, 97]⟩ : ByteArray), (⟨#[97, 32]⟩ : ByteArray), t486, t487, (⟨#[10]⟩ : ByteArray)] : List ByteArray) : List ByteArray)).bind fun y488 => (if 0 ≤ (Int.tmod t464 5) then (if (Int.tmod t464 5) < (y488.length : Int) then (if 0 < (t468.length : Int) then (some (t467, (t468.set (0 : Int).toNat (⟨(rd_T40 t468 0).f0, rdOf ByteArray.empty y488 (Int.tmod t464 5)⟩ : S40)), t471, t472)) else (none)) else (none)) else (none))))) else (some (t467, t468, t471, t472))) else (if t461 = 3 then (spec_l09Any.l0 k t464 s0_0 t471 t472 t467 t468) else (some (t467, t468, t471, t472)))))) = some (r1, r2, r3, r4) := H
  have A4 := Aside0.mk A40
  clear A40
  have HS5 := Aside0.mk H
  clear H
  go_enter Tryd.func69, Tryd.ntmps69
  go_upto_if 13 with (first | ((with_reducible refine gate_dst (N := 2) rfl ?_); refine box_event ?hg (N := 2) ?hd (cs := #[.string (⟨#[]⟩ : ByteArray), .slice none 0 0]) (t := 26) ?hr ?_; (case hd => rfl); (case hg => rfl); (case hr => (go_simp; done)); intro gb460 hg w6 hbox hb; have n0_ := Aside0.mk (IsS91.below (by repeat ((with_reducible exact HI0.out))) hb); have n1_ := Aside0.mk (KeepBut.trans (by repeat ((with_reducible exact HK.out))) (KeepBut.of_below hb g none) (.inl rfl)); have n2_ := Aside0.mk (below_step (by repeat ((with_reducible exact HB.out))) hb); have n3_ := Aside0.mk (hbox); have n4_ := Aside0.mk ((by rw [hg]; exact (keep_size (w := w) (g := g) (row := none) (by repeat ((with_reducible exact HK.out)))) : w.heap.size ≤ gb460)); have n5_ := Aside0.mk ((Nat.le_trans HW0.out (by rw [hg]; exact (keep_size (w := w) (g := g) (row := none) (by repeat ((with_reducible exact HK.out)))) : w.heap.size ≤ gb460) : w0.heap.size ≤ gb460)); have n6_ := Aside0.mk ((by rw [hg]; exact Nat.ne_of_lt (IsS91.lt (show IsS91 w0 _ g s0_0 s0_1 s0_2 from by repeat ((with_reducible exact HI0.out)))) : g ≠ gb460)); have n7_ := Aside0.mk ((by rw [hg]; exact Nat.ne_of_gt (IsS91.lt (show IsS91 w0 _ g s0_0 s0_1 s0_2 from by repeat ((with_reducible exact HI0.out)))) : gb460 ≠ g)); clear HI0; clear HK; clear HB; have HI0 := n0_; have HK := n1_; have HB := n2_; have BK460 := n3_; have GW460 := n4_; have GE460 := n5_; have NB0_460 := n6_; have NB460_0 := n7_; clear n0_ n1_ n2_ n3_ n4_ n5_ n6_ n7_; clear hb hbox hg) | ((with_reducible refine gate_callee (f := 55) rfl ?_); refine goesL_ (some 7) rfl rfl Tryd.func55 (by kernel_rfl) rfl #[.pointer (some ⟨g, 0, none⟩), .int .i64 12] rfl (by (try simp only [List.map_toArray, List.map_cons, List.map_nil]); rfl) ?_; (with_reducible refine (spec_l01Below.calls g s0_0 s0_1 s0_2 12 t461 t462 t463 w0 _ ?side1 ?side2 A2.out).mono ?_); (case side1 => repeat ((with_reducible exact HI0.out))); (case side2 => repeat ((with_reducible exact HB.out))); rintro e w7 ⟨rfl, hi, hb, hk⟩; refine ⟨_, rfl, ?_⟩; have n0_ := Aside0.mk (KeepBut.blk hk (g' := gb460) (o := .cells #[.string (⟨#[]⟩ : ByteArray), .slice none 0 0] 26 (0, 0)) (by (with_reducible repeat (first | refine blk_drewN ?_ _ | refine blk_drew ?_ | refine blk_alloc ?_ _ )); exact BK460.out) NB460_0.out (by simp)); have n1_ := Aside0.mk (KeepBut.trans (by repeat ((with_reducible exact HK.out))) hk (.inl rfl)); have n2_ := Aside0.mk (hb); have n3_ := Aside0.mk (hi); clear BK460; clear HK; clear HB; clear HI0; have BK460 := n0_; have HK := n1_; have HB := n2_; have HI0 := n3_; clear n0_ n1_ n2_ n3_; (try clear hb); (try clear hb2); (try clear hk); (try clear hi)) | ((with_reducible refine gate_callee (f := 55) rfl ?_); refine goesL_ (some 9) rfl rfl Tryd.func55 (by kernel_rfl) rfl #[.pointer (some ⟨g, 0, none⟩), .int .i64 60] rfl (by (try simp only [List.map_toArray, List.map_cons, List.map_nil]); rfl) ?_; (with_reducible refine (spec_l01Below.calls g s0_0 t462 t463 60 t464 t465 t466 w0 _ ?side1 ?side2 A3.out).mono ?_); (case side1 => repeat ((with_reducible exact HI0.out))); (case side2 => repeat ((with_reducible exact HB.out))); rintro e w8 ⟨rfl, hi, hb, hk⟩; refine ⟨_, rfl, ?_⟩; have n0_ := Aside0.mk (KeepBut.blk hk (g' := gb460) (o := .cells #[.string (⟨#[]⟩ : ByteArray), .slice none 0 0] 26 (0, 0)) (by (with_reducible repeat (first | refine blk_drewN ?_ _ | refine blk_drew ?_ | refine blk_alloc ?_ _ )); exact BK460.out) NB460_0.out (by simp)); have n1_ := Aside0.mk (KeepBut.trans (by repeat ((with_reducible exact HK.out))) hk (.inl rfl)); have n2_ := Aside0.mk (hb); have n3_ := Aside0.mk (hi); clear BK460; clear HK; clear HB; clear HI0; have BK460 := n0_; have HK := n1_; have HB := n2_; have HI0 := n3_; clear n0_ n1_ n2_ n3_; (try clear hb); (try clear hb2); (try clear hk); (try clear hi)) | ((with_reducible refine gate_callee (f := 47) rfl ?_); refine goesL_ (some 11) rfl rfl Tryd.func47 (by kernel_rfl) rfl #[.pointer (some ⟨g, 0, none⟩)] rfl (by (try simp only [List.map_toArray, List.map_cons, List.map_nil]); rfl) ?_; (with_reducible refine (spec_l09Head.calls k g s0_0 t465 t466 t467 t468 t471 t472 w0 _ ?side1 ?side2 A4.out).mono ?_); (case side1 => repeat ((with_reducible exact HI0.out))); (case side2 => repeat ((with_reducible exact HB.out))); rintro e w9 ⟨v469, rfl, ho0, hi, hb, hk⟩; refine ⟨_, rfl, ?_⟩; have n0_ := Aside0.mk (KeepBut.blk hk (g' := gb460) (o := .cells #[.string (⟨#[]⟩ : ByteArray), .slice none 0 0] 26 (0, 0)) (by (with_reducible repeat (first | refine blk_drewN ?_ _ | refine blk_drew ?_ | refine blk_alloc ?_ _ )); exact BK460.out) NB460_0.out (by simp)); have n1_ := Aside0.mk (Kd.R_lower ho0 (keep_size (w := w) (g := g) (row := none) (by repeat ((with_reducible exact HK.out))))); have n2_ := Aside0.mk (KeepBut.trans (by repeat ((with_reducible exact HK.out))) hk (.inl rfl)); have n3_ := Aside0.mk (hb); have n4_ := Aside0.mk (hi); clear BK460; clear HK; clear HB; clear HI0; have BK460 := n0_; have HO470 := n1_; have HK := n2_; have HB := n3_; have HI0 := n4_; clear n0_ n1_ n2_ n3_ n4_; (try clear hb); (try clear hb2); (try clear hk); (try clear hi); (try clear ho0)) | ((with_reducible refine gate_dst (N := 5) rfl ?_); refine box_event ?hg (N := 5) ?hd (cs := #[.string (⟨#[]⟩ : ByteArray), .slice none 0 0]) (t := 26) ?hr ?_; (case hd => rfl); (case hg => rfl); (case hr => (go_simp; done)); intro gb473 hg w10 hbox hb; have n0_ := Aside0.mk (Kd.R_below (by (with_reducible repeat (first | apply Kd.R_alloc | apply Kd.R_drewN | apply Kd.R_drew )); exact HO470.out) hb); have n1_ := Aside0.mk (IsS91.below (by repeat ((with_reducible exact HI0.out))) hb); have n2_ := Aside0.mk (blk_below (g := gb460) (o := .cells #[.string (⟨#[]⟩ : ByteArray), .slice none 0 0] 26 (0, 0)) (by (with_reducible repeat (first | refine blk_drewN ?_ _ | refine blk_drew ?_ | refine blk_alloc ?_ _ )); exact BK460.out) hb); have n3_ := Aside0.mk (KeepBut.trans (by repeat ((with_reducible exact HK.out))) (KeepBut.of_below hb g none) (.inl rfl)); have n4_ := Aside0.mk (below_step (by repeat ((with_reducible exact HB.out))) hb); have n5_ := Aside0.mk (hbox); have n6_ := Aside0.mk ((by rw [hg]; exact (keep_size (w := w) (g := g) (row := none) (by repeat ((with_reducible exact HK.out)))) : w.heap.size ≤ gb473)); have n7_ := Aside0.mk ((Nat.le_trans HW0.out (by rw [hg]; exact (keep_size (w := w) (g := g) (row := none) (by repeat ((with_reducible exact HK.out)))) : w.heap.size ≤ gb473) : w0.heap.size ≤ gb473)); have n8_ := Aside0.mk ((by rw [hg]; exact Nat.ne_of_lt (blk_lt (g := gb460) (o := .cells #[.string (⟨#[]⟩ : ByteArray), .slice none 0 0] 26 (0, 0)) (by (with_reducible repeat (first | refine blk_drewN ?_ _ | refine blk_drew ?_ | refine blk_alloc ?_ _ )); exact BK460.out)) : gb460 ≠ gb473)); have n9_ := Aside0.mk ((by rw [hg]; exact Nat.ne_of_gt (blk_lt (g := gb460) (o := .cells #[.string (⟨#[]⟩ : ByteArray), .slice none 0 0] 26 (0, 0)) (by (with_reducible repeat (first | refine blk_drewN ?_ _ | refine blk_drew ?_ | refine blk_alloc ?_ _ )); exact BK460.out)) : gb473 ≠ gb460)); have n10_ := Aside0.mk ((by rw [hg]; exact Nat.ne_of_lt (IsS91.lt (show IsS91 w0 _ g s0_0 t471 t472 from by repeat ((with_reducible exact HI0.out)))) : g ≠ gb473)); have n11_ := Aside0.mk ((by rw [hg]; exact Nat.ne_of_gt (IsS91.lt (show IsS91 w0 _ g s0_0 t471 t472 from by repeat ((with_reducible exact HI0.out)))) : gb473 ≠ g)); clear HO470; clear HI0; clear BK460; clear HK; clear HB; have HO470 := n0_; have HI0 := n1_; have BK460 := n2_; have HK := n3_; have HB := n4_; have BK473 := n5_; have GW473 := n6_; have GE473 := n7_; have NB460_473 := n8_; have NB473_460 := n9_; have NB0_473 := n10_; have NB473_0 := n11_; clear n0_ n1_ n2_ n3_ n4_ n5_ n6_ n7_ n8_ n9_ n10_ n11_; clear hb hbox hg; have hnb11 := NB473_460.out; have hnc11 := NB460_473.out; have hnb12 := NB473_0.out; have hnc12 := NB0_473.out; have hcz13_0 : w10.cell? ⟨gb473, 0, none⟩ = some (.string (⟨#[]⟩ : ByteArray)) := (blk_cell BK473.out 0).trans rfl; have hcz13_1 : w10.cell? ⟨gb473, 1, none⟩ = some (.slice none 0 0) := (blk_cell BK473.out 1).trans rfl; have hfz13_0 := blk_frozen BK473.out 0; have hfz13_1 := blk_frozen BK473.out 1; obtain ⟨Ao14, co14, eo14⟩ := Kd.R_slice HO470.out; subst eo14))
  (try simp only [Act.put, List.setIfInBounds_toArray, List.set_cons_zero, List.set_cons_succ])
  have H := HS5.out
  clear HS5
  by_cases c15 : t461 = 0
  · rw [if_pos c15] at H
    have c15b0 : (t461 == 0) = true := beq_iff_eq.mpr c15
    have c15b1 : (t461 != 0) = false := bne_eq_false_iff_eq.mpr c15
    clear c15
    (rw [c15b0])
    replace H := Option.bind_eq_some_iff.mp H
    obtain ⟨t474, A160, H⟩ := H
    replace H : ((spec_l01Long.f k 81 65).bind fun t475 => ((some (([(⟨#[]⟩ : ByteArray), t474, t475, (⟨#[97, 13, 98]⟩ : ByteArray), (⟨#[71, 69, 84, 32, 47, 97, 32, 98, 32, 72, 84, 84, 80, 47, 49, 46, 49]⟩ : ByteArray), (⟨#[72, 84, 84, 80, 47, 49, 46, 49, 32, 55, 48, 48, 32, 120]⟩ : ByteArray), (⟨#[71, 69, 84, 32, 47, 32, 72, 84, 84, 80, 47, 49, 46, 49]⟩ : ByteArray)] : List ByteArray) : List ByteArray)).bind fun y476 => (if 0 ≤ (Int.tmod t464 7) then (if (Int.tmod t464 7) < (y476.length : Int) then (some (rdOf ByteArray.empty y476 (Int.tmod t464 7), t468, t471, t472)) else (none)) else (none)))) = some (r1, r2, r3, r4) := H
    have A16 := Aside0.mk A160
    clear A160
    replace H := Option.bind_eq_some_iff.mp H
    obtain ⟨t475, A170, H⟩ := H
    replace H : ((some (([(⟨#[]⟩ : ByteArray), t474, t475, (⟨#[97, 13, 98]⟩ : ByteArray), (⟨#[71, 69, 84, 32, 47, 97, 32, 98, 32, 72, 84, 84, 80, 47, 49, 46, 49]⟩ : ByteArray), (⟨#[72, 84, 84, 80, 47, 49, 46, 49, 32, 55, 48, 48, 32, 120]⟩ : ByteArray), (⟨#[71, 69, 84, 32, 47, 32, 72, 84, 84, 80, 47, 49, 46, 49]⟩ : ByteArray)] : List ByteArray) : List ByteArray)).bind fun y476 => (if 0 ≤ (Int.tmod t464 7) then (if (Int.tmod t464 7) < (y476.length : Int) then (some (rdOf ByteArray.empty y476 (Int.tmod t464 7), t468, t471, t472)) else (none)) else (none))) = some (r1, r2, r3, r4) := H
    have A17 := Aside0.mk A170
    clear A170
    obtain ⟨y476, hy476⟩ : ∃ y_ : List ByteArray, y_ = (([(⟨#[]⟩ : ByteArray), t474, t475, (⟨#[97, 13, 98]⟩ : ByteArray), (⟨#[71, 69, 84, 32, 47, 97, 32, 98, 32, 72, 84, 84, 80, 47, 49, 46, 49]⟩ : ByteArray), (⟨#[72, 84, 84, 80, 47, 49, 46, 49, 32, 55, 48, 48, 32, 120]⟩ : ByteArray), (⟨#[71, 69, 84, 32, 47, 32, 72, 84, 84, 80, 47, 49, 46, 49]⟩ : ByteArray)] : List ByteArray)) := ⟨_, rfl⟩
    replace H : (if 0 ≤ (Int.tmod t464 7) then (if (Int.tmod t464 7) < (y476.length : Int) then (some (rdOf ByteArray.empty y476 (Int.tmod t464 7), t468, t471, t472)) else (none)) else (none)) = some (r1, r2, r3, r4) := by (have H2_ := (Option.bind_some _ _).symm.trans H; rw [hy476]; with_reducible exact H2_)
    have Ny476 := Aside0.mk hy476
    clear hy476
    obtain ⟨ji18, hji18⟩ : ∃ j_ : Int, (Int.tmod t464 7) = j_ := ⟨_, rfl⟩
    replace H : (if 0 ≤ (ji18) then (if (ji18) < (y476.length : Int) then (some (rdOf ByteArray.empty y476 (ji18), t468, t471, t472)) else (none)) else (none)) = some (r1, r2, r3, r4) := by (rw [hji18] at H; exact H)
    (try rw [hji18] at A16)
    (try rw [hji18] at A17)
    by_cases c19 : 0 ≤ (ji18)
    · rw [if_pos c19] at H
      have c19b0 : decide (0 ≤ (ji18)) = true := decide_eq_true c19
      clear c19
      by_cases c20 : (ji18) < (y476.length : Int)
      · rw [if_pos c20] at H
        have c20b0 : decide ((ji18) < (y476.length : Int)) = true := decide_eq_true c20
        clear c20
        simp only [Option.some.injEq, Prod.mk.injEq] at H
        obtain ⟨rfl, rfl, rfl, rfl⟩ := H
        go_wp2_with (first | ((with_reducible refine gate_callee (f := 77) rfl ?_); refine goesL_ (some 15) rfl rfl Tryd.func77 (by kernel_rfl) rfl #[.int .i64 80, .int .u8 65] rfl (by (try simp only [List.map_toArray, List.map_cons, List.map_nil]); rfl) ?_; (with_reducible refine (spec_l01Long.calls k 80 65 t474 _ A16.out).mono ?_); rintro e w21 ⟨rfl, hb⟩; refine ⟨_, rfl, ?_⟩; have n0_ := Aside0.mk (Kd.R_below (by (with_reducible repeat (first | apply Kd.R_alloc | apply Kd.R_drewN | apply Kd.R_drew )); exact (Kd.R_mono (Kd.R_far (p := ⟨gb473, 1, none⟩) (Kd.R_far (p := ⟨gb473, 0, none⟩) (Kd.R_types HO470.out BK473.out (by decide)) (fun _ hk => hk.2) (.string t467)) (fun _ hk => hk.2) (.slice Ao14 t468.length co14)) (fun _ h_ => by exact h_.1))) hb); have n1_ := Aside0.mk (IsS91.below (show IsS91 w0 ((w10.setCell ⟨gb473, 0, none⟩ (.string t467)).setCell ⟨gb473, 1, none⟩ (.slice Ao14 t468.length co14)) g s0_0 t471 t472 from by repeat ((with_reducible first | exact HI0.out | refine IsS91.far ?_ NB0_473.out _))) hb); have n2_ := Aside0.mk (blk_below (g := gb460) (o := .cells #[.string (⟨#[]⟩ : ByteArray), .slice none 0 0] 26 (0, 0)) (by (with_reducible repeat (first | refine blk_drewN ?_ _ | refine blk_drew ?_ | refine blk_alloc ?_ _ )); refine blk_far ?_ NB460_473.out _; (with_reducible repeat (first | refine blk_drewN ?_ _ | refine blk_drew ?_ | refine blk_alloc ?_ _ )); refine blk_far ?_ NB460_473.out _; (with_reducible repeat (first | refine blk_drewN ?_ _ | refine blk_drew ?_ | refine blk_alloc ?_ _ )); exact BK460.out) hb); have n3_ := Aside0.mk (blk_below (g := gb473) (o := .cells #[.string t467, .slice Ao14 t468.length co14] 26 (0, 0)) (by (with_reducible repeat (first | refine blk_drewN ?_ _ | refine blk_drew ?_ | refine blk_alloc ?_ _ )); refine blk_put (cs := #[.string t467, .slice none 0 0]) ?_ 1 _ rfl; (with_reducible repeat (first | refine blk_drewN ?_ _ | refine blk_drew ?_ | refine blk_alloc ?_ _ )); refine blk_put (cs := #[.string (⟨#[]⟩ : ByteArray), .slice none 0 0]) ?_ 0 _ rfl; (with_reducible repeat (first | refine blk_drewN ?_ _ | refine blk_drew ?_ | refine blk_alloc ?_ _ )); exact BK473.out) hb); have n4_ := Aside0.mk (KeepBut.trans (by repeat ((with_reducible first | exact HK.out | refine keep_far ?_ GW473.out _))) (KeepBut.of_below hb g none) (.inl rfl)); have n5_ := Aside0.mk (below_step (by repeat ((with_reducible first | exact HB.out | refine below_set ?_ GE473.out))) hb); clear HO470; clear HI0; clear BK460; clear BK473; clear HK; clear HB; have HO470 := n0_; have HI0 := n1_; have BK460 := n2_; have BK473 := n3_; have HK := n4_; have HB := n5_; clear n0_ n1_ n2_ n3_ n4_ n5_; (try clear hb); (try clear hb2); (try clear hk); (try clear hi)) | ((with_reducible refine gate_callee (f := 77) rfl ?_); refine goesL_ (some 16) rfl rfl Tryd.func77 (by kernel_rfl) rfl #[.int .i64 81, .int .u8 65] rfl (by (try simp only [List.map_toArray, List.map_cons, List.map_nil]); rfl) ?_; (with_reducible refine (spec_l01Long.calls k 81 65 t475 _ A17.out).mono ?_); rintro e w22 ⟨rfl, hb⟩; refine ⟨_, rfl, ?_⟩; have n0_ := Aside0.mk (Kd.R_below (by (with_reducible repeat (first | apply Kd.R_alloc | apply Kd.R_drewN | apply Kd.R_drew )); exact HO470.out) hb); have n1_ := Aside0.mk (IsS91.below (by repeat ((with_reducible exact HI0.out))) hb); have n2_ := Aside0.mk (blk_below (g := gb460) (o := .cells #[.string (⟨#[]⟩ : ByteArray), .slice none 0 0] 26 (0, 0)) (by (with_reducible repeat (first | refine blk_drewN ?_ _ | refine blk_drew ?_ | refine blk_alloc ?_ _ )); exact BK460.out) hb); have n3_ := Aside0.mk (blk_below (g := gb473) (o := .cells #[.string t467, .slice Ao14 t468.length co14] 26 (0, 0)) (by (with_reducible repeat (first | refine blk_drewN ?_ _ | refine blk_drew ?_ | refine blk_alloc ?_ _ )); exact BK473.out) hb); have n4_ := Aside0.mk (KeepBut.trans (by repeat ((with_reducible exact HK.out))) (KeepBut.of_below hb g none) (.inl rfl)); have n5_ := Aside0.mk (below_step (by repeat ((with_reducible exact HB.out))) hb); clear HO470; clear HI0; clear BK460; clear BK473; clear HK; clear HB; have HO470 := n0_; have HI0 := n1_; have BK460 := n2_; have BK473 := n3_; have HK := n4_; have HB := n5_; clear n0_ n1_ n2_ n3_ n4_ n5_; (try clear hb); (try clear hb2); (try clear hk); (try clear hi)) | ((with_reducible refine gate_dst (N := 17) rfl ?_); refine Kd.R_lit Kd.string _ 9 ?hg (N := 17) ?hd (xs := ([(⟨#[]⟩ : ByteArray), t474, t475, (⟨#[97, 13, 98]⟩ : ByteArray), (⟨#[71, 69, 84, 32, 47, 97, 32, 98, 32, 72, 84, 84, 80, 47, 49, 46, 49]⟩ : ByteArray), (⟨#[72, 84, 84, 80, 47, 49, 46, 49, 32, 55, 48, 48, 32, 120]⟩ : ByteArray), (⟨#[71, 69, 84, 32, 47, 32, 72, 84, 84, 80, 47, 49, 46, 49]⟩ : ByteArray)] : List ByteArray)) (inner := [.string (⟨#[]⟩ : ByteArray), .string t474, .string t475, .string (⟨#[97, 13, 98]⟩ : ByteArray), .string (⟨#[71, 69, 84, 32, 47, 97, 32, 98, 32, 72, 84, 84, 80, 47, 49, 46, 49]⟩ : ByteArray), .string (⟨#[72, 84, 84, 80, 47, 49, 46, 49, 32, 55, 48, 48, 32, 120]⟩ : ByteArray), .string (⟨#[71, 69, 84, 32, 47, 32, 72, 84, 84, 80, 47, 49, 46, 49]⟩ : ByteArray)]) (ok := fun _ => True) (okp := fun _ => True) ?hr ?hp (fun _ hk => hk) trivial (Below.refl _ _) (Nat.le_refl _) (by simp) ?_; (case hd => rfl); (case hg => rfl); (case hr => (go_simp; done)); (case hp => exact (Reps.one (show Kd.M Kd.string _ _ _ (⟨#[]⟩ : ByteArray) [.string (⟨#[]⟩ : ByteArray)] from rfl) (Reps.one (show Kd.M Kd.string _ _ _ t474 [.string t474] from rfl) (Reps.one (show Kd.M Kd.string _ _ _ t475 [.string t475] from rfl) (Reps.one (show Kd.M Kd.string _ _ _ (⟨#[97, 13, 98]⟩ : ByteArray) [.string (⟨#[97, 13, 98]⟩ : ByteArray)] from rfl) (Reps.one (show Kd.M Kd.string _ _ _ (⟨#[71, 69, 84, 32, 47, 97, 32, 98, 32, 72, 84, 84, 80, 47, 49, 46, 49]⟩ : ByteArray) [.string (⟨#[71, 69, 84, 32, 47, 97, 32, 98, 32, 72, 84, 84, 80, 47, 49, 46, 49]⟩ : ByteArray)] from rfl) (Reps.one (show Kd.M Kd.string _ _ _ (⟨#[72, 84, 84, 80, 47, 49, 46, 49, 32, 55, 48, 48, 32, 120]⟩ : ByteArray) [.string (⟨#[72, 84, 84, 80, 47, 49, 46, 49, 32, 55, 48, 48, 32, 120]⟩ : ByteArray)] from rfl) (Reps.one (show Kd.M Kd.string _ _ _ (⟨#[71, 69, 84, 32, 47, 32, 72, 84, 84, 80, 47, 49, 46, 49]⟩ : ByteArray) [.string (⟨#[71, 69, 84, 32, 47, 32, 72, 84, 84, 80, 47, 49, 46, 49]⟩ : ByteArray)] from rfl) (Reps.none _ _))))))))); intro v477 w23 ho24 hb hg_ hnew_; clear hg_ hnew_; (rw [← Ny476.out] at ho24); have n0_ := Aside0.mk (Kd.R_below (by (with_reducible repeat (first | apply Kd.R_alloc | apply Kd.R_drewN | apply Kd.R_drew )); exact HO470.out) hb); have n1_ := Aside0.mk (Kd.R_lower ho24 (keep_size (w := w) (g := g) (row := none) (by repeat ((with_reducible exact HK.out))))); have n2_ := Aside0.mk (IsS91.below (by repeat ((with_reducible exact HI0.out))) hb); have n3_ := Aside0.mk (blk_below (g := gb460) (o := .cells #[.string (⟨#[]⟩ : ByteArray), .slice none 0 0] 26 (0, 0)) (by (with_reducible repeat (first | refine blk_drewN ?_ _ | refine blk_drew ?_ | refine blk_alloc ?_ _ )); exact BK460.out) hb); have n4_ := Aside0.mk (blk_below (g := gb473) (o := .cells #[.string t467, .slice Ao14 t468.length co14] 26 (0, 0)) (by (with_reducible repeat (first | refine blk_drewN ?_ _ | refine blk_drew ?_ | refine blk_alloc ?_ _ )); exact BK473.out) hb); have n5_ := Aside0.mk (KeepBut.trans (by repeat ((with_reducible exact HK.out))) (KeepBut.of_below hb g none) (.inl rfl)); have n6_ := Aside0.mk (below_step (by repeat ((with_reducible exact HB.out))) hb); clear HO470; clear HI0; clear BK460; clear BK473; clear HK; clear HB; have HO470 := n0_; have HO478 := n1_; have HI0 := n2_; have BK460 := n3_; have BK473 := n4_; have HK := n5_; have HB := n6_; clear n0_ n1_ n2_ n3_ n4_ n5_ n6_; clear hb ho24; obtain ⟨Ao25, co25, eo25⟩ := Kd.R_slice HO478.out; subst eo25; have p479 : 0 ≤ ((ji18) : Int) := of_decide_eq_true (by (with_reducible assumption)); have q479 : (ji18) < (y476.length : Int) := of_decide_eq_true (by (with_reducible assumption)); obtain ⟨ad479, e479, hx479_0⟩ := Kd.at_string (Kd.R_reads' HO478.out).2.2 (ji18) p479 q479; cases e479; replace p479 := eq_true p479; replace q479 := eq_true q479; have hnb26 := NB473_460.out; have hnc26 := NB460_473.out; have hnb27 := NB473_0.out; have hnc27 := NB0_473.out; have hcz28_0 : w23.cell? ⟨gb473, 0, none⟩ = some (.string t467) := (blk_cell BK473.out 0).trans rfl; have hcz28_1 : w23.cell? ⟨gb473, 1, none⟩ = some (.slice Ao14 t468.length co14) := (blk_cell BK473.out 1).trans rfl; have hfz28_0 := blk_frozen BK473.out 0; have hfz28_1 := blk_frozen BK473.out 1; have hnb29 := NB460_0.out; have hnc29 := NB0_460.out; have hcz30_0 : w23.cell? ⟨gb460, 0, none⟩ = some (.string (⟨#[]⟩ : ByteArray)) := (blk_cell BK460.out 0).trans rfl; have hcz30_1 : w23.cell? ⟨gb460, 1, none⟩ = some (.slice none 0 0) := (blk_cell BK460.out 1).trans rfl; have hfz30_0 := blk_frozen BK460.out 0; have hfz30_1 := blk_frozen BK460.out 1))
        refine bodyPost_ret (results_cell_row rfl _ _ gb460 26 #[.string (rdOf ByteArray.empty y476 (ji18)), .slice Ao14 t468.length co14] (0, 0) _ rfl (by (with_reducible repeat (first | refine blk_drewN ?_ _ | refine blk_drew ?_ | refine blk_alloc ?_ _ )); refine blk_put (cs := #[.string (rdOf ByteArray.empty y476 (ji18)), .slice none 0 0]) ?_ 1 _ rfl; (with_reducible repeat (first | refine blk_drewN ?_ _ | refine blk_drew ?_ | refine blk_alloc ?_ _ )); refine blk_put (cs := #[.string (⟨#[]⟩ : ByteArray), .slice none 0 0]) ?_ 0 _ rfl; (with_reducible repeat (first | refine blk_drewN ?_ _ | refine blk_drew ?_ | refine blk_alloc ?_ _ )); refine blk_far ?_ NB460_473.out _; (with_reducible repeat (first | refine blk_drewN ?_ _ | refine blk_drew ?_ | refine blk_alloc ?_ _ )); exact BK460.out) Tryd.underlying26 rfl (by kernel_rfl)) rfl ?_
        exact ⟨_, by rfl, by (with_reducible repeat (first | apply Kd.R_alloc | apply Kd.R_drewN | apply Kd.R_drew )); exact Kd.R_mono (Kd.R_far (p := ⟨gb460, 1, none⟩) (Kd.R_far (p := ⟨gb460, 0, none⟩) (Kd.R_far (p := ⟨gb473, 0, none⟩) (Kd.R_types (Kd.R_types HO470.out BK473.out (by decide)) BK460.out (by decide)) (fun _ hk => hk.1.2) (.string (rdOf ByteArray.empty y476 (ji18)))) (fun _ hk => hk.2) (.string (rdOf ByteArray.empty y476 (ji18)))) (fun _ hk => hk.2) (.slice Ao14 t468.length co14)) (fun _ hk => trivial), by repeat ((with_reducible first | exact HI0.out | refine IsS91.far ?_ NB0_460.out _ | refine IsS91.far ?_ NB0_473.out _)), by repeat ((with_reducible first | exact HB.out | refine below_set ?_ GE460.out | refine below_set ?_ GE473.out)), by repeat ((with_reducible first | exact HK.out | refine keep_far ?_ GW460.out _ | refine keep_far ?_ GW473.out _))⟩
      · rw [if_neg c20] at H
        exact absurd H (by simp)
    · rw [if_neg c19] at H
      exact absurd H (by simp)
  · rw [if_neg c15] at H
    have c15b0 : (t461 == 0) = false := beq_eq_false_iff_ne.mpr c15
    have c15b1 : (t461 != 0) = true := bne_iff_ne.mpr c15
    (rw [c15b0])
    by_cases c31 : t461 = 1
    · rw [if_pos c31] at H
      have c31b0 : (t461 == 1) = true := beq_iff_eq.mpr c31
      have c31b1 : (t461 != 1) = false := bne_eq_false_iff_eq.mpr c31
      clear c31
      by_cases c32 : (t468.length : Int) > 0
      · rw [if_pos c32] at H
        have c32b0 : decide (0 < (t468.length : Int)) = true := decide_eq_true c32
        have c32b1 : decide (0 < t468.length) = true := decide_eq_true (by omega)
        clear c32
        replace H := Option.bind_eq_some_iff.mp H
        obtain ⟨t480, A330, H⟩ := H
        replace H : ((some (([(⟨#[]⟩ : ByteArray), (⟨#[65]⟩ : ByteArray), (⟨#[97, 32, 98]⟩ : ByteArray), t480, (⟨#[45]⟩ : ByteArray)] : List ByteArray) : List ByteArray)).bind fun y481 => (if 0 ≤ (Int.tmod t464 5) then (if (Int.tmod t464 5) < (y481.length : Int) then (if 0 < (t468.length : Int) then (some (t467, (t468.set (0 : Int).toNat (⟨rdOf ByteArray.empty y481 (Int.tmod t464 5), (rd_T40 t468 0).f1⟩ : S40)), t471, t472)) else (none)) else (none)) else (none))) = some (r1, r2, r3, r4) := H
        have A33 := Aside0.mk A330
        clear A330
        obtain ⟨y481, hy481⟩ : ∃ y_ : List ByteArray, y_ = (([(⟨#[]⟩ : ByteArray), (⟨#[65]⟩ : ByteArray), (⟨#[97, 32, 98]⟩ : ByteArray), t480, (⟨#[45]⟩ : ByteArray)] : List ByteArray)) := ⟨_, rfl⟩
        replace H : (if 0 ≤ (Int.tmod t464 5) then (if (Int.tmod t464 5) < (y481.length : Int) then (if 0 < (t468.length : Int) then (some (t467, (t468.set (0 : Int).toNat (⟨rdOf ByteArray.empty y481 (Int.tmod t464 5), (rd_T40 t468 0).f1⟩ : S40)), t471, t472)) else (none)) else (none)) else (none)) = some (r1, r2, r3, r4) := by (have H2_ := (Option.bind_some _ _).symm.trans H; rw [hy481]; with_reducible exact H2_)
        have Ny481 := Aside0.mk hy481
        clear hy481
        obtain ⟨ji34, hji34⟩ : ∃ j_ : Int, (Int.tmod t464 5) = j_ := ⟨_, rfl⟩
        replace H : (if 0 ≤ (ji34) then (if (ji34) < (y481.length : Int) then (if 0 < (t468.length : Int) then (some (t467, (t468.set (0 : Int).toNat (⟨rdOf ByteArray.empty y481 (ji34), (rd_T40 t468 0).f1⟩ : S40)), t471, t472)) else (none)) else (none)) else (none)) = some (r1, r2, r3, r4) := by (rw [hji34] at H; exact H)
        (try rw [hji34] at A33)
        by_cases c35 : 0 ≤ (ji34)
        · rw [if_pos c35] at H
          have c35b0 : decide (0 ≤ (ji34)) = true := decide_eq_true c35
          clear c35
          by_cases c36 : (ji34) < (y481.length : Int)
          · rw [if_pos c36] at H
            have c36b0 : decide ((ji34) < (y481.length : Int)) = true := decide_eq_true c36
            clear c36
            by_cases c37 : 0 < (t468.length : Int)
            · rw [if_pos c37] at H
              have c37b0 : decide (0 < (t468.length : Int)) = true := decide_eq_true c37
              have c37b1 : decide (0 < t468.length) = true := decide_eq_true (by omega)
              clear c37
              obtain ⟨y485, hy485⟩ : ∃ y_ : List (S40), y_ = (t468.set (0 : Int).toNat (⟨rdOf ByteArray.empty y481 (ji34), (rd_T40 t468 0).f1⟩ : S40)) := ⟨_, rfl⟩
              replace H : (some (t467, y485, t471, t472)) = some (r1, r2, r3, r4) := by (rw [hy485]; with_reducible exact H)
              have Ny485 := Aside0.mk hy485
              clear hy485
              simp only [Option.some.injEq, Prod.mk.injEq] at H
              obtain ⟨rfl, rfl, rfl, rfl⟩ := H
              have hnb39 := NB473_460.out
              have hnc39 := NB460_473.out
              have hnb40 := NB473_0.out
              have hnc40 := NB0_473.out
              have hcz41_0 : w10.cell? ⟨gb473, 0, none⟩ = some (.string (⟨#[]⟩ : ByteArray)) := (blk_cell BK473.out 0).trans rfl
              have hcz41_1 : w10.cell? ⟨gb473, 1, none⟩ = some (.slice none 0 0) := (blk_cell BK473.out 1).trans rfl
              have hfz41_0 := blk_frozen BK473.out 0
              have hfz41_1 := blk_frozen BK473.out 1
              go_wp2
              have pi484 : (0 ≤ ((ji34) : Int)) = True := eq_true (of_decide_eq_true (by (with_reducible assumption)))
              have qi484 : ((ji34) < (y481.length : Int)) = True := eq_true (of_decide_eq_true (by (with_reducible assumption)))
              have n0_ : Aside0 (Kd.R k40 40 ((w10.setCell ⟨gb473, 0, none⟩ (.string t467)).setCell ⟨gb473, 1, none⟩ (.slice Ao14 t468.length co14)) w.heap.size (fun _ => True) (.slice Ao14 t468.length co14) t468) := ⟨by (with_reducible repeat (first | apply Kd.R_alloc | apply Kd.R_drewN | apply Kd.R_drew )); exact Kd.R_mono (Kd.R_far (p := ⟨gb473, 1, none⟩) (Kd.R_far (p := ⟨gb473, 0, none⟩) (Kd.R_types HO470.out BK473.out (by decide)) (fun _ hk => hk.2) (.string t467)) (fun _ hk => hk.2) (.slice Ao14 t468.length co14)) (fun _ hk => trivial)⟩
              have n1_ : Aside0 (((w10.setCell ⟨gb473, 0, none⟩ (.string t467)).setCell ⟨gb473, 1, none⟩ (.slice Ao14 t468.length co14)).heap[gb460]? = some (.cells #[.string (⟨#[]⟩ : ByteArray), .slice none 0 0] 26 (0, 0))) := ⟨by (with_reducible repeat (first | refine blk_drewN ?_ _ | refine blk_drew ?_ | refine blk_alloc ?_ _ )); refine blk_far ?_ NB460_473.out _; (with_reducible repeat (first | refine blk_drewN ?_ _ | refine blk_drew ?_ | refine blk_alloc ?_ _ )); refine blk_far ?_ NB460_473.out _; (with_reducible repeat (first | refine blk_drewN ?_ _ | refine blk_drew ?_ | refine blk_alloc ?_ _ )); exact BK460.out⟩
              have n2_ : Aside0 (((w10.setCell ⟨gb473, 0, none⟩ (.string t467)).setCell ⟨gb473, 1, none⟩ (.slice Ao14 t468.length co14)).heap[gb473]? = some (.cells #[.string t467, .slice Ao14 t468.length co14] 26 (0, 0))) := ⟨by (with_reducible repeat (first | refine blk_drewN ?_ _ | refine blk_drew ?_ | refine blk_alloc ?_ _ )); refine blk_put (cs := #[.string t467, .slice none 0 0]) ?_ 1 _ rfl; (with_reducible repeat (first | refine blk_drewN ?_ _ | refine blk_drew ?_ | refine blk_alloc ?_ _ )); refine blk_put (cs := #[.string (⟨#[]⟩ : ByteArray), .slice none 0 0]) ?_ 0 _ rfl; (with_reducible repeat (first | refine blk_drewN ?_ _ | refine blk_drew ?_ | refine blk_alloc ?_ _ )); exact BK473.out⟩
              have n3_ : Aside0 (IsS91 w0 ((w10.setCell ⟨gb473, 0, none⟩ (.string t467)).setCell ⟨gb473, 1, none⟩ (.slice Ao14 t468.length co14)) g s0_0 t471 t472) := ⟨by repeat ((with_reducible first | exact HI0.out | refine IsS91.far ?_ NB0_473.out _))⟩
              have n4_ : Aside0 (KeepBut w ((w10.setCell ⟨gb473, 0, none⟩ (.string t467)).setCell ⟨gb473, 1, none⟩ (.slice Ao14 t468.length co14)) g none) := ⟨by repeat ((with_reducible first | exact HK.out | refine keep_far ?_ GW473.out _))⟩
              have n5_ : Aside0 (Below w0.heap.size w0 ((w10.setCell ⟨gb473, 0, none⟩ (.string t467)).setCell ⟨gb473, 1, none⟩ (.slice Ao14 t468.length co14))) := ⟨by repeat ((with_reducible first | exact HB.out | refine below_set ?_ GE473.out))⟩
              (try clear HO470)
              (try clear BK460)
              (try clear BK473)
              (try clear HI0)
              (try clear HK)
              (try clear HB)
              generalize ((w10.setCell ⟨gb473, 0, none⟩ (.string t467)).setCell ⟨gb473, 1, none⟩ (.slice Ao14 t468.length co14)) = w42 at n0_ n1_ n2_ n3_ n4_ n5_ ⊢
              have HO470 := n0_
              have BK460 := n1_
              have BK473 := n2_
              have HI0 := n3_
              have HK := n4_
              have HB := n5_
              clear n0_ n1_ n2_ n3_ n4_ n5_
              have n0_ := Aside0.mk (Kd.R_drew HO470.out)
              have n1_ := Aside0.mk (blk_drew BK460.out)
              have n2_ := Aside0.mk (blk_drew BK473.out)
              have n3_ := Aside0.mk (IsS91.drew HI0.out)
              have n4_ := Aside0.mk (keep_drew HK.out)
              have n5_ := Aside0.mk (below_drew1 HB.out)
              clear HO470
              clear BK460
              clear BK473
              clear HI0
              clear HK
              clear HB
              have HO470 := n0_
              have BK460 := n1_
              have BK473 := n2_
              have HI0 := n3_
              have HK := n4_
              have HB := n5_
              clear n0_ n1_ n2_ n3_ n4_ n5_
              refine start_ (n := 11) (S := fun w' => w'.cell? ⟨gb473, 0, none⟩ = some (.string t467) ∧ w'.cell? ⟨gb473, 1, none⟩ = some (.slice Ao14 t468.length co14)) (ds := [10]) #[false, false, false, false, false, false, false, false, false, false, false] (by kernel_rfl) rfl rfl ⟨(blk_cell BK473.out 0).trans rfl, (blk_cell BK473.out 1).trans rfl⟩ (fun hHeld => ?_); refine with_tabW spec_l09Any.tab9 spec_l09Any.bits9 (fun HT_ HW_ => ?_)
              generalize w42.drew = w43 at HO470 BK460 BK473 HI0 HK HB hHeld ⊢
              refine pure_ (i := 0) (N := some 29) (v := ?_) (a' := ?_) #[true, false, false, false, false, false, false, false, false, false, false] rfl rfl (any_of HT_.out (by kernel_rfl)) (fun _ _ _ h => h) (Or.inl ⟨by rfl, ?_⟩) ?_ ?_
              rotate_left
              · intro w'
                go_simp
                with_reducible rfl
              rotate_left
              · simp only [Act.put, List.setIfInBounds_toArray, List.set_cons_zero, List.set_cons_succ, i64_w, i32_w]
                rfl
              refine pure_ (i := 4) (N := some 33) (v := ?_) (a' := ?_) #[true, false, false, false, true, false, false, false, false, false, false] rfl rfl (any_of HT_.out (by kernel_rfl)) (fun _ _ _ h => h) (Or.inl ⟨by rfl, ?_⟩) ?_ ?_
              rotate_left
              · intro w'
                go_simp
                with_reducible rfl
              rotate_left
              · simp only [Act.put, List.setIfInBounds_toArray, List.set_cons_zero, List.set_cons_succ, i64_w, i32_w]
                rfl
              refine pure_ (i := 5) (N := some 34) (v := ?_) (a' := ?_) #[true, false, false, false, true, true, false, false, false, false, false] rfl rfl (any_of HT_.out (by kernel_rfl)) (fun _ _ _ h => h) (Or.inl ⟨by rfl, ?_⟩) ?_ ?_
              rotate_left
              · intro w'
                go_simp
                with_reducible rfl
              rotate_left
              · simp only [Act.put, List.setIfInBounds_toArray, List.set_cons_zero, List.set_cons_succ, i64_w, i32_w]
                rfl
              refine take_ (i := 1) (N := some 30) (v := ?_) (a' := ?_) #[true, true, false, false, true, true, false, false, false, false, false] rfl rfl (take_ofW HT_.out HW_.out (by kernel_rfl)) (fun _ _ _ h => h) (Or.inl ⟨by rfl, ?_⟩) hHeld ?_ ?_
              rotate_left
              · rintro w' ⟨s0, s1⟩
                go_simp
                with_reducible rfl
              rotate_left
              · simp only [Act.put, List.setIfInBounds_toArray, List.set_cons_zero, List.set_cons_succ, i64_w, i32_w]
                rfl
              refine one_ (i := 2) (N := some 31) #[true, true, true, false, true, true, false, false, false, false, false] rfl rfl (one_of HT_.out (by kernel_rfl)) (by decide) (fun K hK => ?_)
              refine goes_ Tryd.func77 (by kernel_rfl) rfl #[.int .i64 21, .int .u8 97] (by rfl) rfl rfl (by (try simp only [List.map_toArray, List.map_cons, List.map_nil]); rfl) ?_
              with_reducible refine (spec_l01Long.calls k 21 97 t480 _ A33.out).mono ?_
              rintro e w44 ⟨rfl, hb⟩
              refine ⟨_, rfl, ?_⟩
              have n0_ := Aside0.mk (Kd.R_below (by (with_reducible repeat (first | apply Kd.R_alloc | apply Kd.R_drewN | apply Kd.R_drew )); exact HO470.out) hb)
              have n1_ := Aside0.mk (IsS91.below (by repeat ((with_reducible exact HI0.out))) hb)
              have n2_ := Aside0.mk (blk_below (g := gb460) (o := .cells #[.string (⟨#[]⟩ : ByteArray), .slice none 0 0] 26 (0, 0)) (by (with_reducible repeat (first | refine blk_drewN ?_ _ | refine blk_drew ?_ | refine blk_alloc ?_ _ )); exact BK460.out) hb)
              have n3_ := Aside0.mk (blk_below (g := gb473) (o := .cells #[.string t467, .slice Ao14 t468.length co14] 26 (0, 0)) (by (with_reducible repeat (first | refine blk_drewN ?_ _ | refine blk_drew ?_ | refine blk_alloc ?_ _ )); exact BK473.out) hb)
              have n4_ := Aside0.mk (KeepBut.trans (by repeat ((with_reducible exact HK.out))) (KeepBut.of_below hb g none) (.inl rfl))
              have n5_ := Aside0.mk (below_step (by repeat ((with_reducible exact HB.out))) hb)
              clear HO470
              clear HI0
              clear BK460
              clear BK473
              clear HK
              clear HB
              have HO470 := n0_
              have HI0 := n1_
              have BK460 := n2_
              have BK473 := n3_
              have HK := n4_
              have HB := n5_
              clear n0_ n1_ n2_ n3_ n4_ n5_
              (try clear hb)
              (try clear hb2)
              (try clear hk)
              (try clear hi)
              refine hK.out _ _ ⟨(blk_cell BK473.out 0).trans rfl, (blk_cell BK473.out 1).trans rfl⟩ (fun hHeld => ?_)
              clear hK K
              refine norm_ (a' := ?_) ?_ ?_
              rotate_left
              · show Act.put _ (some 31) _ = _
                simp only [Act.put, List.setIfInBounds_toArray, List.set_cons_zero, List.set_cons_succ, i64_w, i32_w]
                rfl
              refine one_ (i := 3) (N := some 32) #[true, true, true, true, true, true, false, false, false, false, false] rfl rfl (one_of HT_.out (by kernel_rfl)) (by decide) (fun K hK => ?_)
              refine Kd.R_lit_step Kd.string _ 9 ?hg (N := 32) ?hd (xs := ([(⟨#[]⟩ : ByteArray), (⟨#[65]⟩ : ByteArray), (⟨#[97, 32, 98]⟩ : ByteArray), t480, (⟨#[45]⟩ : ByteArray)] : List ByteArray)) (inner := [.string (⟨#[]⟩ : ByteArray), .string (⟨#[65]⟩ : ByteArray), .string (⟨#[97, 32, 98]⟩ : ByteArray), .string t480, .string (⟨#[45]⟩ : ByteArray)]) (ok := fun _ => True) (okp := fun _ => True) ?hr ?hp (fun _ hk => hk) trivial (Below.refl _ _) (Nat.le_refl _) (by simp) ?_; (case hd => rfl); (case hg => rfl); (case hr => (go_simp; done)); (case hp => exact (Reps.one (show Kd.M Kd.string _ _ _ (⟨#[]⟩ : ByteArray) [.string (⟨#[]⟩ : ByteArray)] from rfl) (Reps.one (show Kd.M Kd.string _ _ _ (⟨#[65]⟩ : ByteArray) [.string (⟨#[65]⟩ : ByteArray)] from rfl) (Reps.one (show Kd.M Kd.string _ _ _ (⟨#[97, 32, 98]⟩ : ByteArray) [.string (⟨#[97, 32, 98]⟩ : ByteArray)] from rfl) (Reps.one (show Kd.M Kd.string _ _ _ t480 [.string t480] from rfl) (Reps.one (show Kd.M Kd.string _ _ _ (⟨#[45]⟩ : ByteArray) [.string (⟨#[45]⟩ : ByteArray)] from rfl) (Reps.none _ _)))))))
              intro v482 w45 ho46 hb hg_ hnew_
              clear hg_ hnew_
              (rw [← Ny481.out] at ho46)
              have n0_ := Aside0.mk (Kd.R_below (by (with_reducible repeat (first | apply Kd.R_alloc | apply Kd.R_drewN | apply Kd.R_drew )); exact HO470.out) hb)
              have n1_ := Aside0.mk (Kd.R_lower ho46 (keep_size (w := w) (g := g) (row := none) (by repeat ((with_reducible exact HK.out)))))
              have n2_ := Aside0.mk (IsS91.below (by repeat ((with_reducible exact HI0.out))) hb)
              have n3_ := Aside0.mk (blk_below (g := gb460) (o := .cells #[.string (⟨#[]⟩ : ByteArray), .slice none 0 0] 26 (0, 0)) (by (with_reducible repeat (first | refine blk_drewN ?_ _ | refine blk_drew ?_ | refine blk_alloc ?_ _ )); exact BK460.out) hb)
              have n4_ := Aside0.mk (blk_below (g := gb473) (o := .cells #[.string t467, .slice Ao14 t468.length co14] 26 (0, 0)) (by (with_reducible repeat (first | refine blk_drewN ?_ _ | refine blk_drew ?_ | refine blk_alloc ?_ _ )); exact BK473.out) hb)
              have n5_ := Aside0.mk (KeepBut.trans (by repeat ((with_reducible exact HK.out))) (KeepBut.of_below hb g none) (.inl rfl))
              have n6_ := Aside0.mk (below_step (by repeat ((with_reducible exact HB.out))) hb)
              clear HO470
              clear HI0
              clear BK460
              clear BK473
              clear HK
              clear HB
              have HO470 := n0_
              have HO483 := n1_
              have HI0 := n2_
              have BK460 := n3_
              have BK473 := n4_
              have HK := n5_
              have HB := n6_
              clear n0_ n1_ n2_ n3_ n4_ n5_ n6_
              clear hb ho46
              obtain ⟨Ao47, co47, eo47⟩ := Kd.R_slice HO483.out
              subst eo47
              obtain ⟨ado47, fo47, _⟩ := Kd.at_string (Kd.R_reads' HO483.out).2.2 0 (by decide) (by rw [Ny481.out]; simp)
              cases fo47
              have p38 : 0 ≤ (0 : Int) := (by omega)
              have q38 : (0 : Int) < ((t468.length : Int) : Int) := of_decide_eq_true (by (with_reducible assumption))
              have qi38 : (0 < t468.length) = True := eq_true (by omega)
              obtain ⟨go38, co38, eo38, gb38, gl38, cl38, HG38⟩ := Kd.R_form HO470.out (by omega)
              (cases eo38)
              have GB38 := Aside0.mk gb38
              have GG38 := Aside0.mk HG38
              clear gb38 gl38 HG38
              obtain ⟨ce38, hcl38, hM38, hcc38, hfr38⟩ := Kd.R_elem HO470.out z40 (0 : Int) p38 q38
              obtain rfl := k40_openM hM38
              have hx38_0 : World.cell? _ ⟨go38, (0 : Int).toNat * 2, none⟩ = some (.string ((rd_T40 t468 0).f0)) := hcc38 0 _ rfl
              have hx38_1 : World.cell? _ ⟨go38, (0 : Int).toNat * 2 + 1, none⟩ = some (.string ((rd_T40 t468 0).f1)) := hcc38 1 _ rfl
              have hf38_0 : World.frozen? _ ⟨go38, (0 : Int).toNat * 2, none⟩ = false := hfr38 0
              have hf38_1 : World.frozen? _ ⟨go38, (0 : Int).toNat * 2 + 1, none⟩ = false := hfr38 1
              (clear hcl38 hcc38 hfr38 hM38)
              (try rw [show ((0 : Int)).toNat = 0 from rfl] at hx38_0)
              (try simp only [Nat.reduceMul, Nat.zero_mul, Nat.zero_add, Nat.reduceAdd] at hx38_0)
              (try rw [show ((0 : Int)).toNat = 0 from rfl] at hf38_0)
              (try simp only [Nat.reduceMul, Nat.zero_mul, Nat.zero_add, Nat.reduceAdd] at hf38_0)
              (try rw [show ((0 : Int)).toNat = 0 from rfl] at hx38_1)
              (try simp only [Nat.reduceMul, Nat.zero_mul, Nat.zero_add, Nat.reduceAdd] at hx38_1)
              (try rw [show ((0 : Int)).toNat = 0 from rfl] at hf38_1)
              (try simp only [Nat.reduceMul, Nat.zero_mul, Nat.zero_add, Nat.reduceAdd] at hf38_1)
              replace p38 := eq_true p38
              replace q38 := eq_true q38
              have HN0_go38 := Aside0.mk (show g ≠ go38 from by have h_ := IsS91.own_ne HI0.out HO470.out (by decide); intro e_; exact h_ (by rw [e_]; rfl))
              obtain ⟨ce48, hcl48, hM48, hcc48, hfr48⟩ := Kd.R_elem HO470.out z40 (0 : Int) (by omega) (by have h_ : (0 : Int) < ((t468.length : Int) : Int) := of_decide_eq_true (by (with_reducible assumption)); exact h_)
              obtain rfl := k40_openM hM48
              have HP48 := (Kd.R_seg HO470.out (0 : Int) (by omega) (by have h_ : (0 : Int) < ((t468.length : Int) : Int) := of_decide_eq_true (by (with_reducible assumption)); exact h_) (seg := [.string (rdOf ByteArray.empty y481 (ji34))]) (j := 0) hcl48 hcc48 (show 1 ≤ 2 from by decide) (x' := (⟨rdOf ByteArray.empty y481 (ji34), (rd_T40 t468 0).f1⟩ : S40)) (k40_mkM _ _ _ (⟨rdOf ByteArray.empty y481 (ji34), (rd_T40 t468 0).f1⟩ : S40) ) (fun _ hk => hk)).1
              rw [← Ny485.out] at HP48
              have HQ48 := Aside0.mk HP48
              (clear hcl48 hcc48 hfr48 hM48 HP48)
              refine hK.out _ _ ⟨(blk_cell BK473.out 0).trans rfl, (blk_cell BK473.out 1).trans rfl⟩ (fun hHeld => ?_)
              clear hK K
              refine norm_ (a' := ?_) ?_ ?_
              rotate_left
              · show Act.put _ (some 32) _ = _
                simp only [Act.put, List.setIfInBounds_toArray, List.set_cons_zero, List.set_cons_succ, i64_w, i32_w]
                rfl
              refine pure_ (i := 6) (N := some 35) (v := ?_) (a' := ?_) #[true, true, true, true, true, true, true, false, false, false, false] rfl rfl (any_of HT_.out (by kernel_rfl)) (fun _ _ _ h => h) (Or.inl ⟨by rfl, ?_⟩) ?_ ?_
              rotate_left
              · intro w'
                go_simp
                with_reducible rfl
              rotate_left
              · simp only [Act.put, List.setIfInBounds_toArray, List.set_cons_zero, List.set_cons_succ, i64_w, i32_w]
                rfl
              refine one_ (i := 7) (N := some 36) #[true, true, true, true, true, true, true, true, false, false, false] rfl rfl (one_of HT_.out (by kernel_rfl)) (by decide) (fun K hK => ?_)
              (have p484 : 0 ≤ ((ji34) : Int) := of_decide_eq_true (by (with_reducible assumption)); have q484 : (ji34) < (y481.length : Int) := of_decide_eq_true (by (with_reducible assumption)); obtain ⟨ad484, e484, hx484_0⟩ := Kd.at_string (Kd.R_reads' HO483.out).2.2 (ji34) p484 q484; obtain rfl : ado47 = ad484 := (by injection e484))
              refine value_ (w1 := ?_) (v := ?_) (by rfl) rfl ?_ ?_
              rotate_left 2
              · go_simp
                constructor
                · rfl
                · rfl
              clear hx484_0
              refine hK.out _ _ ⟨(blk_cell BK473.out 0).trans rfl, (blk_cell BK473.out 1).trans rfl⟩ (fun hHeld => ?_)
              clear hK K
              refine norm_ (a' := ?_) ?_ ?_
              rotate_left
              · show Act.put _ (some 36) _ = _
                simp only [Act.put, List.setIfInBounds_toArray, List.set_cons_zero, List.set_cons_succ, i64_w, i32_w]
                rfl
              refine pure_ (i := 8) (N := some 37) (v := ?_) (a' := ?_) #[true, true, true, true, true, true, true, true, true, false, false] rfl rfl (any_of HT_.out (by kernel_rfl)) (fun _ _ _ h => h) (Or.inl ⟨by rfl, ?_⟩) ?_ ?_
              rotate_left
              · intro w'
                go_simp
                with_reducible rfl
              rotate_left
              · simp only [Act.put, List.setIfInBounds_toArray, List.set_cons_zero, List.set_cons_succ, i64_w, i32_w]
                rfl
              refine pure_ (i := 9) (N := some 38) (v := ?_) (a' := ?_) #[true, true, true, true, true, true, true, true, true, true, false] rfl rfl (any_of HT_.out (by kernel_rfl)) (fun _ _ _ h => h) (Or.inl ⟨by rfl, ?_⟩) ?_ ?_
              rotate_left
              · intro w'
                go_simp
                with_reducible rfl
              rotate_left
              · simp only [Act.put, List.setIfInBounds_toArray, List.set_cons_zero, List.set_cons_succ, i64_w, i32_w]
                rfl
              refine last_ (i := 10) (N := none) #[true, true, true, true, true, true, true, true, true, true, true] rfl rfl (one_of HT_.out (by kernel_rfl)) (by decide) (fun K hK => ?_)
              refine skip_ (w1 := ?_) (by rfl) rfl ?_ ?_
              rotate_left
              · go_simp
                rfl
              refine hK.out _ _ ?_
              clear hK K
              refine done_ (done_of HT_.out (by kernel_rfl)) ?_
              have n0_ : Aside0 (Kd.R k40 40 (w45.setCell ⟨go38, 0, none⟩ (.string (rdOf ByteArray.empty y481 (ji34)))) w.heap.size (fun _ => True) (.slice (some ⟨go38, 0, none⟩) t468.length co14) y485) := ⟨by (with_reducible repeat (first | apply Kd.R_alloc | apply Kd.R_drewN | apply Kd.R_drew )); exact HQ48.out⟩
              have n1_ : Aside0 (Kd.R Kd.string 9 (w45.setCell ⟨go38, 0, none⟩ (.string (rdOf ByteArray.empty y481 (ji34)))) w.heap.size (fun _ => True) (.slice (some ado47) y481.length co47) y481) := ⟨by (with_reducible repeat (first | apply Kd.R_alloc | apply Kd.R_drewN | apply Kd.R_drew )); exact Kd.R_mono (Kd.R_far (p := ⟨go38, 0, none⟩) (Kd.R_types HO483.out GG38.out (by decide)) (fun _ hk => hk.2) (.string (rdOf ByteArray.empty y481 (ji34)))) (fun _ hk => trivial)⟩
              have n2_ : Aside0 ((w45.setCell ⟨go38, 0, none⟩ (.string (rdOf ByteArray.empty y481 (ji34)))).heap[gb460]? = some (.cells #[.string (⟨#[]⟩ : ByteArray), .slice none 0 0] 26 (0, 0))) := ⟨by (with_reducible repeat (first | refine blk_drewN ?_ _ | refine blk_drew ?_ | refine blk_alloc ?_ _ )); refine blk_far ?_ (by have h_ := Kd.R_ne HO470.out BK460.out (by decide); intro e_; exact h_ (by rw [e_]; rfl)) _; (with_reducible repeat (first | refine blk_drewN ?_ _ | refine blk_drew ?_ | refine blk_alloc ?_ _ )); exact BK460.out⟩
              have n3_ : Aside0 ((w45.setCell ⟨go38, 0, none⟩ (.string (rdOf ByteArray.empty y481 (ji34)))).heap[gb473]? = some (.cells #[.string t467, .slice (some ⟨go38, 0, none⟩) t468.length co14] 26 (0, 0))) := ⟨by (with_reducible repeat (first | refine blk_drewN ?_ _ | refine blk_drew ?_ | refine blk_alloc ?_ _ )); refine blk_far ?_ (by have h_ := Kd.R_ne HO470.out BK473.out (by decide); intro e_; exact h_ (by rw [e_]; rfl)) _; (with_reducible repeat (first | refine blk_drewN ?_ _ | refine blk_drew ?_ | refine blk_alloc ?_ _ )); exact BK473.out⟩
              have n4_ : Aside0 (IsS91 w0 (w45.setCell ⟨go38, 0, none⟩ (.string (rdOf ByteArray.empty y481 (ji34)))) g s0_0 t471 t472) := ⟨by repeat ((with_reducible first | exact HI0.out | refine IsS91.far ?_ HN0_go38.out _))⟩
              have n5_ : Aside0 (KeepBut w (w45.setCell ⟨go38, 0, none⟩ (.string (rdOf ByteArray.empty y481 (ji34)))) g none) := ⟨by repeat ((with_reducible first | exact HK.out | refine keep_far ?_ GB38.out _))⟩
              have n6_ : Aside0 (Below w0.heap.size w0 (w45.setCell ⟨go38, 0, none⟩ (.string (rdOf ByteArray.empty y481 (ji34))))) := ⟨by repeat ((with_reducible first | exact HB.out | refine below_set ?_ (Nat.le_trans HL.out GB38.out)))⟩
              (try clear HO470)
              (try clear HO483)
              (try clear BK460)
              (try clear BK473)
              (try clear HI0)
              (try clear HK)
              (try clear HB)
              generalize (w45.setCell ⟨go38, 0, none⟩ (.string (rdOf ByteArray.empty y481 (ji34)))) = w49 at n0_ n1_ n2_ n3_ n4_ n5_ n6_ ⊢
              have HO470 := n0_
              have HO483 := n1_
              have BK460 := n2_
              have BK473 := n3_
              have HI0 := n4_
              have HK := n5_
              have HB := n6_
              clear n0_ n1_ n2_ n3_ n4_ n5_ n6_
              have hcz50_0 : w49.cell? ⟨gb473, 0, none⟩ = some (.string t467) := (blk_cell BK473.out 0).trans rfl
              have hcz50_1 : w49.cell? ⟨gb473, 1, none⟩ = some (.slice (some ⟨go38, 0, none⟩) t468.length co14) := (blk_cell BK473.out 1).trans rfl
              have hfz50_0 := blk_frozen BK473.out 0
              have hfz50_1 := blk_frozen BK473.out 1
              have hnb51 := NB460_0.out
              have hnc51 := NB0_460.out
              have hcz52_0 : w49.cell? ⟨gb460, 0, none⟩ = some (.string (⟨#[]⟩ : ByteArray)) := (blk_cell BK460.out 0).trans rfl
              have hcz52_1 : w49.cell? ⟨gb460, 1, none⟩ = some (.slice none 0 0) := (blk_cell BK460.out 1).trans rfl
              have hfz52_0 := blk_frozen BK460.out 0
              have hfz52_1 := blk_frozen BK460.out 1
              go_wp2
              refine bodyPost_ret (results_cell_row rfl _ _ gb460 26 #[.string t467, .slice (some ⟨go38, 0, none⟩) t468.length co14] (0, 0) _ rfl (by (with_reducible repeat (first | refine blk_drewN ?_ _ | refine blk_drew ?_ | refine blk_alloc ?_ _ )); refine blk_put (cs := #[.string t467, .slice none 0 0]) ?_ 1 _ rfl; (with_reducible repeat (first | refine blk_drewN ?_ _ | refine blk_drew ?_ | refine blk_alloc ?_ _ )); refine blk_put (cs := #[.string (⟨#[]⟩ : ByteArray), .slice none 0 0]) ?_ 0 _ rfl; (with_reducible repeat (first | refine blk_drewN ?_ _ | refine blk_drew ?_ | refine blk_alloc ?_ _ )); exact BK460.out) Tryd.underlying26 rfl (by kernel_rfl)) rfl ?_
              exact ⟨_, by rfl, by (with_reducible repeat (first | apply Kd.R_alloc | apply Kd.R_drewN | apply Kd.R_drew )); exact Kd.R_mono (Kd.R_far (p := ⟨gb460, 1, none⟩) (Kd.R_far (p := ⟨gb460, 0, none⟩) (Kd.R_types HO470.out BK460.out (by decide)) (fun _ hk => hk.2) (.string t467)) (fun _ hk => hk.2) (.slice (some ⟨go38, 0, none⟩) t468.length co14)) (fun _ hk => trivial), by repeat ((with_reducible first | exact HI0.out | refine IsS91.far ?_ NB0_460.out _)), by repeat ((with_reducible first | exact HB.out | refine below_set ?_ GE460.out)), by repeat ((with_reducible first | exact HK.out | refine keep_far ?_ GW460.out _))⟩
            · rw [if_neg c37] at H
              exact absurd H (by simp)
          · rw [if_neg c36] at H
            exact absurd H (by simp)
        · rw [if_neg c35] at H
          exact absurd H (by simp)
      · rw [if_neg c32] at H
        have c32b0 : decide (0 < (t468.length : Int)) = false := decide_eq_false c32
        have c32b1 : decide (0 < t468.length) = false := decide_eq_false (by omega)
        clear c32
        simp only [Option.some.injEq, Prod.mk.injEq] at H
        obtain ⟨rfl, rfl, rfl, rfl⟩ := H
        have hnb53 := NB473_460.out
        have hnc53 := NB460_473.out
        have hnb54 := NB473_0.out
        have hnc54 := NB0_473.out
        have hcz55_0 : w10.cell? ⟨gb473, 0, none⟩ = some (.string (⟨#[]⟩ : ByteArray)) := (blk_cell BK473.out 0).trans rfl
        have hcz55_1 : w10.cell? ⟨gb473, 1, none⟩ = some (.slice none 0 0) := (blk_cell BK473.out 1).trans rfl
        have hfz55_0 := blk_frozen BK473.out 0
        have hfz55_1 := blk_frozen BK473.out 1
        have hnb56 := NB460_0.out
        have hnc56 := NB0_460.out
        have hcz57_0 : w10.cell? ⟨gb460, 0, none⟩ = some (.string (⟨#[]⟩ : ByteArray)) := (blk_cell BK460.out 0).trans rfl
        have hcz57_1 : w10.cell? ⟨gb460, 1, none⟩ = some (.slice none 0 0) := (blk_cell BK460.out 1).trans rfl
        have hfz57_0 := blk_frozen BK460.out 0
        have hfz57_1 := blk_frozen BK460.out 1
        go_wp2
        refine bodyPost_ret (results_cell_row rfl _ _ gb460 26 #[.string t467, .slice Ao14 t468.length co14] (0, 0) _ rfl (by (with_reducible repeat (first | refine blk_drewN ?_ _ | refine blk_drew ?_ | refine blk_alloc ?_ _ )); refine blk_put (cs := #[.string t467, .slice none 0 0]) ?_ 1 _ rfl; (with_reducible repeat (first | refine blk_drewN ?_ _ | refine blk_drew ?_ | refine blk_alloc ?_ _ )); refine blk_put (cs := #[.string (⟨#[]⟩ : ByteArray), .slice none 0 0]) ?_ 0 _ rfl; (with_reducible repeat (first | refine blk_drewN ?_ _ | refine blk_drew ?_ | refine blk_alloc ?_ _ )); refine blk_far ?_ NB460_473.out _; (with_reducible repeat (first | refine blk_drewN ?_ _ | refine blk_drew ?_ | refine blk_alloc ?_ _ )); refine blk_far ?_ NB460_473.out _; (with_reducible repeat (first | refine blk_drewN ?_ _ | refine blk_drew ?_ | refine blk_alloc ?_ _ )); exact BK460.out) Tryd.underlying26 rfl (by kernel_rfl)) rfl ?_
        exact ⟨_, by rfl, by (with_reducible repeat (first | apply Kd.R_alloc | apply Kd.R_drewN | apply Kd.R_drew )); exact Kd.R_mono (Kd.R_far (p := ⟨gb460, 1, none⟩) (Kd.R_far (p := ⟨gb460, 0, none⟩) (Kd.R_far (p := ⟨gb473, 1, none⟩) (Kd.R_far (p := ⟨gb473, 0, none⟩) (Kd.R_types (Kd.R_types HO470.out BK473.out (by decide)) BK460.out (by decide)) (fun _ hk => hk.1.2) (.string t467)) (fun _ hk => hk.1.2) (.slice Ao14 t468.length co14)) (fun _ hk => hk.2) (.string t467)) (fun _ hk => hk.2) (.slice Ao14 t468.length co14)) (fun _ hk => trivial), by repeat ((with_reducible first | exact HI0.out | refine IsS91.far ?_ NB0_460.out _ | refine IsS91.far ?_ NB0_473.out _)), by repeat ((with_reducible first | exact HB.out | refine below_set ?_ GE460.out | refine below_set ?_ GE473.out)), by repeat ((with_reducible first | exact HK.out | refine keep_far ?_ GW460.out _ | refine keep_far ?_ GW473.out _))⟩
    · rw [if_neg c31] at H
      have c31b0 : (t461 == 1) = false := beq_eq_false_iff_ne.mpr c31
      have c31b1 : (t461 != 1) = true := bne_iff_ne.mpr c31
      by_cases c58 : t461 = 2
      · rw [if_pos c58] at H
        have c58b0 : (t461 == 2) = true := beq_iff_eq.mpr c58
        have c58b1 : (t461 != 2) = false := bne_eq_false_iff_eq.mpr c58
        clear c58
        by_cases c59 : (t468.length : Int) > 0
        · rw [if_pos c59] at H
          have c59b0 : decide (0 < (t468.length : Int)) = true := decide_eq_true c59
          have c59b1 : decide (0 < t468.length) = true := decide_eq_true (by omega)
          clear c59
          replace H := Option.bind_eq_some_iff.mp H
          obtain ⟨t486, A600, H⟩ := H
          replace H : ((spec_l01Long.f k 61 97).bind fun t487 => ((some (([(⟨#[32, 97]⟩ : ByteArray), (⟨#[97, 32]⟩ : ByteArray), t486, t487, (⟨#[10]⟩ : ByteArray)] : List ByteArray) : List ByteArray)).bind fun y488 => (if 0 ≤ (Int.tmod t464 5) then (if (Int.tmod t464 5) < (y488.length : Int) then (if 0 < (t468.length : Int) then (some (t467, (t468.set (0 : Int).toNat (⟨(rd_T40 t468 0).f0, rdOf ByteArray.empty y488 (Int.tmod t464 5)⟩ : S40)), t471, t472)) else (none)) else (none)) else (none)))) = some (r1, r2, r3, r4) := H
          have A60 := Aside0.mk A600
          clear A600
          replace H := Option.bind_eq_some_iff.mp H
          obtain ⟨t487, A610, H⟩ := H
          replace H : ((some (([(⟨#[32, 97]⟩ : ByteArray), (⟨#[97, 32]⟩ : ByteArray), t486, t487, (⟨#[10]⟩ : ByteArray)] : List ByteArray) : List ByteArray)).bind fun y488 => (if 0 ≤ (Int.tmod t464 5) then (if (Int.tmod t464 5) < (y488.length : Int) then (if 0 < (t468.length : Int) then (some (t467, (t468.set (0 : Int).toNat (⟨(rd_T40 t468 0).f0, rdOf ByteArray.empty y488 (Int.tmod t464 5)⟩ : S40)), t471, t472)) else (none)) else (none)) else (none))) = some (r1, r2, r3, r4) := H
          have A61 := Aside0.mk A610
          clear A610
          obtain ⟨y488, hy488⟩ : ∃ y_ : List ByteArray, y_ = (([(⟨#[32, 97]⟩ : ByteArray), (⟨#[97, 32]⟩ : ByteArray), t486, t487, (⟨#[10]⟩ : ByteArray)] : List ByteArray)) := ⟨_, rfl⟩
          replace H : (if 0 ≤ (Int.tmod t464 5) then (if (Int.tmod t464 5) < (y488.length : Int) then (if 0 < (t468.length : Int) then (some (t467, (t468.set (0 : Int).toNat (⟨(rd_T40 t468 0).f0, rdOf ByteArray.empty y488 (Int.tmod t464 5)⟩ : S40)), t471, t472)) else (none)) else (none)) else (none)) = some (r1, r2, r3, r4) := by (have H2_ := (Option.bind_some _ _).symm.trans H; rw [hy488]; with_reducible exact H2_)
          have Ny488 := Aside0.mk hy488
          clear hy488
          obtain ⟨ji62, hji62⟩ : ∃ j_ : Int, (Int.tmod t464 5) = j_ := ⟨_, rfl⟩
          replace H : (if 0 ≤ (ji62) then (if (ji62) < (y488.length : Int) then (if 0 < (t468.length : Int) then (some (t467, (t468.set (0 : Int).toNat (⟨(rd_T40 t468 0).f0, rdOf ByteArray.empty y488 (ji62)⟩ : S40)), t471, t472)) else (none)) else (none)) else (none)) = some (r1, r2, r3, r4) := by (rw [hji62] at H; exact H)
          (try rw [hji62] at A60)
          (try rw [hji62] at A61)
          by_cases c63 : 0 ≤ (ji62)
          · rw [if_pos c63] at H
            have c63b0 : decide (0 ≤ (ji62)) = true := decide_eq_true c63
            clear c63
            by_cases c64 : (ji62) < (y488.length : Int)
            · rw [if_pos c64] at H
              have c64b0 : decide ((ji62) < (y488.length : Int)) = true := decide_eq_true c64
              clear c64
              by_cases c65 : 0 < (t468.length : Int)
              · rw [if_pos c65] at H
                have c65b0 : decide (0 < (t468.length : Int)) = true := decide_eq_true c65
                have c65b1 : decide (0 < t468.length) = true := decide_eq_true (by omega)
                clear c65
                obtain ⟨y492, hy492⟩ : ∃ y_ : List (S40), y_ = (t468.set (0 : Int).toNat (⟨(rd_T40 t468 0).f0, rdOf ByteArray.empty y488 (ji62)⟩ : S40)) := ⟨_, rfl⟩
                replace H : (some (t467, y492, t471, t472)) = some (r1, r2, r3, r4) := by (rw [hy492]; with_reducible exact H)
                have Ny492 := Aside0.mk hy492
                clear hy492
                simp only [Option.some.injEq, Prod.mk.injEq] at H
                obtain ⟨rfl, rfl, rfl, rfl⟩ := H
                have hnb67 := NB473_460.out
                have hnc67 := NB460_473.out
                have hnb68 := NB473_0.out
                have hnc68 := NB0_473.out
                have hcz69_0 : w10.cell? ⟨gb473, 0, none⟩ = some (.string (⟨#[]⟩ : ByteArray)) := (blk_cell BK473.out 0).trans rfl
                have hcz69_1 : w10.cell? ⟨gb473, 1, none⟩ = some (.slice none 0 0) := (blk_cell BK473.out 1).trans rfl
                have hfz69_0 := blk_frozen BK473.out 0
                have hfz69_1 := blk_frozen BK473.out 1
                go_wp2
                have pi491 : (0 ≤ ((ji62) : Int)) = True := eq_true (of_decide_eq_true (by (with_reducible assumption)))
                have qi491 : ((ji62) < (y488.length : Int)) = True := eq_true (of_decide_eq_true (by (with_reducible assumption)))
                have n0_ : Aside0 (Kd.R k40 40 ((w10.setCell ⟨gb473, 0, none⟩ (.string t467)).setCell ⟨gb473, 1, none⟩ (.slice Ao14 t468.length co14)) w.heap.size (fun _ => True) (.slice Ao14 t468.length co14) t468) := ⟨by (with_reducible repeat (first | apply Kd.R_alloc | apply Kd.R_drewN | apply Kd.R_drew )); exact Kd.R_mono (Kd.R_far (p := ⟨gb473, 1, none⟩) (Kd.R_far (p := ⟨gb473, 0, none⟩) (Kd.R_types HO470.out BK473.out (by decide)) (fun _ hk => hk.2) (.string t467)) (fun _ hk => hk.2) (.slice Ao14 t468.length co14)) (fun _ hk => trivial)⟩
                have n1_ : Aside0 (((w10.setCell ⟨gb473, 0, none⟩ (.string t467)).setCell ⟨gb473, 1, none⟩ (.slice Ao14 t468.length co14)).heap[gb460]? = some (.cells #[.string (⟨#[]⟩ : ByteArray), .slice none 0 0] 26 (0, 0))) := ⟨by (with_reducible repeat (first | refine blk_drewN ?_ _ | refine blk_drew ?_ | refine blk_alloc ?_ _ )); refine blk_far ?_ NB460_473.out _; (with_reducible repeat (first | refine blk_drewN ?_ _ | refine blk_drew ?_ | refine blk_alloc ?_ _ )); refine blk_far ?_ NB460_473.out _; (with_reducible repeat (first | refine blk_drewN ?_ _ | refine blk_drew ?_ | refine blk_alloc ?_ _ )); exact BK460.out⟩
                have n2_ : Aside0 (((w10.setCell ⟨gb473, 0, none⟩ (.string t467)).setCell ⟨gb473, 1, none⟩ (.slice Ao14 t468.length co14)).heap[gb473]? = some (.cells #[.string t467, .slice Ao14 t468.length co14] 26 (0, 0))) := ⟨by (with_reducible repeat (first | refine blk_drewN ?_ _ | refine blk_drew ?_ | refine blk_alloc ?_ _ )); refine blk_put (cs := #[.string t467, .slice none 0 0]) ?_ 1 _ rfl; (with_reducible repeat (first | refine blk_drewN ?_ _ | refine blk_drew ?_ | refine blk_alloc ?_ _ )); refine blk_put (cs := #[.string (⟨#[]⟩ : ByteArray), .slice none 0 0]) ?_ 0 _ rfl; (with_reducible repeat (first | refine blk_drewN ?_ _ | refine blk_drew ?_ | refine blk_alloc ?_ _ )); exact BK473.out⟩
                have n3_ : Aside0 (IsS91 w0 ((w10.setCell ⟨gb473, 0, none⟩ (.string t467)).setCell ⟨gb473, 1, none⟩ (.slice Ao14 t468.length co14)) g s0_0 t471 t472) := ⟨by repeat ((with_reducible first | exact HI0.out | refine IsS91.far ?_ NB0_473.out _))⟩
                have n4_ : Aside0 (KeepBut w ((w10.setCell ⟨gb473, 0, none⟩ (.string t467)).setCell ⟨gb473, 1, none⟩ (.slice Ao14 t468.length co14)) g none) := ⟨by repeat ((with_reducible first | exact HK.out | refine keep_far ?_ GW473.out _))⟩
                have n5_ : Aside0 (Below w0.heap.size w0 ((w10.setCell ⟨gb473, 0, none⟩ (.string t467)).setCell ⟨gb473, 1, none⟩ (.slice Ao14 t468.length co14))) := ⟨by repeat ((with_reducible first | exact HB.out | refine below_set ?_ GE473.out))⟩
                (try clear HO470)
                (try clear BK460)
                (try clear BK473)
                (try clear HI0)
                (try clear HK)
                (try clear HB)
                generalize ((w10.setCell ⟨gb473, 0, none⟩ (.string t467)).setCell ⟨gb473, 1, none⟩ (.slice Ao14 t468.length co14)) = w70 at n0_ n1_ n2_ n3_ n4_ n5_ ⊢
                have HO470 := n0_
                have BK460 := n1_
                have BK473 := n2_
                have HI0 := n3_
                have HK := n4_
                have HB := n5_
                clear n0_ n1_ n2_ n3_ n4_ n5_
                have n0_ := Aside0.mk (Kd.R_drew HO470.out)
                have n1_ := Aside0.mk (blk_drew BK460.out)
                have n2_ := Aside0.mk (blk_drew BK473.out)
                have n3_ := Aside0.mk (IsS91.drew HI0.out)
                have n4_ := Aside0.mk (keep_drew HK.out)
                have n5_ := Aside0.mk (below_drew1 HB.out)
                clear HO470
                clear BK460
                clear BK473
                clear HI0
                clear HK
                clear HB
                have HO470 := n0_
                have BK460 := n1_
                have BK473 := n2_
                have HI0 := n3_
                have HK := n4_
                have HB := n5_
                clear n0_ n1_ n2_ n3_ n4_ n5_
                refine start_ (n := 12) (S := fun w' => w'.cell? ⟨gb473, 0, none⟩ = some (.string t467) ∧ w'.cell? ⟨gb473, 1, none⟩ = some (.slice Ao14 t468.length co14)) (ds := [11]) #[false, false, false, false, false, false, false, false, false, false, false, false] (by kernel_rfl) rfl rfl ⟨(blk_cell BK473.out 0).trans rfl, (blk_cell BK473.out 1).trans rfl⟩ (fun hHeld => ?_); refine with_tabW spec_l09Any.tab12 spec_l09Any.bits12 (fun HT_ HW_ => ?_)
                generalize w70.drew = w71 at HO470 BK460 BK473 HI0 HK HB hHeld ⊢
                refine pure_ (i := 0) (N := some 45) (v := ?_) (a' := ?_) #[true, false, false, false, false, false, false, false, false, false, false, false] rfl rfl (any_of HT_.out (by kernel_rfl)) (fun _ _ _ h => h) (Or.inl ⟨by rfl, ?_⟩) ?_ ?_
                rotate_left
                · intro w'
                  go_simp
                  with_reducible rfl
                rotate_left
                · simp only [Act.put, List.setIfInBounds_toArray, List.set_cons_zero, List.set_cons_succ, i64_w, i32_w]
                  rfl
                refine pure_ (i := 5) (N := some 50) (v := ?_) (a' := ?_) #[true, false, false, false, false, true, false, false, false, false, false, false] rfl rfl (any_of HT_.out (by kernel_rfl)) (fun _ _ _ h => h) (Or.inl ⟨by rfl, ?_⟩) ?_ ?_
                rotate_left
                · intro w'
                  go_simp
                  with_reducible rfl
                rotate_left
                · simp only [Act.put, List.setIfInBounds_toArray, List.set_cons_zero, List.set_cons_succ, i64_w, i32_w]
                  rfl
                refine pure_ (i := 6) (N := some 51) (v := ?_) (a' := ?_) #[true, false, false, false, false, true, true, false, false, false, false, false] rfl rfl (any_of HT_.out (by kernel_rfl)) (fun _ _ _ h => h) (Or.inl ⟨by rfl, ?_⟩) ?_ ?_
                rotate_left
                · intro w'
                  go_simp
                  with_reducible rfl
                rotate_left
                · simp only [Act.put, List.setIfInBounds_toArray, List.set_cons_zero, List.set_cons_succ, i64_w, i32_w]
                  rfl
                refine take_ (i := 1) (N := some 46) (v := ?_) (a' := ?_) #[true, true, false, false, false, true, true, false, false, false, false, false] rfl rfl (take_ofW HT_.out HW_.out (by kernel_rfl)) (fun _ _ _ h => h) (Or.inl ⟨by rfl, ?_⟩) hHeld ?_ ?_
                rotate_left
                · rintro w' ⟨s0, s1⟩
                  go_simp
                  with_reducible rfl
                rotate_left
                · simp only [Act.put, List.setIfInBounds_toArray, List.set_cons_zero, List.set_cons_succ, i64_w, i32_w]
                  rfl
                refine one_ (i := 2) (N := some 47) #[true, true, true, false, false, true, true, false, false, false, false, false] rfl rfl (one_of HT_.out (by kernel_rfl)) (by decide) (fun K hK => ?_)
                refine goes_ Tryd.func77 (by kernel_rfl) rfl #[.int .i64 60, .int .u8 97] (by rfl) rfl rfl (by (try simp only [List.map_toArray, List.map_cons, List.map_nil]); rfl) ?_
                with_reducible refine (spec_l01Long.calls k 60 97 t486 _ A60.out).mono ?_
                rintro e w72 ⟨rfl, hb⟩
                refine ⟨_, rfl, ?_⟩
                have n0_ := Aside0.mk (Kd.R_below (by (with_reducible repeat (first | apply Kd.R_alloc | apply Kd.R_drewN | apply Kd.R_drew )); exact HO470.out) hb)
                have n1_ := Aside0.mk (IsS91.below (by repeat ((with_reducible exact HI0.out))) hb)
                have n2_ := Aside0.mk (blk_below (g := gb460) (o := .cells #[.string (⟨#[]⟩ : ByteArray), .slice none 0 0] 26 (0, 0)) (by (with_reducible repeat (first | refine blk_drewN ?_ _ | refine blk_drew ?_ | refine blk_alloc ?_ _ )); exact BK460.out) hb)
                have n3_ := Aside0.mk (blk_below (g := gb473) (o := .cells #[.string t467, .slice Ao14 t468.length co14] 26 (0, 0)) (by (with_reducible repeat (first | refine blk_drewN ?_ _ | refine blk_drew ?_ | refine blk_alloc ?_ _ )); exact BK473.out) hb)
                have n4_ := Aside0.mk (KeepBut.trans (by repeat ((with_reducible exact HK.out))) (KeepBut.of_below hb g none) (.inl rfl))
                have n5_ := Aside0.mk (below_step (by repeat ((with_reducible exact HB.out))) hb)
                clear HO470
                clear HI0
                clear BK460
                clear BK473
                clear HK
                clear HB
                have HO470 := n0_
                have HI0 := n1_
                have BK460 := n2_
                have BK473 := n3_
                have HK := n4_
                have HB := n5_
                clear n0_ n1_ n2_ n3_ n4_ n5_
                (try clear hb)
                (try clear hb2)
                (try clear hk)
                (try clear hi)
                refine hK.out _ _ ⟨(blk_cell BK473.out 0).trans rfl, (blk_cell BK473.out 1).trans rfl⟩ (fun hHeld => ?_)
                clear hK K
                refine norm_ (a' := ?_) ?_ ?_
                rotate_left
                · show Act.put _ (some 47) _ = _
                  simp only [Act.put, List.setIfInBounds_toArray, List.set_cons_zero, List.set_cons_succ, i64_w, i32_w]
                  rfl
                refine one_ (i := 3) (N := some 48) #[true, true, true, true, false, true, true, false, false, false, false, false] rfl rfl (one_of HT_.out (by kernel_rfl)) (by decide) (fun K hK => ?_)
                refine goes_ Tryd.func77 (by kernel_rfl) rfl #[.int .i64 61, .int .u8 97] (by rfl) rfl rfl (by (try simp only [List.map_toArray, List.map_cons, List.map_nil]); rfl) ?_
                with_reducible refine (spec_l01Long.calls k 61 97 t487 _ A61.out).mono ?_
                rintro e w73 ⟨rfl, hb⟩
                refine ⟨_, rfl, ?_⟩
                have n0_ := Aside0.mk (Kd.R_below (by (with_reducible repeat (first | apply Kd.R_alloc | apply Kd.R_drewN | apply Kd.R_drew )); exact HO470.out) hb)
                have n1_ := Aside0.mk (IsS91.below (by repeat ((with_reducible exact HI0.out))) hb)
                have n2_ := Aside0.mk (blk_below (g := gb460) (o := .cells #[.string (⟨#[]⟩ : ByteArray), .slice none 0 0] 26 (0, 0)) (by (with_reducible repeat (first | refine blk_drewN ?_ _ | refine blk_drew ?_ | refine blk_alloc ?_ _ )); exact BK460.out) hb)
                have n3_ := Aside0.mk (blk_below (g := gb473) (o := .cells #[.string t467, .slice Ao14 t468.length co14] 26 (0, 0)) (by (with_reducible repeat (first | refine blk_drewN ?_ _ | refine blk_drew ?_ | refine blk_alloc ?_ _ )); exact BK473.out) hb)
                have n4_ := Aside0.mk (KeepBut.trans (by repeat ((with_reducible exact HK.out))) (KeepBut.of_below hb g none) (.inl rfl))
                have n5_ := Aside0.mk (below_step (by repeat ((with_reducible exact HB.out))) hb)
                clear HO470
                clear HI0
                clear BK460
                clear BK473
                clear HK
                clear HB
                have HO470 := n0_
                have HI0 := n1_
                have BK460 := n2_
                have BK473 := n3_
                have HK := n4_
                have HB := n5_
                clear n0_ n1_ n2_ n3_ n4_ n5_
                (try clear hb)
                (try clear hb2)
                (try clear hk)
                (try clear hi)
                refine hK.out _ _ ⟨(blk_cell BK473.out 0).trans rfl, (blk_cell BK473.out 1).trans rfl⟩ (fun hHeld => ?_)
                clear hK K
                refine norm_ (a' := ?_) ?_ ?_
                rotate_left
                · show Act.put _ (some 48) _ = _
                  simp only [Act.put, List.setIfInBounds_toArray, List.set_cons_zero, List.set_cons_succ, i64_w, i32_w]
                  rfl
                refine one_ (i := 4) (N := some 49) #[true, true, true, true, true, true, true, false, false, false, false, false] rfl rfl (one_of HT_.out (by kernel_rfl)) (by decide) (fun K hK => ?_)
                refine Kd.R_lit_step Kd.string _ 9 ?hg (N := 49) ?hd (xs := ([(⟨#[32, 97]⟩ : ByteArray), (⟨#[97, 32]⟩ : ByteArray), t486, t487, (⟨#[10]⟩ : ByteArray)] : List ByteArray)) (inner := [.string (⟨#[32, 97]⟩ : ByteArray), .string (⟨#[97, 32]⟩ : ByteArray), .string t486, .string t487, .string (⟨#[10]⟩ : ByteArray)]) (ok := fun _ => True) (okp := fun _ => True) ?hr ?hp (fun _ hk => hk) trivial (Below.refl _ _) (Nat.le_refl _) (by simp) ?_; (case hd => rfl); (case hg => rfl); (case hr => (go_simp; done)); (case hp => exact (Reps.one (show Kd.M Kd.string _ _ _ (⟨#[32, 97]⟩ : ByteArray) [.string (⟨#[32, 97]⟩ : ByteArray)] from rfl) (Reps.one (show Kd.M Kd.string _ _ _ (⟨#[97, 32]⟩ : ByteArray) [.string (⟨#[97, 32]⟩ : ByteArray)] from rfl) (Reps.one (show Kd.M Kd.string _ _ _ t486 [.string t486] from rfl) (Reps.one (show Kd.M Kd.string _ _ _ t487 [.string t487] from rfl) (Reps.one (show Kd.M Kd.string _ _ _ (⟨#[10]⟩ : ByteArray) [.string (⟨#[10]⟩ : ByteArray)] from rfl) (Reps.none _ _)))))))
                intro v489 w74 ho75 hb hg_ hnew_
                clear hg_ hnew_
                (rw [← Ny488.out] at ho75)
                have n0_ := Aside0.mk (Kd.R_below (by (with_reducible repeat (first | apply Kd.R_alloc | apply Kd.R_drewN | apply Kd.R_drew )); exact HO470.out) hb)
                have n1_ := Aside0.mk (Kd.R_lower ho75 (keep_size (w := w) (g := g) (row := none) (by repeat ((with_reducible exact HK.out)))))
                have n2_ := Aside0.mk (IsS91.below (by repeat ((with_reducible exact HI0.out))) hb)
                have n3_ := Aside0.mk (blk_below (g := gb460) (o := .cells #[.string (⟨#[]⟩ : ByteArray), .slice none 0 0] 26 (0, 0)) (by (with_reducible repeat (first | refine blk_drewN ?_ _ | refine blk_drew ?_ | refine blk_alloc ?_ _ )); exact BK460.out) hb)
                have n4_ := Aside0.mk (blk_below (g := gb473) (o := .cells #[.string t467, .slice Ao14 t468.length co14] 26 (0, 0)) (by (with_reducible repeat (first | refine blk_drewN ?_ _ | refine blk_drew ?_ | refine blk_alloc ?_ _ )); exact BK473.out) hb)
                have n5_ := Aside0.mk (KeepBut.trans (by repeat ((with_reducible exact HK.out))) (KeepBut.of_below hb g none) (.inl rfl))
                have n6_ := Aside0.mk (below_step (by repeat ((with_reducible exact HB.out))) hb)
                clear HO470
                clear HI0
                clear BK460
                clear BK473
                clear HK
                clear HB
                have HO470 := n0_
                have HO490 := n1_
                have HI0 := n2_
                have BK460 := n3_
                have BK473 := n4_
                have HK := n5_
                have HB := n6_
                clear n0_ n1_ n2_ n3_ n4_ n5_ n6_
                clear hb ho75
                obtain ⟨Ao76, co76, eo76⟩ := Kd.R_slice HO490.out
                subst eo76
                obtain ⟨ado76, fo76, _⟩ := Kd.at_string (Kd.R_reads' HO490.out).2.2 0 (by decide) (by rw [Ny488.out]; simp)
                cases fo76
                have p66 : 0 ≤ (0 : Int) := (by omega)
                have q66 : (0 : Int) < ((t468.length : Int) : Int) := of_decide_eq_true (by (with_reducible assumption))
                have qi66 : (0 < t468.length) = True := eq_true (by omega)
                obtain ⟨go66, co66, eo66, gb66, gl66, cl66, HG66⟩ := Kd.R_form HO470.out (by omega)
                (cases eo66)
                have GB66 := Aside0.mk gb66
                have GG66 := Aside0.mk HG66
                clear gb66 gl66 HG66
                obtain ⟨ce66, hcl66, hM66, hcc66, hfr66⟩ := Kd.R_elem HO470.out z40 (0 : Int) p66 q66
                obtain rfl := k40_openM hM66
                have hx66_0 : World.cell? _ ⟨go66, (0 : Int).toNat * 2, none⟩ = some (.string ((rd_T40 t468 0).f0)) := hcc66 0 _ rfl
                have hx66_1 : World.cell? _ ⟨go66, (0 : Int).toNat * 2 + 1, none⟩ = some (.string ((rd_T40 t468 0).f1)) := hcc66 1 _ rfl
                have hf66_0 : World.frozen? _ ⟨go66, (0 : Int).toNat * 2, none⟩ = false := hfr66 0
                have hf66_1 : World.frozen? _ ⟨go66, (0 : Int).toNat * 2 + 1, none⟩ = false := hfr66 1
                (clear hcl66 hcc66 hfr66 hM66)
                (try rw [show ((0 : Int)).toNat = 0 from rfl] at hx66_0)
                (try simp only [Nat.reduceMul, Nat.zero_mul, Nat.zero_add, Nat.reduceAdd] at hx66_0)
                (try rw [show ((0 : Int)).toNat = 0 from rfl] at hf66_0)
                (try simp only [Nat.reduceMul, Nat.zero_mul, Nat.zero_add, Nat.reduceAdd] at hf66_0)
                (try rw [show ((0 : Int)).toNat = 0 from rfl] at hx66_1)
                (try simp only [Nat.reduceMul, Nat.zero_mul, Nat.zero_add, Nat.reduceAdd] at hx66_1)
                (try rw [show ((0 : Int)).toNat = 0 from rfl] at hf66_1)
                (try simp only [Nat.reduceMul, Nat.zero_mul, Nat.zero_add, Nat.reduceAdd] at hf66_1)
                replace p66 := eq_true p66
                replace q66 := eq_true q66
                have HN0_go66 := Aside0.mk (show g ≠ go66 from by have h_ := IsS91.own_ne HI0.out HO470.out (by decide); intro e_; exact h_ (by rw [e_]; rfl))
                obtain ⟨ce77, hcl77, hM77, hcc77, hfr77⟩ := Kd.R_elem HO470.out z40 (0 : Int) (by omega) (by have h_ : (0 : Int) < ((t468.length : Int) : Int) := of_decide_eq_true (by (with_reducible assumption)); exact h_)
                obtain rfl := k40_openM hM77
                have HP77 := (Kd.R_seg HO470.out (0 : Int) (by omega) (by have h_ : (0 : Int) < ((t468.length : Int) : Int) := of_decide_eq_true (by (with_reducible assumption)); exact h_) (seg := [.string (rdOf ByteArray.empty y488 (ji62))]) (j := 1) hcl77 hcc77 (show 2 ≤ 2 from by decide) (x' := (⟨(rd_T40 t468 0).f0, rdOf ByteArray.empty y488 (ji62)⟩ : S40)) (k40_mkM _ _ _ (⟨(rd_T40 t468 0).f0, rdOf ByteArray.empty y488 (ji62)⟩ : S40) ) (fun _ hk => hk)).1
                rw [← Ny492.out] at HP77
                have HQ77 := Aside0.mk HP77
                (clear hcl77 hcc77 hfr77 hM77 HP77)
                refine hK.out _ _ ⟨(blk_cell BK473.out 0).trans rfl, (blk_cell BK473.out 1).trans rfl⟩ (fun hHeld => ?_)
                clear hK K
                refine norm_ (a' := ?_) ?_ ?_
                rotate_left
                · show Act.put _ (some 49) _ = _
                  simp only [Act.put, List.setIfInBounds_toArray, List.set_cons_zero, List.set_cons_succ, i64_w, i32_w]
                  rfl
                refine pure_ (i := 7) (N := some 52) (v := ?_) (a' := ?_) #[true, true, true, true, true, true, true, true, false, false, false, false] rfl rfl (any_of HT_.out (by kernel_rfl)) (fun _ _ _ h => h) (Or.inl ⟨by rfl, ?_⟩) ?_ ?_
                rotate_left
                · intro w'
                  go_simp
                  with_reducible rfl
                rotate_left
                · simp only [Act.put, List.setIfInBounds_toArray, List.set_cons_zero, List.set_cons_succ, i64_w, i32_w]
                  rfl
                refine one_ (i := 8) (N := some 53) #[true, true, true, true, true, true, true, true, true, false, false, false] rfl rfl (one_of HT_.out (by kernel_rfl)) (by decide) (fun K hK => ?_)
                (have p491 : 0 ≤ ((ji62) : Int) := of_decide_eq_true (by (with_reducible assumption)); have q491 : (ji62) < (y488.length : Int) := of_decide_eq_true (by (with_reducible assumption)); obtain ⟨ad491, e491, hx491_0⟩ := Kd.at_string (Kd.R_reads' HO490.out).2.2 (ji62) p491 q491; obtain rfl : ado76 = ad491 := (by injection e491))
                refine value_ (w1 := ?_) (v := ?_) (by rfl) rfl ?_ ?_
                rotate_left 2
                · go_simp
                  constructor
                  · rfl
                  · rfl
                clear hx491_0
                refine hK.out _ _ ⟨(blk_cell BK473.out 0).trans rfl, (blk_cell BK473.out 1).trans rfl⟩ (fun hHeld => ?_)
                clear hK K
                refine norm_ (a' := ?_) ?_ ?_
                rotate_left
                · show Act.put _ (some 53) _ = _
                  simp only [Act.put, List.setIfInBounds_toArray, List.set_cons_zero, List.set_cons_succ, i64_w, i32_w]
                  rfl
                refine pure_ (i := 9) (N := some 54) (v := ?_) (a' := ?_) #[true, true, true, true, true, true, true, true, true, true, false, false] rfl rfl (any_of HT_.out (by kernel_rfl)) (fun _ _ _ h => h) (Or.inl ⟨by rfl, ?_⟩) ?_ ?_
                rotate_left
                · intro w'
                  go_simp
                  with_reducible rfl
                rotate_left
                · simp only [Act.put, List.setIfInBounds_toArray, List.set_cons_zero, List.set_cons_succ, i64_w, i32_w]
                  rfl
                refine pure_ (i := 10) (N := some 55) (v := ?_) (a' := ?_) #[true, true, true, true, true, true, true, true, true, true, true, false] rfl rfl (any_of HT_.out (by kernel_rfl)) (fun _ _ _ h => h) (Or.inl ⟨by rfl, ?_⟩) ?_ ?_
                rotate_left
                · intro w'
                  go_simp
                  with_reducible rfl
                rotate_left
                · simp only [Act.put, List.setIfInBounds_toArray, List.set_cons_zero, List.set_cons_succ, i64_w, i32_w]
                  rfl
                refine last_ (i := 11) (N := none) #[true, true, true, true, true, true, true, true, true, true, true, true] rfl rfl (one_of HT_.out (by kernel_rfl)) (by decide) (fun K hK => ?_)
                refine skip_ (w1 := ?_) (by rfl) rfl ?_ ?_
                rotate_left
                · go_simp
                  rfl
                refine hK.out _ _ ?_
                clear hK K
                refine done_ (done_of HT_.out (by kernel_rfl)) ?_
                have n0_ : Aside0 (Kd.R k40 40 (w74.setCell ⟨go66, 1, none⟩ (.string (rdOf ByteArray.empty y488 (ji62)))) w.heap.size (fun _ => True) (.slice (some ⟨go66, 0, none⟩) t468.length co14) y492) := ⟨by (with_reducible repeat (first | apply Kd.R_alloc | apply Kd.R_drewN | apply Kd.R_drew )); exact HQ77.out⟩
                have n1_ : Aside0 (Kd.R Kd.string 9 (w74.setCell ⟨go66, 1, none⟩ (.string (rdOf ByteArray.empty y488 (ji62)))) w.heap.size (fun _ => True) (.slice (some ado76) y488.length co76) y488) := ⟨by (with_reducible repeat (first | apply Kd.R_alloc | apply Kd.R_drewN | apply Kd.R_drew )); exact Kd.R_mono (Kd.R_far (p := ⟨go66, 1, none⟩) (Kd.R_types HO490.out GG66.out (by decide)) (fun _ hk => hk.2) (.string (rdOf ByteArray.empty y488 (ji62)))) (fun _ hk => trivial)⟩
                have n2_ : Aside0 ((w74.setCell ⟨go66, 1, none⟩ (.string (rdOf ByteArray.empty y488 (ji62)))).heap[gb460]? = some (.cells #[.string (⟨#[]⟩ : ByteArray), .slice none 0 0] 26 (0, 0))) := ⟨by (with_reducible repeat (first | refine blk_drewN ?_ _ | refine blk_drew ?_ | refine blk_alloc ?_ _ )); refine blk_far ?_ (by have h_ := Kd.R_ne HO470.out BK460.out (by decide); intro e_; exact h_ (by rw [e_]; rfl)) _; (with_reducible repeat (first | refine blk_drewN ?_ _ | refine blk_drew ?_ | refine blk_alloc ?_ _ )); exact BK460.out⟩
                have n3_ : Aside0 ((w74.setCell ⟨go66, 1, none⟩ (.string (rdOf ByteArray.empty y488 (ji62)))).heap[gb473]? = some (.cells #[.string t467, .slice (some ⟨go66, 0, none⟩) t468.length co14] 26 (0, 0))) := ⟨by (with_reducible repeat (first | refine blk_drewN ?_ _ | refine blk_drew ?_ | refine blk_alloc ?_ _ )); refine blk_far ?_ (by have h_ := Kd.R_ne HO470.out BK473.out (by decide); intro e_; exact h_ (by rw [e_]; rfl)) _; (with_reducible repeat (first | refine blk_drewN ?_ _ | refine blk_drew ?_ | refine blk_alloc ?_ _ )); exact BK473.out⟩
                have n4_ : Aside0 (IsS91 w0 (w74.setCell ⟨go66, 1, none⟩ (.string (rdOf ByteArray.empty y488 (ji62)))) g s0_0 t471 t472) := ⟨by repeat ((with_reducible first | exact HI0.out | refine IsS91.far ?_ HN0_go66.out _))⟩
                have n5_ : Aside0 (KeepBut w (w74.setCell ⟨go66, 1, none⟩ (.string (rdOf ByteArray.empty y488 (ji62)))) g none) := ⟨by repeat ((with_reducible first | exact HK.out | refine keep_far ?_ GB66.out _))⟩
                have n6_ : Aside0 (Below w0.heap.size w0 (w74.setCell ⟨go66, 1, none⟩ (.string (rdOf ByteArray.empty y488 (ji62))))) := ⟨by repeat ((with_reducible first | exact HB.out | refine below_set ?_ (Nat.le_trans HL.out GB66.out)))⟩
                (try clear HO470)
                (try clear HO490)
                (try clear BK460)
                (try clear BK473)
                (try clear HI0)
                (try clear HK)
                (try clear HB)
                generalize (w74.setCell ⟨go66, 1, none⟩ (.string (rdOf ByteArray.empty y488 (ji62)))) = w78 at n0_ n1_ n2_ n3_ n4_ n5_ n6_ ⊢
                have HO470 := n0_
                have HO490 := n1_
                have BK460 := n2_
                have BK473 := n3_
                have HI0 := n4_
                have HK := n5_
                have HB := n6_
                clear n0_ n1_ n2_ n3_ n4_ n5_ n6_
                have hcz79_0 : w78.cell? ⟨gb473, 0, none⟩ = some (.string t467) := (blk_cell BK473.out 0).trans rfl
                have hcz79_1 : w78.cell? ⟨gb473, 1, none⟩ = some (.slice (some ⟨go66, 0, none⟩) t468.length co14) := (blk_cell BK473.out 1).trans rfl
                have hfz79_0 := blk_frozen BK473.out 0
                have hfz79_1 := blk_frozen BK473.out 1
                have hnb80 := NB460_0.out
                have hnc80 := NB0_460.out
                have hcz81_0 : w78.cell? ⟨gb460, 0, none⟩ = some (.string (⟨#[]⟩ : ByteArray)) := (blk_cell BK460.out 0).trans rfl
                have hcz81_1 : w78.cell? ⟨gb460, 1, none⟩ = some (.slice none 0 0) := (blk_cell BK460.out 1).trans rfl
                have hfz81_0 := blk_frozen BK460.out 0
                have hfz81_1 := blk_frozen BK460.out 1
                go_wp2
                refine bodyPost_ret (results_cell_row rfl _ _ gb460 26 #[.string t467, .slice (some ⟨go66, 0, none⟩) t468.length co14] (0, 0) _ rfl (by (with_reducible repeat (first | refine blk_drewN ?_ _ | refine blk_drew ?_ | refine blk_alloc ?_ _ )); refine blk_put (cs := #[.string t467, .slice none 0 0]) ?_ 1 _ rfl; (with_reducible repeat (first | refine blk_drewN ?_ _ | refine blk_drew ?_ | refine blk_alloc ?_ _ )); refine blk_put (cs := #[.string (⟨#[]⟩ : ByteArray), .slice none 0 0]) ?_ 0 _ rfl; (with_reducible repeat (first | refine blk_drewN ?_ _ | refine blk_drew ?_ | refine blk_alloc ?_ _ )); exact BK460.out) Tryd.underlying26 rfl (by kernel_rfl)) rfl ?_
                exact ⟨_, by rfl, by (with_reducible repeat (first | apply Kd.R_alloc | apply Kd.R_drewN | apply Kd.R_drew )); exact Kd.R_mono (Kd.R_far (p := ⟨gb460, 1, none⟩) (Kd.R_far (p := ⟨gb460, 0, none⟩) (Kd.R_types HO470.out BK460.out (by decide)) (fun _ hk => hk.2) (.string t467)) (fun _ hk => hk.2) (.slice (some ⟨go66, 0, none⟩) t468.length co14)) (fun _ hk => trivial), by repeat ((with_reducible first | exact HI0.out | refine IsS91.far ?_ NB0_460.out _)), by repeat ((with_reducible first | exact HB.out | refine below_set ?_ GE460.out)), by repeat ((with_reducible first | exact HK.out | refine keep_far ?_ GW460.out _))⟩
              · rw [if_neg c65] at H
                exact absurd H (by simp)
            · rw [if_neg c64] at H
              exact absurd H (by simp)
          · rw [if_neg c63] at H
            exact absurd H (by simp)
        · rw [if_neg c59] at H
          have c59b0 : decide (0 < (t468.length : Int)) = false := decide_eq_false c59
          have c59b1 : decide (0 < t468.length) = false := decide_eq_false (by omega)
          clear c59
          simp only [Option.some.injEq, Prod.mk.injEq] at H
          obtain ⟨rfl, rfl, rfl, rfl⟩ := H
          have hnb82 := NB473_460.out
          have hnc82 := NB460_473.out
          have hnb83 := NB473_0.out
          have hnc83 := NB0_473.out
          have hcz84_0 : w10.cell? ⟨gb473, 0, none⟩ = some (.string (⟨#[]⟩ : ByteArray)) := (blk_cell BK473.out 0).trans rfl
          have hcz84_1 : w10.cell? ⟨gb473, 1, none⟩ = some (.slice none 0 0) := (blk_cell BK473.out 1).trans rfl
          have hfz84_0 := blk_frozen BK473.out 0
          have hfz84_1 := blk_frozen BK473.out 1
          have hnb85 := NB460_0.out
          have hnc85 := NB0_460.out
          have hcz86_0 : w10.cell? ⟨gb460, 0, none⟩ = some (.string (⟨#[]⟩ : ByteArray)) := (blk_cell BK460.out 0).trans rfl
          have hcz86_1 : w10.cell? ⟨gb460, 1, none⟩ = some (.slice none 0 0) := (blk_cell BK460.out 1).trans rfl
          have hfz86_0 := blk_frozen BK460.out 0
          have hfz86_1 := blk_frozen BK460.out 1
          go_wp2
          refine bodyPost_ret (results_cell_row rfl _ _ gb460 26 #[.string t467, .slice Ao14 t468.length co14] (0, 0) _ rfl (by (with_reducible repeat (first | refine blk_drewN ?_ _ | refine blk_drew ?_ | refine blk_alloc ?_ _ )); refine blk_put (cs := #[.string t467, .slice none 0 0]) ?_ 1 _ rfl; (with_reducible repeat (first | refine blk_drewN ?_ _ | refine blk_drew ?_ | refine blk_alloc ?_ _ )); refine blk_put (cs := #[.string (⟨#[]⟩ : ByteArray), .slice none 0 0]) ?_ 0 _ rfl; (with_reducible repeat (first | refine blk_drewN ?_ _ | refine blk_drew ?_ | refine blk_alloc ?_ _ )); refine blk_far ?_ NB460_473.out _; (with_reducible repeat (first | refine blk_drewN ?_ _ | refine blk_drew ?_ | refine blk_alloc ?_ _ )); refine blk_far ?_ NB460_473.out _; (with_reducible repeat (first | refine blk_drewN ?_ _ | refine blk_drew ?_ | refine blk_alloc ?_ _ )); exact BK460.out) Tryd.underlying26 rfl (by kernel_rfl)) rfl ?_
          exact ⟨_, by rfl, by (with_reducible repeat (first | apply Kd.R_alloc | apply Kd.R_drewN | apply Kd.R_drew )); exact Kd.R_mono (Kd.R_far (p := ⟨gb460, 1, none⟩) (Kd.R_far (p := ⟨gb460, 0, none⟩) (Kd.R_far (p := ⟨gb473, 1, none⟩) (Kd.R_far (p := ⟨gb473, 0, none⟩) (Kd.R_types (Kd.R_types HO470.out BK473.out (by decide)) BK460.out (by decide)) (fun _ hk => hk.1.2) (.string t467)) (fun _ hk => hk.1.2) (.slice Ao14 t468.length co14)) (fun _ hk => hk.2) (.string t467)) (fun _ hk => hk.2) (.slice Ao14 t468.length co14)) (fun _ hk => trivial), by repeat ((with_reducible first | exact HI0.out | refine IsS91.far ?_ NB0_460.out _ | refine IsS91.far ?_ NB0_473.out _)), by repeat ((with_reducible first | exact HB.out | refine below_set ?_ GE460.out | refine below_set ?_ GE473.out)), by repeat ((with_reducible first | exact HK.out | refine keep_far ?_ GW460.out _ | refine keep_far ?_ GW473.out _))⟩
      · rw [if_neg c58] at H
        have c58b0 : (t461 == 2) = false := beq_eq_false_iff_ne.mpr c58
        have c58b1 : (t461 != 2) = true := bne_iff_ne.mpr c58
        by_cases c87 : t461 = 3
        · rw [if_pos c87] at H
          have c87b0 : (t461 == 3) = true := beq_iff_eq.mpr c87
          have c87b1 : (t461 != 3) = false := bne_eq_false_iff_eq.mpr c87
          clear c87
          have H' := Aside0.mk H
          clear H
          go_wp2
          go_loopg [] k (fun kq w' => ∃ (x474001_1 : List (S40)) (u474001 : Value), Aside0 (spec_l09Any.l0 kq t464 s0_0 t471 t472 t467 x474001_1 = some (r1, r2, r3, r4)) ∧ Aside0 (kq ≤ k) ∧ Aside0 (Kd.R k40 40 w' w.heap.size (fun _ => True) u474001 x474001_1) ∧ Aside0 (w'.heap[gb460]? = some (.cells #[.string (⟨#[]⟩ : ByteArray), (.slice none 0 0)] 26 (0, 0))) ∧ Aside0 (w'.heap[gb473]? = some (.cells #[.string t467, u474001] 26 (0, 0))) ∧ Aside0 (IsS91 w0 w' g s0_0 t471 t472) ∧ Aside0 (KeepBut w w' g none) ∧ Aside0 (Below w0.heap.size w0 w'))
          case atStart => exact ⟨(t468), (.slice Ao14 t468.length co14), H', ⟨Nat.le_refl _⟩, ⟨by (with_reducible repeat (first | apply Kd.R_alloc | apply Kd.R_drewN | apply Kd.R_drew )); exact Kd.R_mono (Kd.R_far (p := ⟨gb473, 1, none⟩) (Kd.R_far (p := ⟨gb473, 0, none⟩) (Kd.R_types HO470.out BK473.out (by decide)) (fun _ hk => hk.2) (.string t467)) (fun _ hk => hk.2) (.slice Ao14 t468.length co14)) (fun _ hk => trivial)⟩, ⟨by (with_reducible repeat (first | refine blk_drewN ?_ _ | refine blk_drew ?_ | refine blk_alloc ?_ _ )); refine blk_far ?_ NB460_473.out _; (with_reducible repeat (first | refine blk_drewN ?_ _ | refine blk_drew ?_ | refine blk_alloc ?_ _ )); refine blk_far ?_ NB460_473.out _; (with_reducible repeat (first | refine blk_drewN ?_ _ | refine blk_drew ?_ | refine blk_alloc ?_ _ )); exact BK460.out⟩, ⟨by (with_reducible repeat (first | refine blk_drewN ?_ _ | refine blk_drew ?_ | refine blk_alloc ?_ _ )); refine blk_put (cs := #[.string t467, .slice none 0 0]) ?_ 1 _ rfl; (with_reducible repeat (first | refine blk_drewN ?_ _ | refine blk_drew ?_ | refine blk_alloc ?_ _ )); refine blk_put (cs := #[.string (⟨#[]⟩ : ByteArray), .slice none 0 0]) ?_ 0 _ rfl; (with_reducible repeat (first | refine blk_drewN ?_ _ | refine blk_drew ?_ | refine blk_alloc ?_ _ )); exact BK473.out⟩, ⟨by repeat ((with_reducible first | exact HI0.out | refine IsS91.far ?_ NB0_473.out _))⟩, ⟨by repeat ((with_reducible first | exact HK.out | refine keep_far ?_ GW473.out _))⟩, ⟨by repeat ((with_reducible first | exact HB.out | refine below_set ?_ GE473.out))⟩⟩
          case round =>
            clear H'
            clear c31
            clear c31b0
            clear c31b1
            clear c58
            clear c58b0
            clear c58b1
            clear c87b0
            clear c87b1
            obtain ⟨x474001_1, u474001, HA, HK1, HO_474001, BK460, BK473, HI0, HK, HB⟩ := hrel
            cases gk with
            | zero => exact absurd HA.out (by simp [spec_l09Any.l0])
            | succ k1 =>
              have H := HA.out
              clear HA
              simp only [spec_l09Any.l0] at H
              by_cases c88 : (x474001_1.length : Int) < (wrap64 (8 + (Int.tmod t464 2)))
              · rw [if_pos c88] at H
                have c88b0 : decide ((x474001_1.length : Int) < (wrap64 (8 + (Int.tmod t464 2)))) = true := decide_eq_true c88
                clear c88
                replace H := Option.bind_eq_some_iff.mp H
                obtain ⟨t493, A890, H⟩ := H
                replace H : (if x474001_1.length < 4398046511104 then (spec_l09Any.l0 k1 t464 s0_0 t471 t472 t467 (x474001_1 ++ [(⟨(⟨#[121]⟩ : ByteArray), t493⟩ : S40)])) else (none)) = some (r1, r2, r3, r4) := H
                have A89 := Aside0.mk A890
                clear A890
                by_cases c90 : x474001_1.length < 4398046511104
                · rw [if_pos c90] at H
                  have LMc90 := Aside0.mk c90
                  clear c90
                  obtain ⟨y494, hy494⟩ : ∃ y_ : List (S40), y_ = (x474001_1 ++ [(⟨(⟨#[121]⟩ : ByteArray), t493⟩ : S40)]) := ⟨_, rfl⟩
                  replace H : (spec_l09Any.l0 k1 t464 s0_0 t471 t472 t467 y494) = some (r1, r2, r3, r4) := by (rw [hy494]; with_reducible exact H)
                  have Ny494 := Aside0.mk hy494
                  clear hy494
                  have H' := Aside0.mk H
                  clear H
                  have hnb91 := NB473_460.out
                  have hnc91 := NB460_473.out
                  have hnb92 := NB473_0.out
                  have hnc92 := NB0_473.out
                  have hcz93_0 : wr.cell? ⟨gb473, 0, none⟩ = some (.string t467) := (blk_cell BK473.out 0).trans rfl
                  have hcz93_1 : wr.cell? ⟨gb473, 1, none⟩ = some (u474001) := (blk_cell BK473.out 1).trans rfl
                  have hfz93_0 := blk_frozen BK473.out 0
                  have hfz93_1 := blk_frozen BK473.out 1
                  obtain ⟨Ao94, co94, eo94⟩ := Kd.R_slice HO_474001.out
                  subst eo94
                  go_wp2
                  have n0_ := Aside0.mk (Kd.R_drew HO_474001.out)
                  have n1_ := Aside0.mk (blk_drew BK460.out)
                  have n2_ := Aside0.mk (blk_drew BK473.out)
                  have n3_ := Aside0.mk (IsS91.drew HI0.out)
                  have n4_ := Aside0.mk (keep_drew HK.out)
                  have n5_ := Aside0.mk (below_drew1 HB.out)
                  clear HO_474001
                  clear BK460
                  clear BK473
                  clear HI0
                  clear HK
                  clear HB
                  have HO_474001 := n0_
                  have BK460 := n1_
                  have BK473 := n2_
                  have HI0 := n3_
                  have HK := n4_
                  have HB := n5_
                  clear n0_ n1_ n2_ n3_ n4_ n5_
                  refine start_ (n := 10) (S := fun w' => w'.cell? ⟨gb473, 0, none⟩ = some (.string t467) ∧ w'.cell? ⟨gb473, 1, none⟩ = some (.slice Ao94 x474001_1.length co94)) (ds := [9]) #[false, false, false, false, false, false, false, false, false, false] (by kernel_rfl) rfl rfl ⟨(blk_cell BK473.out 0).trans rfl, (blk_cell BK473.out 1).trans rfl⟩ (fun hHeld => ?_); refine with_tabW spec_l09Any.tab15 spec_l09Any.bits15 (fun HT_ HW_ => ?_)
                  generalize wr.drew = w95 at HO_474001 BK460 BK473 HI0 HK HB hHeld ⊢
                  refine pure_ (i := 0) (N := some 65) (v := ?_) (a' := ?_) #[true, false, false, false, false, false, false, false, false, false] rfl rfl (any_of HT_.out (by kernel_rfl)) (fun _ _ _ h => h) (Or.inl ⟨by rfl, ?_⟩) ?_ ?_
                  rotate_left
                  · intro w'
                    go_simp
                    with_reducible rfl
                  rotate_left
                  · simp only [Act.put, List.setIfInBounds_toArray, List.set_cons_zero, List.set_cons_succ, i64_w, i32_w]
                    rfl
                  refine pure_ (i := 2) (N := some 67) (v := ?_) (a' := ?_) #[true, false, true, false, false, false, false, false, false, false] rfl rfl (any_of HT_.out (by kernel_rfl)) (fun _ _ _ h => h) (Or.inl ⟨by rfl, ?_⟩) ?_ ?_
                  rotate_left
                  · intro w'
                    go_simp
                    with_reducible rfl
                  rotate_left
                  · simp only [Act.put, List.setIfInBounds_toArray, List.set_cons_zero, List.set_cons_succ, i64_w, i32_w]
                    rfl
                  refine pure_ (i := 3) (N := some 68) (v := ?_) (a' := ?_) #[true, false, true, true, false, false, false, false, false, false] rfl rfl (any_of HT_.out (by kernel_rfl)) (fun _ _ _ h => h) (Or.inl ⟨by rfl, ?_⟩) ?_ ?_
                  rotate_left
                  · intro w'
                    go_simp
                    with_reducible rfl
                  rotate_left
                  · simp only [Act.put, List.setIfInBounds_toArray, List.set_cons_zero, List.set_cons_succ, i64_w, i32_w]
                    rfl
                  refine take_ (i := 1) (N := some 66) (v := ?_) (a' := ?_) #[true, true, true, true, false, false, false, false, false, false] rfl rfl (take_ofW HT_.out HW_.out (by kernel_rfl)) (fun _ _ _ h => h) (Or.inl ⟨by rfl, ?_⟩) hHeld ?_ ?_
                  rotate_left
                  · rintro w' ⟨s0, s1⟩
                    go_simp
                    with_reducible rfl
                  rotate_left
                  · simp only [Act.put, List.setIfInBounds_toArray, List.set_cons_zero, List.set_cons_succ, i64_w, i32_w]
                    rfl
                  refine one_ (i := 4) (N := some 69) #[true, true, true, true, true, false, false, false, false, false] rfl rfl (one_of HT_.out (by kernel_rfl)) (by decide) (fun K hK => ?_)
                  refine goes_ Tryd.func77 (by kernel_rfl) rfl #[.int .i64 (Int.tmod t464 40), .int .u8 97] (by rfl) rfl rfl (by (try simp only [List.map_toArray, List.map_cons, List.map_nil]); rfl) ?_
                  with_reducible refine (spec_l01Long.calls k1 (Int.tmod t464 40) 97 t493 _ A89.out).mono ?_
                  rintro e w96 ⟨rfl, hb⟩
                  refine ⟨_, rfl, ?_⟩
                  have n0_ := Aside0.mk (Kd.R_below (by (with_reducible repeat (first | apply Kd.R_alloc | apply Kd.R_drewN | apply Kd.R_drew )); exact HO_474001.out) hb)
                  have n1_ := Aside0.mk (blk_below (g := gb460) (o := .cells #[.string (⟨#[]⟩ : ByteArray), .slice none 0 0] 26 (0, 0)) (by (with_reducible repeat (first | refine blk_drewN ?_ _ | refine blk_drew ?_ | refine blk_alloc ?_ _ )); exact BK460.out) hb)
                  have n2_ := Aside0.mk (blk_below (g := gb473) (o := .cells #[.string t467, .slice Ao94 x474001_1.length co94] 26 (0, 0)) (by (with_reducible repeat (first | refine blk_drewN ?_ _ | refine blk_drew ?_ | refine blk_alloc ?_ _ )); exact BK473.out) hb)
                  have n3_ := Aside0.mk (IsS91.below (by repeat ((with_reducible exact HI0.out))) hb)
                  have n4_ := Aside0.mk (KeepBut.trans (by repeat ((with_reducible exact HK.out))) (KeepBut.of_below hb g none) (.inl rfl))
                  have n5_ := Aside0.mk (below_step (by repeat ((with_reducible exact HB.out))) hb)
                  clear HO_474001
                  clear BK460
                  clear BK473
                  clear HI0
                  clear HK
                  clear HB
                  have HO_474001 := n0_
                  have BK460 := n1_
                  have BK473 := n2_
                  have HI0 := n3_
                  have HK := n4_
                  have HB := n5_
                  clear n0_ n1_ n2_ n3_ n4_ n5_
                  (try clear hb)
                  (try clear hb2)
                  (try clear hk)
                  (try clear hi)
                  refine hK.out _ _ ⟨(blk_cell BK473.out 0).trans rfl, (blk_cell BK473.out 1).trans rfl⟩ (fun hHeld => ?_)
                  clear hK K
                  refine norm_ (a' := ?_) ?_ ?_
                  rotate_left
                  · show Act.put _ (some 69) _ = _
                    simp only [Act.put, List.setIfInBounds_toArray, List.set_cons_zero, List.set_cons_succ, i64_w, i32_w]
                    rfl
                  refine pure_ (i := 5) (N := some 70) (v := ?_) (a' := ?_) #[true, true, true, true, true, true, false, false, false, false] rfl rfl (any_of HT_.out (by kernel_rfl)) (fun _ _ _ h => h) (Or.inl ⟨by rfl, ?_⟩) ?_ ?_
                  rotate_left
                  · intro w'
                    go_simp
                    with_reducible rfl
                  rotate_left
                  · simp only [Act.put, List.setIfInBounds_toArray, List.set_cons_zero, List.set_cons_succ, i64_w, i32_w]
                    rfl
                  refine one_ (i := 6) (N := some 71) #[true, true, true, true, true, true, true, false, false, false] rfl rfl (one_of HT_.out (by kernel_rfl)) (by decide) (fun K hK => ?_)
                  refine value_ (w1 := ?_) (v := ?_) (by rfl) rfl ?_ ?_
                  rotate_left 2
                  · go_simp
                    constructor
                    · rfl
                    · rfl
                  refine hK.out _ _ ⟨(blk_cell (blk_alloc BK473.out _) 0).trans rfl, (blk_cell (blk_alloc BK473.out _) 1).trans rfl⟩ (fun hHeld => ?_)
                  clear hK K
                  refine norm_ (a' := ?_) ?_ ?_
                  rotate_left
                  · show Act.put _ (some 71) _ = _
                    simp only [Act.put, List.setIfInBounds_toArray, List.set_cons_zero, List.set_cons_succ, i64_w, i32_w]
                    rfl
                  refine one_ (i := 7) (N := some 72) #[true, true, true, true, true, true, true, true, false, false] rfl rfl (one_of HT_.out (by kernel_rfl)) (by decide) (fun K hK => ?_)
                  refine Kd.R_append_step k40 w.heap.size (by rfl) (.tmp 66) (.tmp 71) 24 40 (.agg #[(.string ⟨#[]⟩), (.string ⟨#[]⟩)]) 32 rfl Tryd.underlying24 info40 rfl (by decide) (by omega) (.slice Ao94 x474001_1.length co94) x474001_1 (⟨(⟨#[121]⟩ : ByteArray), t493⟩ : S40) [.string (⟨#[121]⟩ : ByteArray), .string t493] (fun _ => True) (fun _ => False) rfl rfl ?aP (fun _ hk => hk.elim) ?aF ?aO (Below.refl _ _) ?aS ?aL ?_
                  (case aP => exact k40_mkM _ _ _ (⟨(⟨#[121]⟩ : ByteArray), t493⟩ : S40))
                  (case aF => exact (fun _ _ => trivial))
                  (case aO => exact (by (with_reducible repeat (first | apply Kd.R_alloc | apply Kd.R_drewN | apply Kd.R_drew )); exact HO_474001.out))
                  (case aS => exact (keep_size (w := w) (g := g) (row := none) (by repeat ((with_reducible exact HK.out)))))
                  (case aL => have := LMc90.out; omega)
                  intro v495 w97 ho hb hg hat
                  rw [← Ny494.out] at ho
                  have n0_ := Aside0.mk (blk_grown (g := gb460) (o := .cells #[.string (⟨#[]⟩ : ByteArray), .slice none 0 0] 26 (0, 0)) (by (with_reducible repeat (first | refine blk_drewN ?_ _ | refine blk_drew ?_ | refine blk_alloc ?_ _ )); exact BK460.out) hg (Kd.R_ne HO_474001.out BK460.out (by decide)))
                  have n1_ := Aside0.mk (blk_grown (g := gb473) (o := .cells #[.string t467, .slice Ao94 x474001_1.length co94] 26 (0, 0)) (by (with_reducible repeat (first | refine blk_drewN ?_ _ | refine blk_drew ?_ | refine blk_alloc ?_ _ )); exact BK473.out) hg (Kd.R_ne HO_474001.out BK473.out (by decide)))
                  have n2_ := Aside0.mk (IsS91.grown (w0 := w0) (g := g) (f0 := s0_0) (f1 := t471) (f2 := t472) (by repeat ((with_reducible exact HI0.out))) hg (IsS91.own_ne HI0.out HO_474001.out (by decide)))
                  have n3_ := Aside0.mk (below_weaken (by repeat ((with_reducible exact HB.out))) HL.out hb)
                  have n4_ := Aside0.mk (KeepBut.trans (by repeat ((with_reducible exact HK.out))) (KeepBut.of_grown hg g) (Kd.R_base2 HO_474001.out))
                  have n5_ := Aside0.mk (ho)
                  clear BK460
                  clear BK473
                  clear HI0
                  clear HB
                  clear HK
                  clear HO_474001
                  have BK460 := n0_
                  have BK473 := n1_
                  have HI0 := n2_
                  have HB := n3_
                  have HK := n4_
                  have HO496 := n5_
                  clear n0_ n1_ n2_ n3_ n4_ n5_
                  clear ho hb hg hat
                  obtain ⟨Ao98, co98, eo98⟩ := Kd.R_slice HO496.out
                  (subst eo98)
                  refine hK.out _ _ ⟨(blk_cell BK473.out 0).trans rfl, (blk_cell BK473.out 1).trans rfl⟩ (fun hHeld => ?_)
                  clear hK K
                  refine norm_ (a' := ?_) ?_ ?_
                  rotate_left
                  · show Act.put _ (some 72) _ = _
                    simp only [Act.put, List.setIfInBounds_toArray, List.set_cons_zero, List.set_cons_succ, i64_w, i32_w]
                    rfl
                  refine pure_ (i := 8) (N := some 73) (v := ?_) (a' := ?_) #[true, true, true, true, true, true, true, true, true, false] rfl rfl (any_of HT_.out (by kernel_rfl)) (fun _ _ _ h => h) (Or.inl ⟨by rfl, ?_⟩) ?_ ?_
                  rotate_left
                  · intro w'
                    go_simp
                    with_reducible rfl
                  rotate_left
                  · simp only [Act.put, List.setIfInBounds_toArray, List.set_cons_zero, List.set_cons_succ, i64_w, i32_w]
                    rfl
                  refine last_ (i := 9) (N := none) #[true, true, true, true, true, true, true, true, true, true] rfl rfl (one_of HT_.out (by kernel_rfl)) (by decide) (fun K hK => ?_)
                  have hs99 : w97.cell? ⟨gb473, 1, none⟩ = some (.slice Ao94 x474001_1.length co94) := (blk_cell BK473.out 1).trans rfl
                  have hfs99 := blk_frozen BK473.out 1
                  have hns99_0 := NB460_473.out
                  have hms99_0 := NB473_460.out
                  refine skip_ (w1 := ?_) (by rfl) rfl ?_ ?_
                  rotate_left
                  · go_simp
                    rfl
                  refine hK.out _ _ ?_
                  clear hK K
                  refine done_ (done_of HT_.out (by kernel_rfl)) ?_
                  go_wp2
                  go_roundg k1
                  case measure => have := HK1.out; omega
                  case rel => exact ⟨(y494), (.slice Ao98 y494.length co98), H', ⟨by have := HK1.out; omega⟩, ⟨by (with_reducible repeat (first | apply Kd.R_alloc | apply Kd.R_drewN | apply Kd.R_drew )); exact Kd.R_mono (Kd.R_far (p := ⟨gb473, 1, none⟩) (Kd.R_types HO496.out BK473.out (by decide)) (fun _ hk => hk.2) (.slice Ao98 y494.length co98)) (fun _ hk => trivial)⟩, ⟨by (with_reducible repeat (first | refine blk_drewN ?_ _ | refine blk_drew ?_ | refine blk_alloc ?_ _ )); refine blk_far ?_ NB460_473.out _; (with_reducible repeat (first | refine blk_drewN ?_ _ | refine blk_drew ?_ | refine blk_alloc ?_ _ )); exact BK460.out⟩, ⟨by (with_reducible repeat (first | refine blk_drewN ?_ _ | refine blk_drew ?_ | refine blk_alloc ?_ _ )); refine blk_put (cs := #[.string t467, .slice Ao94 x474001_1.length co94]) ?_ 1 _ rfl; (with_reducible repeat (first | refine blk_drewN ?_ _ | refine blk_drew ?_ | refine blk_alloc ?_ _ )); exact BK473.out⟩, ⟨by repeat ((with_reducible first | exact HI0.out | refine IsS91.far ?_ NB0_473.out _))⟩, ⟨by repeat ((with_reducible first | exact HK.out | refine keep_far ?_ GW473.out _))⟩, ⟨by repeat ((with_reducible first | exact HB.out | refine below_set ?_ GE473.out))⟩⟩
                · rw [if_neg c90] at H
                  exact absurd H (by simp)
              · rw [if_neg c88] at H
                have c88b0 : decide ((x474001_1.length : Int) < (wrap64 (8 + (Int.tmod t464 2)))) = false := decide_eq_false c88
                clear c88
                simp only [Option.some.injEq, Prod.mk.injEq] at H
                obtain ⟨rfl, rfl, rfl, rfl⟩ := H
                have hnb100 := NB473_460.out
                have hnc100 := NB460_473.out
                have hnb101 := NB473_0.out
                have hnc101 := NB0_473.out
                have hcz102_0 : wr.cell? ⟨gb473, 0, none⟩ = some (.string t467) := (blk_cell BK473.out 0).trans rfl
                have hcz102_1 : wr.cell? ⟨gb473, 1, none⟩ = some (u474001) := (blk_cell BK473.out 1).trans rfl
                have hfz102_0 := blk_frozen BK473.out 0
                have hfz102_1 := blk_frozen BK473.out 1
                obtain ⟨Ao103, co103, eo103⟩ := Kd.R_slice HO_474001.out
                subst eo103
                have hnb104 := NB460_0.out
                have hnc104 := NB0_460.out
                have hcz105_0 : wr.cell? ⟨gb460, 0, none⟩ = some (.string (⟨#[]⟩ : ByteArray)) := (blk_cell BK460.out 0).trans rfl
                have hcz105_1 : wr.cell? ⟨gb460, 1, none⟩ = some (.slice none 0 0) := (blk_cell BK460.out 1).trans rfl
                have hfz105_0 := blk_frozen BK460.out 0
                have hfz105_1 := blk_frozen BK460.out 1
                go_wp2
                refine bodyPost_ret (results_cell_row rfl _ _ gb460 26 #[.string t467, .slice Ao103 x474001_1.length co103] (0, 0) _ rfl (by (with_reducible repeat (first | refine blk_drewN ?_ _ | refine blk_drew ?_ | refine blk_alloc ?_ _ )); refine blk_put (cs := #[.string t467, .slice none 0 0]) ?_ 1 _ rfl; (with_reducible repeat (first | refine blk_drewN ?_ _ | refine blk_drew ?_ | refine blk_alloc ?_ _ )); refine blk_put (cs := #[.string (⟨#[]⟩ : ByteArray), .slice none 0 0]) ?_ 0 _ rfl; (with_reducible repeat (first | refine blk_drewN ?_ _ | refine blk_drew ?_ | refine blk_alloc ?_ _ )); exact BK460.out) Tryd.underlying26 rfl (by kernel_rfl)) rfl ?_
                exact ⟨_, by rfl, by (with_reducible repeat (first | apply Kd.R_alloc | apply Kd.R_drewN | apply Kd.R_drew )); exact Kd.R_mono (Kd.R_far (p := ⟨gb460, 1, none⟩) (Kd.R_far (p := ⟨gb460, 0, none⟩) (Kd.R_types HO_474001.out BK460.out (by decide)) (fun _ hk => hk.2) (.string t467)) (fun _ hk => hk.2) (.slice Ao103 x474001_1.length co103)) (fun _ hk => trivial), by repeat ((with_reducible first | exact HI0.out | refine IsS91.far ?_ NB0_460.out _)), by repeat ((with_reducible first | exact HB.out | refine below_set ?_ GE460.out)), by repeat ((with_reducible first | exact HK.out | refine keep_far ?_ GW460.out _))⟩
        · rw [if_neg c87] at H
          have c87b0 : (t461 == 3) = false := beq_eq_false_iff_ne.mpr c87
          have c87b1 : (t461 != 3) = true := bne_iff_ne.mpr c87
          simp only [Option.some.injEq, Prod.mk.injEq] at H
          obtain ⟨rfl, rfl, rfl, rfl⟩ := H
          have hnb106 := NB473_460.out
          have hnc106 := NB460_473.out
          have hnb107 := NB473_0.out
          have hnc107 := NB0_473.out
          have hcz108_0 : w10.cell? ⟨gb473, 0, none⟩ = some (.string (⟨#[]⟩ : ByteArray)) := (blk_cell BK473.out 0).trans rfl
          have hcz108_1 : w10.cell? ⟨gb473, 1, none⟩ = some (.slice none 0 0) := (blk_cell BK473.out 1).trans rfl
          have hfz108_0 := blk_frozen BK473.out 0
          have hfz108_1 := blk_frozen BK473.out 1
          have hnb109 := NB460_0.out
          have hnc109 := NB0_460.out
          have hcz110_0 : w10.cell? ⟨gb460, 0, none⟩ = some (.string (⟨#[]⟩ : ByteArray)) := (blk_cell BK460.out 0).trans rfl
          have hcz110_1 : w10.cell? ⟨gb460, 1, none⟩ = some (.slice none 0 0) := (blk_cell BK460.out 1).trans rfl
          have hfz110_0 := blk_frozen BK460.out 0
          have hfz110_1 := blk_frozen BK460.out 1
          go_wp2
          refine bodyPost_ret (results_cell_row rfl _ _ gb460 26 #[.string t467, .slice Ao14 t468.length co14] (0, 0) _ rfl (by (with_reducible repeat (first | refine blk_drewN ?_ _ | refine blk_drew ?_ | refine blk_alloc ?_ _ )); refine blk_put (cs := #[.string t467, .slice none 0 0]) ?_ 1 _ rfl; (with_reducible repeat (first | refine blk_drewN ?_ _ | refine blk_drew ?_ | refine blk_alloc ?_ _ )); refine blk_put (cs := #[.string (⟨#[]⟩ : ByteArray), .slice none 0 0]) ?_ 0 _ rfl; (with_reducible repeat (first | refine blk_drewN ?_ _ | refine blk_drew ?_ | refine blk_alloc ?_ _ )); refine blk_far ?_ NB460_473.out _; (with_reducible repeat (first | refine blk_drewN ?_ _ | refine blk_drew ?_ | refine blk_alloc ?_ _ )); refine blk_far ?_ NB460_473.out _; (with_reducible repeat (first | refine blk_drewN ?_ _ | refine blk_drew ?_ | refine blk_alloc ?_ _ )); exact BK460.out) Tryd.underlying26 rfl (by kernel_rfl)) rfl ?_
          exact ⟨_, by rfl, by (with_reducible repeat (first | apply Kd.R_alloc | apply Kd.R_drewN | apply Kd.R_drew )); exact Kd.R_mono (Kd.R_far (p := ⟨gb460, 1, none⟩) (Kd.R_far (p := ⟨gb460, 0, none⟩) (Kd.R_far (p := ⟨gb473, 1, none⟩) (Kd.R_far (p := ⟨gb473, 0, none⟩) (Kd.R_types (Kd.R_types HO470.out BK473.out (by decide)) BK460.out (by decide)) (fun _ hk => hk.1.2) (.string t467)) (fun _ hk => hk.1.2) (.slice Ao14 t468.length co14)) (fun _ hk => hk.2) (.string t467)) (fun _ hk => hk.2) (.slice Ao14 t468.length co14)) (fun _ hk => trivial), by repeat ((with_reducible first | exact HI0.out | refine IsS91.far ?_ NB0_460.out _ | refine IsS91.far ?_ NB0_473.out _)), by repeat ((with_reducible first | exact HB.out | refine below_set ?_ GE460.out | refine below_set ?_ GE473.out)), by repeat ((with_reducible first | exact HK.out | refine keep_far ?_ GW460.out _ | refine keep_far ?_ GW473.out _))⟩
end Go.Proofs.YtiibecpllokhiaaDoor.Q
