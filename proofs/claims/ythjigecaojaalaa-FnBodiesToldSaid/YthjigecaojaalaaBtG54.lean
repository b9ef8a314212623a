import Derived.Test.YthjigecaojaalaaBtB0
import Derived.Test.YthjigecaojaalaaBtG20
import Derived.Test.YthjigecaojaalaaBtG34
import Derived.Test.YthjigecaojaalaaBtG36
import Derived.Test.YthjigecaojaalaaBtG45
import Derived.Test.YthjigecaojaalaaBtG46
import Derived.Test.YthjigecaojaalaaBtG56
import Derived.Test.YthjigecaojaalaaBtG57
import Derived.Test.YthjigecaojaalaaBtG60
import Derived.Test.YthjigecaojaalaaBtG63
import Derived.Test.YthjigecaojaalaaBtWApart
import Derived.Test.YthjigecaojaalaaBtWFoot
import Derived.Test.YthjigecaojaalaaBtWGuard
import Derived.Test.YthjigecaojaalaaBtWKept
import Derived.Test.YthjigecaojaalaaBtWLast
import Derived.Test.YthjigecaojaalaaBtWMore
import Derived.Test.YthjigecaojaalaaBtWN
import Derived.Test.YthjigecaojaalaaBtWRepsOne
import Derived.Test.YthjigecaojaalaaBtWShare
import Derived.Test.YthjigecaojaalaaBtWTab
import Derived.Test.YthjigecaojaalaaBtWWords
namespace Go.Proofs.Ythjigecaojaalaa.Q
open Go.RowKit Go.Proofs.YthjigecaojaalaaW.PrintWords Go.Proofs.YthjigecaojaalaaW.PrintLast Go.Proofs.YthjigecaojaalaaW.PrintMore
attribute [local go_sem] max2_int min2_int max_two min_two max_three min_three max_four min_four   -- for this text's walks alone
set_option linter.unusedVariables false
set_option linter.unusedSimpArgs false
def spec_l01Long.l0 : Nat → Int → Int → List Int → Int → Option (ByteArray)
  | 0, _, _, _, _ => none
  | k + 1, x0, x1, x5, x6 => if x6 < x0 then (if 0 ≤ x6 then (if x6 < (x5.length : Int) then (spec_l01Long.l0 k x0 x1 (x5.set (x6 : Int).toNat x1) (wrap64 (x6 + 1))) else (none)) else (none)) else (some (strOfNums x5))
def spec_l01Long.f (k : Nat) (a0 : Int) (a1 : Int) : Option (ByteArray) := if 0 ≤ a0 then (if (a0 : Int).toNat ≤ 281474976710656 then (spec_l01Long.l0 k a0 a1 (List.replicate (a0 : Int).toNat 0) 0) else (none)) else (none)
set_option maxHeartbeats 8000000 in
set_option maxRecDepth 100000 in
theorem spec_l01Long.calls (k : Nat) (a0 : Int) (a1 : Int) (r : ByteArray) (w : World) (h : spec_l01Long.f k a0 a1 = some r) :
    Calls Try.prog 54 #[.int .i64 a0, .int .u8 a1] w fun e w' => e = .returned (.string r) ∧ Below w.heap.size w w' := by
  have HB := Aside0.mk (Below.refl w.heap.size w)
  have H : (if 0 ≤ a0 then (if (a0 : Int).toNat ≤ 281474976710656 then (spec_l01Long.l0 k a0 a1 (List.replicate (a0 : Int).toNat 0) 0) else (none)) else (none)) = some r := h
  clear h
  by_cases c3 : 0 ≤ a0
  · rw [if_pos c3] at H
    have c3b0 := eq_true c3
    have c3b1 : decide (0 ≤ a0) = true := decide_eq_true c3
    clear c3
    by_cases c4 : (a0 : Int).toNat ≤ 281474976710656
    · rw [if_pos c4] at H
      have c4b0 := eq_true c4
      have c4b1 : decide ((a0 : Int).toNat ≤ 281474976710656) = true := decide_eq_true c4
      clear c4
      obtain ⟨y393, hy393⟩ : ∃ y_ : List Int, y_ = (List.replicate (a0 : Int).toNat 0) := ⟨_, rfl⟩
      replace H : (spec_l01Long.l0 k a0 a1 y393 0) = some r := by (rw [hy393]; with_reducible exact H)
      have Ny393 := Aside0.mk hy393
      clear hy393
      have H' := Aside0.mk H
      clear H
      go_enter Try.func54, Try.ntmps54
      go_wp2_with (((with_reducible refine gate_dst (N := 8) rfl ?_); refine Kd.R_make (Kd.int .u8) _ 5 rfl (N := 8) rfl 38 _ _ rfl a0 rfl rfl Try.underlying38 (.int .u8 0) 1 info5 rfl (by decide) (by omega) 0 (ok := fun _ => True) (okp := fun _ => True) rfl (fun _ hk => hk) trivial (of_decide_eq_true (by (with_reducible assumption))) (Nat.le_trans (Nat.mul_le_mul_right _ (of_decide_eq_true (by (with_reducible assumption)) : a0.toNat ≤ 281474976710656)) (by omega)) (Below.refl _ _) (Nat.le_refl _) ?_; intro v394 w5 ho6 hb hg_ hnew_; clear hg_ hnew_; (rw [← Ny393.out] at ho6); have n0_ := Aside0.mk (Kd.R_lower ho6 (below_size (by repeat ((with_reducible exact HB.out))))); have n1_ := Aside0.mk (below_step (by repeat ((with_reducible exact HB.out))) hb); clear HB; have HO395 := n0_; have HB := n1_; clear n0_ n1_; clear hb ho6))
      go_loopg [6] k (fun kq v6 w' => ∃ (x5_1 : List Int) (x6_1 : Int), v6 = .int .i64 x6_1 ∧ Aside0 (spec_l01Long.l0 kq a0 a1 x5_1 x6_1 = some r) ∧ Aside0 (kq ≤ k) ∧ Aside0 (Kd.R (Kd.int .u8) 5 w' w.heap.size (fun _ => True) v394 x5_1) ∧ Aside0 (Below w.heap.size w w'))
      case atStart => exact ⟨(y393), (0), (by rfl), H', ⟨Nat.le_refl _⟩, ⟨by (with_reducible repeat (first | apply Kd.R_alloc | apply Kd.R_drewN | apply Kd.R_drew )); exact HO395.out⟩, ⟨by repeat ((with_reducible exact HB.out))⟩⟩
      case round =>
        clear H'
        clear c3b0
        clear c3b1
        clear c4b0
        clear c4b1
        obtain ⟨x5_1, x6_1, rfl, HA, HK1, HO_5, HB⟩ := hrel
        cases gk with
        | zero => exact absurd HA.out (by simp [spec_l01Long.l0])
        | succ k1 =>
          have H := HA.out
          clear HA
          simp only [spec_l01Long.l0] at H
          by_cases c7 : x6_1 < a0
          · rw [if_pos c7] at H
            have c7b0 : decide (x6_1 < a0) = true := decide_eq_true c7
            clear c7
            by_cases c8 : 0 ≤ x6_1
            · rw [if_pos c8] at H
              have c8b0 : decide (0 ≤ x6_1) = true := decide_eq_true c8
              clear c8
              by_cases c9 : x6_1 < (x5_1.length : Int)
              · rw [if_pos c9] at H
                have c9b0 : decide (x6_1 < (x5_1.length : Int)) = true := decide_eq_true c9
                clear c9
                obtain ⟨y396, hy396⟩ : ∃ y_ : List Int, y_ = (x5_1.set (x6_1 : Int).toNat a1) := ⟨_, rfl⟩
                replace H : (spec_l01Long.l0 k1 a0 a1 y396 (wrap64 (x6_1 + 1))) = some r := by (rw [hy396]; with_reducible exact H)
                have Ny396 := Aside0.mk hy396
                clear hy396
                have H' := Aside0.mk H
                clear H
                have p10 : 0 ≤ (x6_1 : Int) := of_decide_eq_true (by (with_reducible assumption))
                have q10 : (x6_1 : Int) < ((x5_1.length : Int) : Int) := of_decide_eq_true (by (with_reducible assumption))
                obtain ⟨go10, co10, eo10, gb10, gl10, cl10, HG10⟩ := Kd.R_form HO_5.out (by omega)
                (cases eo10)
                have GB10 := Aside0.mk gb10
                have GG10 := Aside0.mk HG10
                clear gb10 gl10 HG10
                obtain ⟨hx10_0, hf10_0⟩ := Kd.R_celln 0 HO_5.out (x6_1 : Int) p10 q10
                replace p10 := eq_true p10
                replace q10 := eq_true q10
                have HP11 := Kd.R_putg HO_5.out (x6_1 : Int) a1
                go_wp2_with (((with_reducible refine gate_store (t := 5) (p := 17) rfl ?_); refine store_event (t := 5) (p := 17) (v := ?vo_w12) (w1 := (wr.setCell ⟨go10, (x6_1 : Int).toNat, none⟩ (.int .u8 a1))) ?hg ?ho ?hn ?hr ?_; (case ho => rfl); (case hg => rfl); (case hn => rfl); (case hr => (go_simp; done)); intro w12 hw; have hg : wr.grownBy w12 (some go10) := (by rw [hw]; exact HP11.2); have hp_ : Kd.R (Kd.int .u8) 5 w12 w.heap.size (fun _ => True) (.slice (some ⟨go10, 0, none⟩) x5_1.length co10) y396 := (by rw [hw, Ny396.out]; exact HP11.1); clear HP11; have n0_ := Aside0.mk (hp_); have n1_ := Aside0.mk ((by rw [hw]; exact below_set (HB.out) GB10.out : Below w.heap.size w w12)); clear HO_5; clear HB; have HO_5 := n0_; have HB := n1_; clear n0_ n1_; clear hg hw hp_))
                go_roundg k1
                case measure => have := HK1.out; omega
                case rel => exact ⟨(y396), (wrap64 (x6_1 + 1)), (by rfl), H', ⟨by have := HK1.out; omega⟩, ⟨by (with_reducible repeat (first | apply Kd.R_alloc | apply Kd.R_drewN | apply Kd.R_drew )); exact HO_5.out⟩, ⟨by repeat ((with_reducible exact HB.out))⟩⟩
              · rw [if_neg c9] at H
                exact absurd H (by simp)
            · rw [if_neg c8] at H
              exact absurd H (by simp)
          · rw [if_neg c7] at H
            have c7b0 : decide (x6_1 < a0) = false := decide_eq_false c7
            clear c7
            obtain rfl := Option.some.inj H
            have hcv13 := own_string (P := Try.prog) Try.underlying38 Try.underlying5 Try.underlying9 (Kd.own_of_R HO_5.out)
            go_wp2
            go_ret
            exact ⟨by rfl, by repeat ((with_reducible exact HB.out))⟩
    · rw [if_neg c4] at H
      exact absurd H (by simp)
  · rw [if_neg c3] at H
    exact absurd H (by simp)
def spec_l02Spoilt.j0 : Nat → ByteArray → Bool → List Int → Int → Int → Option (ByteArray × Int × Int)
  | 0, _, _, _, _, _ => none
  | k + 1, x1, x23, x1000, x1001, x1002 => if x23 = true then (if (x1.size : Int) > 0 then ((spec_l01Below.f x1000 x1001 x1002 (x1.size : Int)).bind fun bt406 => (if 0 ≤ bt406.1 then (if bt406.1 ≤ (x1.size : Int) then ((spec_l01Text.f k x1000 bt406.2.1 bt406.2.2 1).bind fun bt409 => (if (x1.extract 0 (bt406.1 : Int).toNat).size + bt409.1.size ≤ 9223372036854775807 then (if 0 ≤ (wrap64 (bt406.1 + 1)) then (if (wrap64 (bt406.1 + 1)) ≤ (x1.size : Int) then (if ((x1.extract 0 (bt406.1 : Int).toNat) ++ bt409.1).size + (x1.extract ((wrap64 (bt406.1 + 1)) : Int).toNat x1.size).size ≤ 9223372036854775807 then (some (((x1.extract 0 (bt406.1 : Int).toNat) ++ bt409.1) ++ (x1.extract ((wrap64 (bt406.1 + 1)) : Int).toNat x1.size), bt409.2.1, bt409.2.2)) else (none)) else (none)) else (none)) else (none))) else (none)) else (none))) else (some (x1, x1001, x1002))) else (some (x1, x1001, x1002))
def spec_l02Spoilt.f (k : Nat) (s0_0 : List Int) (s0_1 : Int) (s0_2 : Int) (a1 : ByteArray) : Option (ByteArray × Int × Int) := (spec_l01Below.f s0_0 s0_1 s0_2 12).bind fun bt397 => (if bt397.1 = 0 then ((spec_l01Text.f k s0_0 bt397.2.1 bt397.2.2 1).bind fun bt400 => (if a1.size + bt400.1.size ≤ 9223372036854775807 then (some (a1 ++ bt400.1, bt400.2.1, bt400.2.2)) else (none))) else (if bt397.1 = 1 then ((spec_l01Below.f s0_0 bt397.2.1 bt397.2.2 (wrap64 ((a1.size : Int) + 1))).bind fun bt403 => (if 0 ≤ bt403.1 then (if bt403.1 ≤ (a1.size : Int) then (some (a1.extract 0 (bt403.1 : Int).toNat, bt403.2.1, bt403.2.2)) else (none)) else (none))) else (if bt397.1 = 2 then (spec_l02Spoilt.j0 k a1 (bt397.1 == 2) s0_0 bt397.2.1 bt397.2.2) else (spec_l02Spoilt.j0 k a1 (bt397.1 == 3) s0_0 bt397.2.1 bt397.2.2))))
def spec_l02Spoilt.T10 : Bool × List (List Nat × List Nat) := (true, [([], []), ([], []), ([0, 1], [0, 1]), ([], []), ([3], [3]), ([2, 4], [2, 4]), ([], []), ([], []), ([7], [7]), ([6, 8], [6, 8]), ([5, 9], [5, 9]), ([10, 4, 0, 1, 2, 3, 4, 5, 6, 7, 8, 9, 10], [10])])
def spec_l02Spoilt.B10 : List Nat := [0, 0, 3, 0, 8, 31, 0, 0, 128, 448, 1023, 2047]
theorem spec_l02Spoilt.tab10 : rtab .any (opsOf Try.f66 10) = spec_l02Spoilt.T10 := by kernel_rfl
theorem spec_l02Spoilt.bits10 : waitsOk spec_l02Spoilt.T10.2 spec_l02Spoilt.B10 = true := by kernel_rfl
set_option maxHeartbeats 8000000 in
set_option maxRecDepth 100000 in
theorem spec_l02Spoilt.calls (k : Nat) (g : Nat) (s0_0 : List Int) (s0_1 : Int) (s0_2 : Int) (a1 : ByteArray) (r1 : ByteArray) (r2 : Int) (r3 : Int) (w0 w : World) (hI : IsS93 w0 w g s0_0 s0_1 s0_2) (hB : Below w0.heap.size w0 w) (h : spec_l02Spoilt.f k s0_0 s0_1 s0_2 a1 = some (r1, r2, r3)) :
    Calls Try.prog 66 #[.pointer (some ⟨g, 0, none⟩), .string a1] w fun e w' => e = .returned (.string r1) ∧ IsS93 w0 w' g s0_0 r2 r3 ∧ Below w0.heap.size w0 w' ∧ KeepBut w w' g none := by
  have HI0 := Aside0.mk hI
  have HK := Aside0.mk (KeepBut.refl w g none)
  have HL := Aside0.mk hB.size
  clear hI
  have HW0 := Aside0.mk hB.size
  have HB := Aside0.mk hB
  clear hB
  have H : ((spec_l01Below.f s0_0 s0_1 s0_2 12).bind fun bt397 => (if bt397.1 = 0 then ((spec_l01Text.f k s0_0 bt397.2.1 bt397.2.2 1).bind fun bt400 => (if a1.size + bt400.1.size ≤ 9223372036854775807 then (some (a1 ++ bt400.1, bt400.2.1, bt400.2.2)) else (none))) else (if bt397.1 = 1 then ((spec_l01Below.f s0_0 bt397.2.1 bt397.2.2 (wrap64 ((a1.size : Int) + 1))).bind fun bt403 => (if 0 ≤ bt403.1 then (if bt403.1 ≤ (a1.size : Int) then (some (a1.extract 0 (bt403.1 : Int).toNat, bt403.2.1, bt403.2.2)) else (none)) else (none))) else (if bt397.1 = 2 then (spec_l02Spoilt.j0 k a1 (bt397.1 == 2) s0_0 bt397.2.1 bt397.2.2) else (spec_l02Spoilt.j0 k a1 (bt397.1 == 3) s0_0 bt397.2.1 bt397.2.2))))) = some (r1, r2, r3) := h
  clear h
  replace H := Option.bind_eq_some_iff.mp H
  obtain ⟨⟨t397, t398, t399⟩, A30, H⟩ := H
  replace H : (if t397 = 0 then ((spec_l01Text.f k s0_0 t398 t399 1).bind fun bt400 => (if a1.size + bt400.1.size ≤ 9223372036854775807 then (some (a1 ++ bt400.1, bt400.2.1, bt400.2.2)) else (none))) else (if t397 = 1 then ((spec_l01Below.f s0_0 t398 t399 (wrap64 ((a1.size : Int) + 1))).bind fun bt403 => (if 0 ≤ bt403.1 then (if bt403.1 ≤ (a1.size : Int) then (some (a1.extract 0 (bt403.1 : Int).toNat, bt403.2.1, bt403.2.2)) else (none)) else (none))) else (if t397 = 2 then (spec_l02Spoilt.j0 k a1 (t397 == 2) s0_0 t398 t399) else (spec_l02Spoilt.j0 k a1 (t397 == 3) s0_0 t398 t399)))) = some (r1, r2, r3) := H
  have A3 := Aside0.mk A30
  clear A30
  have HS4 := Aside0.mk H
  clear H
  go_enter Try.func66, Try.ntmps66
  go_upto_if 8 with (((with_reducible refine gate_callee (f := 44) rfl ?_); refine goesL_ (some 7) rfl rfl Try.func44 (by kernel_rfl) rfl #[.pointer (some ⟨g, 0, none⟩), .int .i64 12] rfl (by (try simp only [List.map_toArray, List.map_cons, List.map_nil]); rfl) ?_; (with_reducible refine (spec_l01Below.calls g s0_0 s0_1 s0_2 12 t397 t398 t399 w0 _ ?side1 ?side2 A3.out).mono ?_); (case side1 => repeat ((with_reducible exact HI0.out))); (case side2 => repeat ((with_reducible exact HB.out))); rintro e w5 ⟨rfl, hi, hb, hk⟩; refine ⟨_, rfl, ?_⟩; have n0_ := Aside0.mk (KeepBut.trans (by repeat ((with_reducible exact HK.out))) hk (.inl rfl)); have n1_ := Aside0.mk (hb); have n2_ := Aside0.mk (hi); clear HK; clear HB; clear HI0; have HK := n0_; have HB := n1_; have HI0 := n2_; clear n0_ n1_ n2_; (try clear hb); (try clear hb2); (try clear hk); (try clear hi)))
  (try simp only [Act.put, List.setIfInBounds_toArray, List.set_cons_zero, List.set_cons_succ])
  have H := HS4.out
  clear HS4
  by_cases c6 : t397 = 0
  · rw [if_pos c6] at H
    have c6b0 : (t397 == 0) = true := beq_iff_eq.mpr c6
    have c6b1 : (t397 != 0) = false := bne_eq_false_iff_eq.mpr c6
    clear c6
    (rw [c6b0])
    replace H := Option.bind_eq_some_iff.mp H
    obtain ⟨⟨t400, t401, t402⟩, A70, H⟩ := H
    replace H : (if a1.size + t400.size ≤ 9223372036854775807 then (some (a1 ++ t400, t401, t402)) else (none)) = some (r1, r2, r3) := H
    have A7 := Aside0.mk A70
    clear A70
    by_cases c8 : a1.size + t400.size ≤ 9223372036854775807
    · rw [if_pos c8] at H
      have c8b0 := eq_true c8
      have c8b1 : decide (a1.size + t400.size ≤ 9223372036854775807) = true := decide_eq_true c8
      have c8b2 : (9223372036854775807 < a1.size + t400.size) = False := eq_false (Nat.not_lt.2 c8)
      simp only [Option.some.injEq, Prod.mk.injEq] at H
      obtain ⟨rfl, rfl, rfl⟩ := H
      go_wp2_with (((with_reducible refine gate_callee (f := 60) rfl ?_); refine goesL_ (some 12) rfl rfl Try.func60 (by kernel_rfl) rfl #[.pointer (some ⟨g, 0, none⟩), .int .i64 1] rfl (by (try simp only [List.map_toArray, List.map_cons, List.map_nil]); rfl) ?_; (with_reducible refine (spec_l01Text.calls k g s0_0 t398 t399 1 t400 t401 t402 w0 _ ?side1 ?side2 A7.out).mono ?_); (case side1 => repeat ((with_reducible exact HI0.out))); (case side2 => repeat ((with_reducible exact HB.out))); rintro e w9 ⟨rfl, hi, hb, hk⟩; refine ⟨_, rfl, ?_⟩; have n0_ := Aside0.mk (KeepBut.trans (by repeat ((with_reducible exact HK.out))) hk (.inl rfl)); have n1_ := Aside0.mk (hb); have n2_ := Aside0.mk (hi); clear HK; clear HB; clear HI0; have HK := n0_; have HB := n1_; have HI0 := n2_; clear n0_ n1_ n2_; (try clear hb); (try clear hb2); (try clear hk); (try clear hi)))
      go_ret
      exact ⟨by rfl, by repeat ((with_reducible exact HI0.out)), by repeat ((with_reducible exact HB.out)), by repeat ((with_reducible exact HK.out))⟩
    · rw [if_neg c8] at H
      exact absurd H (by simp)
  · rw [if_neg c6] at H
    have c6b0 : (t397 == 0) = false := beq_eq_false_iff_ne.mpr c6
    have c6b1 : (t397 != 0) = true := bne_iff_ne.mpr c6
    (rw [c6b0])
    by_cases c10 : t397 = 1
    · rw [if_pos c10] at H
      have c10b0 : (t397 == 1) = true := beq_iff_eq.mpr c10
      have c10b1 : (t397 != 1) = false := bne_eq_false_iff_eq.mpr c10
      clear c10
      replace H := Option.bind_eq_some_iff.mp H
      obtain ⟨⟨t403, t404, t405⟩, A110, H⟩ := H
      replace H : (if 0 ≤ t403 then (if t403 ≤ (a1.size : Int) then (some (a1.extract 0 (t403 : Int).toNat, t404, t405)) else (none)) else (none)) = some (r1, r2, r3) := H
      have A11 := Aside0.mk A110
      clear A110
      by_cases c12 : 0 ≤ t403
      · rw [if_pos c12] at H
        have c12b0 := eq_true c12
        have c12b1 : decide (0 ≤ t403) = true := decide_eq_true c12
        clear c12
        by_cases c13 : t403 ≤ (a1.size : Int)
        · rw [if_pos c13] at H
          have c13b0 := eq_true c13
          have c13b1 : decide (t403 ≤ (a1.size : Int)) = true := decide_eq_true c13
          clear c13
          simp only [Option.some.injEq, Prod.mk.injEq] at H
          obtain ⟨rfl, rfl, rfl⟩ := H
          go_wp2_with (((with_reducible refine gate_callee (f := 44) rfl ?_); refine goesL_ (some 21) rfl rfl Try.func44 (by kernel_rfl) rfl #[.pointer (some ⟨g, 0, none⟩), .int .i64 (wrap64 ((a1.size : Int) + 1))] rfl (by (try simp only [List.map_toArray, List.map_cons, List.map_nil]); rfl) ?_; (with_reducible refine (spec_l01Below.calls g s0_0 t398 t399 (wrap64 ((a1.size : Int) + 1)) t403 t404 t405 w0 _ ?side1 ?side2 A11.out).mono ?_); (case side1 => repeat ((with_reducible exact HI0.out))); (case side2 => repeat ((with_reducible exact HB.out))); rintro e w14 ⟨rfl, hi, hb, hk⟩; refine ⟨_, rfl, ?_⟩; have n0_ := Aside0.mk (KeepBut.trans (by repeat ((with_reducible exact HK.out))) hk (.inl rfl)); have n1_ := Aside0.mk (hb); have n2_ := Aside0.mk (hi); clear HK; clear HB; clear HI0; have HK := n0_; have HB := n1_; have HI0 := n2_; clear n0_ n1_ n2_; (try clear hb); (try clear hb2); (try clear hk); (try clear hi)))
          go_ret
          exact ⟨by rfl, by repeat ((with_reducible exact HI0.out)), by repeat ((with_reducible exact HB.out)), by repeat ((with_reducible exact HK.out))⟩
        · rw [if_neg c13] at H
          exact absurd H (by simp)
      · rw [if_neg c12] at H
        exact absurd H (by simp)
    · rw [if_neg c10] at H
      have c10b0 : (t397 == 1) = false := beq_eq_false_iff_ne.mpr c10
      have c10b1 : (t397 != 1) = true := bne_iff_ne.mpr c10
      have HC15 := Aside0.mk H
      clear H
      go_upto_if 23 with (fail)
      go_cut [23] (fun v23 wc => ∃ (kq : Nat) (x23_14 : Bool), v23 = .bool x23_14 ∧ Aside0 (spec_l02Spoilt.j0 kq a1 x23_14 s0_0 t398 t399 = some (r1, r2, r3)) ∧ Aside0 (kq ≤ k) ∧ Aside0 (IsS93 w0 wc g s0_0 t398 t399) ∧ Aside0 (KeepBut w wc g none) ∧ Aside0 (Below w0.heap.size w0 wc))
      case first =>
        have H := HC15.out
        clear HC15
        by_cases c16 : t397 = 2
        · rw [if_pos c16] at H
          have c16b0 : (t397 == 2) = true := beq_iff_eq.mpr c16
          have c16b1 : (t397 != 2) = false := bne_eq_false_iff_eq.mpr c16
          clear c16
          (rw [c16b0])
          have H' := Aside0.mk H
          clear H
          go_wp2
          go_meet
          case rel => exact ⟨_, ((t397 == 2)), (by (simp [*]; done)), H', ⟨by omega⟩, ⟨by repeat ((with_reducible exact HI0.out))⟩, ⟨by repeat ((with_reducible exact HK.out))⟩, ⟨by repeat ((with_reducible exact HB.out))⟩⟩
        · rw [if_neg c16] at H
          have c16b0 : (t397 == 2) = false := beq_eq_false_iff_ne.mpr c16
          have c16b1 : (t397 != 2) = true := bne_iff_ne.mpr c16
          (rw [c16b0])
          have H' := Aside0.mk H
          clear H
          go_wp2
          go_meet
          case rel => exact ⟨_, ((t397 == 3)), (by rfl), H', ⟨by omega⟩, ⟨by repeat ((with_reducible exact HI0.out))⟩, ⟨by repeat ((with_reducible exact HK.out))⟩, ⟨by repeat ((with_reducible exact HB.out))⟩⟩
      case rest =>
        clear HC15
        clear c6
        clear c6b0
        clear c6b1
        clear c10
        clear c10b0
        clear c10b1
        obtain ⟨kq, x23_14, rfl, HA, HJ14, HI0, HK, HB⟩ := hcut
        cases kq with
        | zero => exact absurd HA.out (by simp [spec_l02Spoilt.j0])
        | succ kj14 =>
          have H := HA.out
          clear HA
          simp only [spec_l02Spoilt.j0] at H
          by_cases c17 : x23_14 = true
          · subst c17
            have H1 : (if (a1.size : Int) > 0 then ((spec_l01Below.f s0_0 t398 t399 (a1.size : Int)).bind fun bt406 => (if 0 ≤ bt406.1 then (if bt406.1 ≤ (a1.size : Int) then ((spec_l01Text.f kj14 s0_0 bt406.2.1 bt406.2.2 1).bind fun bt409 => (if (a1.extract 0 (bt406.1 : Int).toNat).size + bt409.1.size ≤ 9223372036854775807 then (if 0 ≤ (wrap64 (bt406.1 + 1)) then (if (wrap64 (bt406.1 + 1)) ≤ (a1.size : Int) then (if ((a1.extract 0 (bt406.1 : Int).toNat) ++ bt409.1).size + (a1.extract ((wrap64 (bt406.1 + 1)) : Int).toNat a1.size).size ≤ 9223372036854775807 then (some (((a1.extract 0 (bt406.1 : Int).toNat) ++ bt409.1) ++ (a1.extract ((wrap64 (bt406.1 + 1)) : Int).toNat a1.size), bt409.2.1, bt409.2.2)) else (none)) else (none)) else (none)) else (none))) else (none)) else (none))) else (some (a1, t398, t399))) = some (r1, r2, r3) := by rw [if_pos rfl] at H; exact H
            clear H
            have H := H1
            clear H1
            by_cases c18 : (a1.size : Int) > 0
            · rw [if_pos c18] at H
              have c18b0 : decide (0 < (a1.size : Int)) = true := decide_eq_true c18
              have c18b1 : decide (0 < a1.size) = true := decide_eq_true (by omega)
              clear c18
              replace H := Option.bind_eq_some_iff.mp H
              obtain ⟨⟨t406, t407, t408⟩, A190, H⟩ := H
              replace H : (if 0 ≤ t406 then (if t406 ≤ (a1.size : Int) then ((spec_l01Text.f kj14 s0_0 t407 t408 1).bind fun bt409 => (if (a1.extract 0 (t406 : Int).toNat).size + bt409.1.size ≤ 9223372036854775807 then (if 0 ≤ (wrap64 (t406 + 1)) then (if (wrap64 (t406 + 1)) ≤ (a1.size : Int) then (if ((a1.extract 0 (t406 : Int).toNat) ++ bt409.1).size + (a1.extract ((wrap64 (t406 + 1)) : Int).toNat a1.size).size ≤ 9223372036854775807 then (some (((a1.extract 0 (t406 : Int).toNat) ++ bt409.1) ++ (a1.extract ((wrap64 (t406 + 1)) : Int).toNat a1.size), bt409.2.1, bt409.2.2)) else (none)) else (none)) else (none)) else (none))) else (none)) else (none)) = some (r1, r2, r3) := H
              have A19 := Aside0.mk A190
              clear A190
              by_cases c20 : 0 ≤ t406
              · rw [if_pos c20] at H
                have c20b0 := eq_true c20
                have c20b1 : decide (0 ≤ t406) = true := decide_eq_true c20
                clear c20
                by_cases c21 : t406 ≤ (a1.size : Int)
                · rw [if_pos c21] at H
                  have c21b0 := eq_true c21
                  have c21b1 : decide (t406 ≤ (a1.size : Int)) = true := decide_eq_true c21
                  clear c21
                  replace H := Option.bind_eq_some_iff.mp H
                  obtain ⟨⟨t409, t410, t411⟩, A220, H⟩ := H
                  replace H : (if (a1.extract 0 (t406 : Int).toNat).size + t409.size ≤ 9223372036854775807 then (if 0 ≤ (wrap64 (t406 + 1)) then (if (wrap64 (t406 + 1)) ≤ (a1.size : Int) then (if ((a1.extract 0 (t406 : Int).toNat) ++ t409).size + (a1.extract ((wrap64 (t406 + 1)) : Int).toNat a1.size).size ≤ 9223372036854775807 then (some (((a1.extract 0 (t406 : Int).toNat) ++ t409) ++ (a1.extract ((wrap64 (t406 + 1)) : Int).toNat a1.size), t410, t411)) else (none)) else (none)) else (none)) else (none)) = some (r1, r2, r3) := H
                  have A22 := Aside0.mk A220
                  clear A220
                  by_cases c23 : (a1.extract 0 (t406 : Int).toNat).size + t409.size ≤ 9223372036854775807
                  · rw [if_pos c23] at H
                    have c23b0 := eq_true c23
                    have c23b1 : decide ((a1.extract 0 (t406 : Int).toNat).size + t409.size ≤ 9223372036854775807) = true := decide_eq_true c23
                    have c23y2 : (9223372036854775807 < (t406 : Int).toNat + t409.size) = False := (by have h_ := c23; have q0_ : (t406 : Int) ≤ (a1.size : Int) := of_decide_eq_true (by (with_reducible assumption)); simp only [ByteArray.size_append, ByteArray.size_extract] at h_; exact eq_false (by omega))
                    have c23b2 : (9223372036854775807 < (a1.extract 0 (t406 : Int).toNat).size + t409.size) = False := eq_false (Nat.not_lt.2 c23)
                    obtain ⟨ji24, hji24⟩ : ∃ j_ : Int, (wrap64 (t406 + 1)) = j_ := ⟨_, rfl⟩
                    replace H : (if 0 ≤ (ji24) then (if (ji24) ≤ (a1.size : Int) then (if ((a1.extract 0 (t406 : Int).toNat) ++ t409).size + (a1.extract ((ji24) : Int).toNat a1.size).size ≤ 9223372036854775807 then (some (((a1.extract 0 (t406 : Int).toNat) ++ t409) ++ (a1.extract ((ji24) : Int).toNat a1.size), t410, t411)) else (none)) else (none)) else (none)) = some (r1, r2, r3) := by (rw [hji24] at H; exact H)
                    (try rw [hji24] at A19)
                    (try rw [hji24] at A22)
                    have hji24w : (IntKind.i64.wrap (t406 + 1)) = ji24 := (i64_w _).trans hji24
                    by_cases c25 : 0 ≤ (ji24)
                    · rw [if_pos c25] at H
                      have c25b0 := eq_true c25
                      have c25b1 : decide (0 ≤ (ji24)) = true := decide_eq_true c25
                      clear c25
                      by_cases c26 : (ji24) ≤ (a1.size : Int)
                      · rw [if_pos c26] at H
                        have c26b0 := eq_true c26
                        have c26b1 : decide ((ji24) ≤ (a1.size : Int)) = true := decide_eq_true c26
                        clear c26
                        by_cases c27 : ((a1.extract 0 (t406 : Int).toNat) ++ t409).size + (a1.extract ((ji24) : Int).toNat a1.size).size ≤ 9223372036854775807
                        · rw [if_pos c27] at H
                          have c27b0 := eq_true c27
                          have c27b1 : decide (((a1.extract 0 (t406 : Int).toNat) ++ t409).size + (a1.extract ((ji24) : Int).toNat a1.size).size ≤ 9223372036854775807) = true := decide_eq_true c27
                          have c27x : (a1.extract 0 (t406 : Int).toNat).size + t409.size + (a1.extract ((ji24) : Int).toNat a1.size).size ≤ 9223372036854775807 := by have h_ := c27; (try simp only [ByteArray.size_append] at h_); exact h_
                          have c27x0 := eq_true c27x
                          have c27x2 : (9223372036854775807 < (a1.extract 0 (t406 : Int).toNat).size + t409.size + (a1.extract ((ji24) : Int).toNat a1.size).size) = False := eq_false (Nat.not_lt.2 c27x)
                          have c27y2 : (9223372036854775807 < (t406 : Int).toNat + t409.size + (a1.size - (ji24 : Int).toNat)) = False := (by have h_ := c27; have q0_ : (t406 : Int) ≤ (a1.size : Int) := of_decide_eq_true (by (with_reducible assumption)); simp only [ByteArray.size_append, ByteArray.size_extract] at h_; exact eq_false (by omega))
                          have c27b2 : (9223372036854775807 < ((a1.extract 0 (t406 : Int).toNat) ++ t409).size + (a1.extract ((ji24) : Int).toNat a1.size).size) = False := eq_false (Nat.not_lt.2 c27)
                          simp only [Option.some.injEq, Prod.mk.injEq] at H
                          obtain ⟨rfl, rfl, rfl⟩ := H
                          go_wp2_with (((with_reducible refine gate_callee (f := 44) rfl ?_); refine goesL_ (some 32) rfl rfl Try.func44 (by kernel_rfl) rfl #[.pointer (some ⟨g, 0, none⟩), .int .i64 (a1.size : Int)] rfl (by (try simp only [List.map_toArray, List.map_cons, List.map_nil]); rfl) ?_; (with_reducible refine (spec_l01Below.calls g s0_0 t398 t399 (a1.size : Int) t406 t407 t408 w0 _ ?side1 ?side2 A19.out).mono ?_); (case side1 => repeat ((with_reducible exact HI0.out))); (case side2 => repeat ((with_reducible exact HB.out))); rintro e w28 ⟨rfl, hi, hb, hk⟩; refine ⟨_, rfl, ?_⟩; have n0_ := Aside0.mk (KeepBut.trans (by repeat ((with_reducible exact HK.out))) hk (.inl rfl)); have n1_ := Aside0.mk (hb); have n2_ := Aside0.mk (hi); clear HK; clear HB; clear HI0; have HK := n0_; have HB := n1_; have HI0 := n2_; clear n0_ n1_ n2_; (try clear hb); (try clear hb2); (try clear hk); (try clear hi)))
                          have n0_ := Aside0.mk (IsS93.drew HI0.out)
                          have n1_ := Aside0.mk (keep_drew HK.out)
                          have n2_ := Aside0.mk (below_drew1 HB.out)
                          clear HI0
                          clear HK
                          clear HB
                          have HI0 := n0_
                          have HK := n1_
                          have HB := n2_
                          clear n0_ n1_ n2_
                          refine start_ (n := 12) (S := fun w' => True) (ds := []) #[false, false, false, false, false, false, false, false, false, false, false, false] (by kernel_rfl) rfl rfl trivial (fun hHeld => ?_); refine with_tabW spec_l02Spoilt.tab10 spec_l02Spoilt.bits10 (fun HT_ HW_ => ?_)
                          generalize w28.drew = w29 at HI0 HK HB hHeld ⊢
                          refine pure_ (i := 0) (N := some 33) (v := ?_) (a' := ?_) #[true, false, false, false, false, false, false, false, false, false, false, false] rfl rfl (any_of HT_.out (by kernel_rfl)) (fun _ _ _ h => h) (Or.inl ⟨by rfl, ?_⟩) ?_ ?_
                          rotate_left
                          · intro w'
                            go_simp
                            with_reducible rfl
                          rotate_left
                          · simp only [Act.put, List.setIfInBounds_toArray, List.set_cons_zero, List.set_cons_succ, i64_w, i32_w]
                            rfl
                          refine pure_ (i := 1) (N := some 34) (v := ?_) (a' := ?_) #[true, true, false, false, false, false, false, false, false, false, false, false] rfl rfl (any_of HT_.out (by kernel_rfl)) (fun _ _ _ h => h) (Or.inl ⟨by rfl, ?_⟩) ?_ ?_
                          rotate_left
                          · intro w'
                            go_simp
                            with_reducible rfl
                          rotate_left
                          · simp only [Act.put, List.setIfInBounds_toArray, List.set_cons_zero, List.set_cons_succ, i64_w, i32_w]
                            rfl
                          refine pure_ (i := 2) (N := some 35) (v := ?_) (a' := ?_) #[true, true, true, false, false, false, false, false, false, false, false, false] rfl rfl (any_of HT_.out (by kernel_rfl)) (fun _ _ _ h => h) (Or.inl ⟨by rfl, ?_⟩) ?_ ?_
                          rotate_left
                          · intro w'
                            go_simp
                            with_reducible rfl
                          rotate_left
                          · simp only [Act.put, List.setIfInBounds_toArray, List.set_cons_zero, List.set_cons_succ, i64_w, i32_w]
                            rfl
                          refine pure_ (i := 3) (N := some 36) (v := ?_) (a' := ?_) #[true, true, true, true, false, false, false, false, false, false, false, false] rfl rfl (any_of HT_.out (by kernel_rfl)) (fun _ _ _ h => h) (Or.inl ⟨by rfl, ?_⟩) ?_ ?_
                          rotate_left
                          · intro w'
                            go_simp
                            with_reducible rfl
                          rotate_left
                          · simp only [Act.put, List.setIfInBounds_toArray, List.set_cons_zero, List.set_cons_succ, i64_w, i32_w]
                            rfl
                          refine pure_ (i := 6) (N := some 39) (v := ?_) (a' := ?_) #[true, true, true, true, false, false, true, false, false, false, false, false] rfl rfl (any_of HT_.out (by kernel_rfl)) (fun _ _ _ h => h) (Or.inl ⟨by rfl, ?_⟩) ?_ ?_
                          rotate_left
                          · intro w'
                            go_simp
                            with_reducible rfl
                          rotate_left
                          · simp only [Act.put, List.setIfInBounds_toArray, List.set_cons_zero, List.set_cons_succ, i64_w, i32_w]
                            rfl
                          refine pure_ (i := 7) (N := some 40) (v := ?_) (a' := ?_) #[true, true, true, true, false, false, true, true, false, false, false, false] rfl rfl (any_of HT_.out (by kernel_rfl)) (fun _ _ _ h => h) (Or.inl ⟨by rfl, ?_⟩) ?_ ?_
                          rotate_left
                          · intro w'
                            go_simp
                            with_reducible rfl
                          rotate_left
                          · simp only [Act.put, List.setIfInBounds_toArray, List.set_cons_zero, List.set_cons_succ, i64_w, i32_w]
                            rfl
                          refine pure_ (i := 8) (N := some 41) (v := ?_) (a' := ?_) #[true, true, true, true, false, false, true, true, true, false, false, false] rfl rfl (any_of HT_.out (by kernel_rfl)) (fun _ _ _ h => h) (Or.inl ⟨by rfl, ?_⟩) ?_ ?_
                          rotate_left
                          · intro w'
                            go_simp
                            with_reducible rfl
                          rotate_left
                          · simp only [Act.put, List.setIfInBounds_toArray, List.set_cons_zero, List.set_cons_succ, i64_w, i32_w]
                            rfl
                          refine pure_ (i := 9) (N := some 42) (v := ?_) (a' := ?_) #[true, true, true, true, false, false, true, true, true, true, false, false] rfl rfl (any_of HT_.out (by kernel_rfl)) (fun _ _ _ h => h) (Or.inl ⟨by rfl, ?_⟩) ?_ ?_
                          rotate_left
                          · intro w'
                            go_simp
                            with_reducible rfl
                          rotate_left
                          · simp only [Act.put, List.setIfInBounds_toArray, List.set_cons_zero, List.set_cons_succ, i64_w, i32_w]
                            rfl
                          refine one_ (i := 4) (N := some 37) #[true, true, true, true, true, false, true, true, true, true, false, false] rfl rfl (one_of HT_.out (by kernel_rfl)) (by decide) (fun K hK => ?_)
                          refine goes_ Try.func60 (by kernel_rfl) rfl #[.pointer (some ⟨g, 0, none⟩), .int .i64 1] (by rfl) rfl rfl (by (try simp only [List.map_toArray, List.map_cons, List.map_nil]); rfl) ?_
                          with_reducible refine (spec_l01Text.calls kj14 g s0_0 t407 t408 1 t409 t410 t411 w0 _ ?side1 ?side2 A22.out).mono ?_
                          (case side1 => repeat ((with_reducible exact HI0.out)))
                          (case side2 => repeat ((with_reducible exact HB.out)))
                          rintro e w30 ⟨rfl, hi, hb, hk⟩
                          refine ⟨_, rfl, ?_⟩
                          have n0_ := Aside0.mk (KeepBut.trans (by repeat ((with_reducible exact HK.out))) hk (.inl rfl))
                          have n1_ := Aside0.mk (hb)
                          have n2_ := Aside0.mk (hi)
                          clear HK
                          clear HB
                          clear HI0
                          have HK := n0_
                          have HB := n1_
                          have HI0 := n2_
                          clear n0_ n1_ n2_
                          (try clear hb)
                          (try clear hb2)
                          (try clear hk)
                          (try clear hi)
                          refine hK.out _ _ trivial (fun hHeld => ?_)
                          clear hK K
                          refine norm_ (a' := ?_) ?_ ?_
                          rotate_left
                          · show Act.put _ (some 37) _ = _
                            simp only [Act.put, List.setIfInBounds_toArray, List.set_cons_zero, List.set_cons_succ, i64_w, i32_w]
                            rfl
                          refine pure_ (i := 5) (N := some 38) (v := ?_) (a' := ?_) #[true, true, true, true, true, true, true, true, true, true, false, false] rfl rfl (any_of HT_.out (by kernel_rfl)) (fun _ _ _ h => h) (Or.inl ⟨by rfl, ?_⟩) ?_ ?_
                          rotate_left
                          · intro w'
                            go_simp
                            with_reducible rfl
                          rotate_left
                          · simp only [Act.put, List.setIfInBounds_toArray, List.set_cons_zero, List.set_cons_succ, i64_w, i32_w]
                            rfl
                          refine pure_ (i := 10) (N := some 43) (v := ?_) (a' := ?_) #[true, true, true, true, true, true, true, true, true, true, true, false] rfl rfl (any_of HT_.out (by kernel_rfl)) (fun _ _ _ h => h) (Or.inl ⟨by rfl, ?_⟩) ?_ ?_
                          rotate_left
                          · intro w'
                            go_simp
                            with_reducible rfl
                          rotate_left
                          · simp only [Act.put, List.setIfInBounds_toArray, List.set_cons_zero, List.set_cons_succ, i64_w, i32_w]
                            rfl
                          refine pure_ (i := 11) (N := some 4) (v := ?_) (a' := ?_) #[true, true, true, true, true, true, true, true, true, true, true, true] rfl rfl (any_of HT_.out (by kernel_rfl)) (fun _ _ _ h => h) (Or.inl ⟨by rfl, ?_⟩) ?_ ?_
                          rotate_left
                          · intro w'
                            go_simp
                            with_reducible rfl
                          rotate_left
                          · simp only [Act.put, List.setIfInBounds_toArray, List.set_cons_zero, List.set_cons_succ, i64_w, i32_w]
                            rfl
                          refine done_ (done_of HT_.out (by kernel_rfl)) ?_
                          go_wp2
                          go_ret
                          exact ⟨by rfl, by repeat ((with_reducible exact HI0.out)), by repeat ((with_reducible exact HB.out)), by repeat ((with_reducible exact HK.out))⟩
                        · rw [if_neg c27] at H
                          exact absurd H (by simp)
                      · rw [if_neg c26] at H
                        exact absurd H (by simp)
                    · rw [if_neg c25] at H
                      exact absurd H (by simp)
                  · rw [if_neg c23] at H
                    exact absurd H (by simp)
                · rw [if_neg c21] at H
                  exact absurd H (by simp)
              · rw [if_neg c20] at H
                exact absurd H (by simp)
            · rw [if_neg c18] at H
              have c18b0 : decide (0 < (a1.size : Int)) = false := decide_eq_false c18
              have c18b1 : decide (0 < a1.size) = false := decide_eq_false (by omega)
              clear c18
              simp only [Option.some.injEq, Prod.mk.injEq] at H
              obtain ⟨rfl, rfl, rfl⟩ := H
              go_wp2
              go_ret
              exact ⟨by rfl, by repeat ((with_reducible exact HI0.out)), by repeat ((with_reducible exact HB.out)), by repeat ((with_reducible exact HK.out))⟩
          · replace c17 := Bool.eq_false_iff.mpr c17
            subst c17
            have H1 : (some (a1, t398, t399)) = some (r1, r2, r3) := by rw [if_neg (show ¬ (false = true) by decide)] at H; exact H
            clear H
            have H := H1
            clear H1
            simp only [Option.some.injEq, Prod.mk.injEq] at H
            obtain ⟨rfl, rfl, rfl⟩ := H
            go_wp2
            go_ret
            exact ⟨by rfl, by repeat ((with_reducible exact HI0.out)), by repeat ((with_reducible exact HB.out)), by repeat ((with_reducible exact HK.out))⟩
mutual
def spec_l11Body.j0 : Nat → Int → ByteArray → Int → Bool → List Int → Int → Int → Option (ByteArray × Int × Int)
  | 0, _, _, _, _, _, _, _ => none
  | k + 1, x4, x5, x18, x19, x1000, x1001, x1002 => if x19 = true then (if (wrap64 ((x5.size : Int) + 1)) = 0 then (none) else (if 0 ≤ (Int.tmod x4 (wrap64 ((x5.size : Int) + 1))) then (if (Int.tmod x4 (wrap64 ((x5.size : Int) + 1))) ≤ (x5.size : Int) then (some (x5.extract 0 ((Int.tmod x4 (wrap64 ((x5.size : Int) + 1))) : Int).toNat, x1001, x1002)) else (none)) else (none))) else (if x18 = 2 then ((spec_l02Spoilt.f k x1000 x1001 x1002 x5).bind fun bt425 => (some (bt425.1, bt425.2.1, bt425.2.2))) else (if x18 = 3 then (if x5.size + 4 ≤ 9223372036854775807 then (some (x5 ++ (⟨#[109, 111, 114, 101]⟩ : ByteArray), x1001, x1002)) else (none)) else (if x18 = 4 then ((some (([(⟨#[48, 65, 13, 10, 48, 49, 50, 51, 52, 53, 54, 55, 56, 57, 13, 10, 48, 13, 10, 13, 10]⟩ : ByteArray), (⟨#[103, 13, 10]⟩ : ByteArray), (⟨#[49, 13, 10, 120, 10, 48, 13, 10]⟩ : ByteArray), (⟨#[]⟩ : ByteArray), (⟨#[54, 51, 13, 10]⟩ : ByteArray), (⟨#[49, 48, 48, 13, 10]⟩ : ByteArray), (⟨#[48, 13, 10, 120, 58, 32, 121, 13, 10, 13, 10]⟩ : ByteArray)] : List ByteArray) : List ByteArray)).bind fun y428 => (if 0 ≤ (Int.tmod x4 7) then (if (Int.tmod x4 7) < (y428.length : Int) then (some (rdOf ByteArray.empty y428 (Int.tmod x4 7), x1001, x1002)) else (none)) else (none))) else (if x18 = 5 then (spec_l11Body.l0 k x4 x5 0 x1000 x1001 x1002) else (some (x5, x1001, x1002))))))
def spec_l11Body.l0 : Nat → Int → ByteArray → Int → List Int → Int → Int → Option (ByteArray × Int × Int)
  | 0, _, _, _, _, _, _ => none
  | k + 1, x4, x5, x7, x1000, x1001, x1002 => if x7 < (wrap64 (4 + (Int.tmod x4 2))) then ((spec_l01Long.f k 99 97).bind fun t432 => (if 4 + t432.size ≤ 9223372036854775807 then (if ((⟨#[54, 51, 13, 10]⟩ : ByteArray) ++ t432).size + 2 ≤ 9223372036854775807 then (if (((⟨#[54, 51, 13, 10]⟩ : ByteArray) ++ t432) ++ (⟨#[13, 10]⟩ : ByteArray)).size + x5.size ≤ 9223372036854775807 then (spec_l11Body.l0 k x4 ((((⟨#[54, 51, 13, 10]⟩ : ByteArray) ++ t432) ++ (⟨#[13, 10]⟩ : ByteArray)) ++ x5) (wrap64 (x7 + 1)) x1000 x1001 x1002) else (none)) else (none)) else (none))) else (some (x5, x1001, x1002))
end
def spec_l11Body.f (k : Nat) (s0_0 : List Int) (s0_1 : Int) (s0_2 : Int) : Option (ByteArray × Int × Int) := (spec_l01Below.f s0_0 s0_1 s0_2 10).bind fun bt412 => ((spec_l01Below.f s0_0 bt412.2.1 bt412.2.2 200).bind fun bt415 => ((spec_l11Parts.f k s0_0 bt415.2.1 bt415.2.2).bind fun bt418 => ((spec_ChunkText.f k bt418.1).bind fun bt423 => (if bt412.1 = 0 then (spec_l11Body.j0 k bt415.1 bt423.1 bt412.1 (bt412.1 == 0) s0_0 bt418.2.1 bt418.2.2) else (spec_l11Body.j0 k bt415.1 bt423.1 bt412.1 (bt412.1 == 1) s0_0 bt418.2.1 bt418.2.2)))))
set_option maxHeartbeats 8000000 in
set_option maxRecDepth 100000 in
theorem spec_l11Body.calls (k : Nat) (g : Nat) (s0_0 : List Int) (s0_1 : Int) (s0_2 : Int) (r1 : ByteArray) (r2 : Int) (r3 : Int) (w0 w : World) (hI : IsS93 w0 w g s0_0 s0_1 s0_2) (hB : Below w0.heap.size w0 w) (h : spec_l11Body.f k s0_0 s0_1 s0_2 = some (r1, r2, r3)) :
    Calls Try.prog 53 #[.pointer (some ⟨g, 0, none⟩)] w fun e w' => e = .returned (.string r1) ∧ IsS93 w0 w' g s0_0 r2 r3 ∧ Below w0.heap.size w0 w' ∧ KeepBut w w' g none := by
  have HI0 := Aside0.mk hI
  have HK := Aside0.mk (KeepBut.refl w g none)
  have HL := Aside0.mk hB.size
  clear hI
  have HW0 := Aside0.mk hB.size
  have HB := Aside0.mk hB
  clear hB
  have H : ((spec_l01Below.f s0_0 s0_1 s0_2 10).bind fun bt412 => ((spec_l01Below.f s0_0 bt412.2.1 bt412.2.2 200).bind fun bt415 => ((spec_l11Parts.f k s0_0 bt415.2.1 bt415.2.2).bind fun bt418 => ((spec_ChunkText.f k bt418.1).bind fun bt423 => (if bt412.1 = 0 then (spec_l11Body.j0 k bt415.1 bt423.1 bt412.1 (bt412.1 == 0) s0_0 bt418.2.1 bt418.2.2) else (spec_l11Body.j0 k bt415.1 bt423.1 bt412.1 (bt412.1 == 1) s0_0 bt418.2.1 bt418.2.2)))))) = some (r1, r2, r3) := h
  clear h
  replace H := Option.bind_eq_some_iff.mp H
  obtain ⟨⟨t412, t413, t414⟩, A20, H⟩ := H
  replace H : ((spec_l01Below.f s0_0 t413 t414 200).bind fun bt415 => ((spec_l11Parts.f k s0_0 bt415.2.1 bt415.2.2).bind fun bt418 => ((spec_ChunkText.f k bt418.1).bind fun bt423 => (if t412 = 0 then (spec_l11Body.j0 k bt415.1 bt423.1 t412 (t412 == 0) s0_0 bt418.2.1 bt418.2.2) else (spec_l11Body.j0 k bt415.1 bt423.1 t412 (t412 == 1) s0_0 bt418.2.1 bt418.2.2))))) = some (r1, r2, r3) := H
  have A2 := Aside0.mk A20
  clear A20
  replace H := Option.bind_eq_some_iff.mp H
  obtain ⟨⟨t415, t416, t417⟩, A30, H⟩ := H
  replace H : ((spec_l11Parts.f k s0_0 t416 t417).bind fun bt418 => ((spec_ChunkText.f k bt418.1).bind fun bt423 => (if t412 = 0 then (spec_l11Body.j0 k t415 bt423.1 t412 (t412 == 0) s0_0 bt418.2.1 bt418.2.2) else (spec_l11Body.j0 k t415 bt423.1 t412 (t412 == 1) s0_0 bt418.2.1 bt418.2.2)))) = some (r1, r2, r3) := H
  have A3 := Aside0.mk A30
  clear A30
  replace H := Option.bind_eq_some_iff.mp H
  obtain ⟨⟨t418, t421, t422⟩, A40, H⟩ := H
  replace H : ((spec_ChunkText.f k t418).bind fun bt423 => (if t412 = 0 then (spec_l11Body.j0 k t415 bt423.1 t412 (t412 == 0) s0_0 t421 t422) else (spec_l11Body.j0 k t415 bt423.1 t412 (t412 == 1) s0_0 t421 t422))) = some (r1, r2, r3) := H
  have A4 := Aside0.mk A40
  clear A40
  replace H := Option.bind_eq_some_iff.mp H
  obtain ⟨⟨t423, t424⟩, A50, H⟩ := H
  replace H : (if t412 = 0 then (spec_l11Body.j0 k t415 t423 t412 (t412 == 0) s0_0 t421 t422) else (spec_l11Body.j0 k t415 t423 t412 (t412 == 1) s0_0 t421 t422)) = some (r1, r2, r3) := H
  have A5 := Aside0.mk A50
  clear A50
  have HC6 := Aside0.mk H
  clear H
  go_enter Try.func53, Try.ntmps53
  go_upto_if 19 with (first | ((with_reducible refine gate_callee (f := 44) rfl ?_); refine goesL_ (some 9) rfl rfl Try.func44 (by kernel_rfl) rfl #[.pointer (some ⟨g, 0, none⟩), .int .i64 10] rfl (by (try simp only [List.map_toArray, List.map_cons, List.map_nil]); rfl) ?_; (with_reducible refine (spec_l01Below.calls g s0_0 s0_1 s0_2 10 t412 t413 t414 w0 _ ?side1 ?side2 A2.out).mono ?_); (case side1 => repeat ((with_reducible exact HI0.out))); (case side2 => repeat ((with_reducible exact HB.out))); rintro e w7 ⟨rfl, hi, hb, hk⟩; refine ⟨_, rfl, ?_⟩; have n0_ := Aside0.mk (KeepBut.trans (by repeat ((with_reducible exact HK.out))) hk (.inl rfl)); have n1_ := Aside0.mk (hb); have n2_ := Aside0.mk (hi); clear HK; clear HB; clear HI0; have HK := n0_; have HB := n1_; have HI0 := n2_; clear n0_ n1_ n2_; (try clear hb); (try clear hb2); (try clear hk); (try clear hi)) | ((with_reducible refine gate_callee (f := 44) rfl ?_); refine goesL_ (some 11) rfl rfl Try.func44 (by kernel_rfl) rfl #[.pointer (some ⟨g, 0, none⟩), .int .i64 200] rfl (by (try simp only [List.map_toArray, List.map_cons, List.map_nil]); rfl) ?_; (with_reducible refine (spec_l01Below.calls g s0_0 t413 t414 200 t415 t416 t417 w0 _ ?side1 ?side2 A3.out).mono ?_); (case side1 => repeat ((with_reducible exact HI0.out))); (case side2 => repeat ((with_reducible exact HB.out))); rintro e w8 ⟨rfl, hi, hb, hk⟩; refine ⟨_, rfl, ?_⟩; have n0_ := Aside0.mk (KeepBut.trans (by repeat ((with_reducible exact HK.out))) hk (.inl rfl)); have n1_ := Aside0.mk (hb); have n2_ := Aside0.mk (hi); clear HK; clear HB; clear HI0; have HK := n0_; have HB := n1_; have HI0 := n2_; clear n0_ n1_ n2_; (try clear hb); (try clear hb2); (try clear hk); (try clear hi)) | ((with_reducible refine gate_callee (f := 41) rfl ?_); refine goesL_ (some 14) rfl rfl Try.func41 (by kernel_rfl) rfl #[.pointer (some ⟨g, 0, none⟩)] rfl (by (try simp only [List.map_toArray, List.map_cons, List.map_nil]); rfl) ?_; (with_reducible refine (spec_l11Parts.calls k g s0_0 t416 t417 t418 t421 t422 w0 _ ?side1 ?side2 A4.out).mono ?_); (case side1 => repeat ((with_reducible exact HI0.out))); (case side2 => repeat ((with_reducible exact HB.out))); rintro e w9 ⟨v419, rfl, ho0, hi, hb, hk⟩; refine ⟨_, rfl, ?_⟩; have n0_ := Aside0.mk (Kd.R_lower ho0 (keep_size (w := w) (g := g) (row := none) (by repeat ((with_reducible exact HK.out))))); have n1_ := Aside0.mk (KeepBut.trans (by repeat ((with_reducible exact HK.out))) hk (.inl rfl)); have n2_ := Aside0.mk (hb); have n3_ := Aside0.mk (hi); clear HK; clear HB; clear HI0; have HO420 := n0_; have HK := n1_; have HB := n2_; have HI0 := n3_; clear n0_ n1_ n2_ n3_; (try clear hb); (try clear hb2); (try clear hk); (try clear hi); (try clear ho0); obtain ⟨Ao10, co10, eo10⟩ := Kd.R_slice HO420.out; subst eo10) | ((with_reducible refine gate_callee (f := 14) rfl ?_); refine goesL_ (some 15) rfl rfl Try.func14 (by kernel_rfl) rfl #[.slice Ao10 t418.length co10] rfl (by (try simp only [List.map_toArray, List.map_cons, List.map_nil]); rfl) ?_; (with_reducible refine (spec_ChunkText.calls k _ _ t418 t423 t424 _ ?side1 ?side2 A5.out).mono ?_); (case side1 => repeat (exact (Kd.R_reads' HO420.out).2.2)); (case side2 => exact (Kd.R_reads' HO420.out).2.1); rintro e w' ⟨rfl, ⟨nd, rfl⟩⟩; refine ⟨_, rfl, ?_⟩))
  (try simp only [Act.put, List.setIfInBounds_toArray, List.set_cons_zero, List.set_cons_succ])
  go_cut [19] (fun v19 wc => ∃ (kq : Nat) (x19_5 : Bool), v19 = .bool x19_5 ∧ Aside0 (spec_l11Body.j0 kq t415 t423 t412 x19_5 s0_0 t421 t422 = some (r1, r2, r3)) ∧ Aside0 (kq ≤ k) ∧ Aside0 (IsS93 w0 wc g s0_0 t421 t422) ∧ Aside0 (KeepBut w wc g none) ∧ Aside0 (Below w0.heap.size w0 wc))
  case first =>
    have H := HC6.out
    clear HC6
    by_cases c11 : t412 = 0
    · rw [if_pos c11] at H
      have c11b0 : (t412 == 0) = true := beq_iff_eq.mpr c11
      have c11b1 : (t412 != 0) = false := bne_eq_false_iff_eq.mpr c11
      clear c11
      (rw [c11b0])
      have H' := Aside0.mk H
      clear H
      go_wp2
      go_meet
      case rel => exact ⟨_, ((t412 == 0)), (by (simp [*]; done)), H', ⟨by omega⟩, ⟨by repeat ((with_reducible first | exact HI0.out | apply IsS93.drewN))⟩, ⟨by repeat ((with_reducible first | exact HK.out | apply keep_drewN))⟩, ⟨by repeat ((with_reducible first | exact HB.out | apply pw_below_drewN))⟩⟩
    · rw [if_neg c11] at H
      have c11b0 : (t412 == 0) = false := beq_eq_false_iff_ne.mpr c11
      have c11b1 : (t412 != 0) = true := bne_iff_ne.mpr c11
      (rw [c11b0])
      have H' := Aside0.mk H
      clear H
      go_wp2
      go_meet
      case rel => exact ⟨_, ((t412 == 1)), (by rfl), H', ⟨by omega⟩, ⟨by repeat ((with_reducible first | exact HI0.out | apply IsS93.drewN))⟩, ⟨by repeat ((with_reducible first | exact HK.out | apply keep_drewN))⟩, ⟨by repeat ((with_reducible first | exact HB.out | apply pw_below_drewN))⟩⟩
  case rest =>
    clear HC6
    obtain ⟨kq, x19_5, rfl, HA, HJ5, HI0, HK, HB⟩ := hcut
    cases kq with
    | zero => exact absurd HA.out (by simp [spec_l11Body.j0])
    | succ kj5 =>
      have H := HA.out
      clear HA
      simp only [spec_l11Body.j0] at H
      by_cases c12 : x19_5 = true
      · subst c12
        have H1 : (if (wrap64 ((t423.size : Int) + 1)) = 0 then (none) else (if 0 ≤ (Int.tmod t415 (wrap64 ((t423.size : Int) + 1))) then (if (Int.tmod t415 (wrap64 ((t423.size : Int) + 1))) ≤ (t423.size : Int) then (some (t423.extract 0 ((Int.tmod t415 (wrap64 ((t423.size : Int) + 1))) : Int).toNat, t421, t422)) else (none)) else (none))) = some (r1, r2, r3) := by rw [if_pos rfl] at H; exact H
        clear H
        have H := H1
        clear H1
        by_cases c13 : (wrap64 ((t423.size : Int) + 1)) = 0
        · rw [if_pos c13] at H
          exact absurd H (by simp)
        · rw [if_neg c13] at H
          have c13b0 : ((wrap64 ((t423.size : Int) + 1)) == 0) = false := beq_eq_false_iff_ne.mpr c13
          have c13b1 : ((wrap64 ((t423.size : Int) + 1)) != 0) = true := bne_iff_ne.mpr c13
          obtain ⟨ji14, hji14⟩ : ∃ j_ : Int, (Int.tmod t415 (wrap64 ((t423.size : Int) + 1))) = j_ := ⟨_, rfl⟩
          replace H : (if 0 ≤ (ji14) then (if (ji14) ≤ (t423.size : Int) then (some (t423.extract 0 ((ji14) : Int).toNat, t421, t422)) else (none)) else (none)) = some (r1, r2, r3) := by (rw [hji14] at H; exact H)
          by_cases c15 : 0 ≤ (ji14)
          · rw [if_pos c15] at H
            have c15b0 := eq_true c15
            have c15b1 : decide (0 ≤ (ji14)) = true := decide_eq_true c15
            clear c15
            by_cases c16 : (ji14) ≤ (t423.size : Int)
            · rw [if_pos c16] at H
              have c16b0 := eq_true c16
              have c16b1 : decide ((ji14) ≤ (t423.size : Int)) = true := decide_eq_true c16
              clear c16
              simp only [Option.some.injEq, Prod.mk.injEq] at H
              obtain ⟨rfl, rfl, rfl⟩ := H
              go_wp2
              go_ret
              exact ⟨by rfl, by repeat ((with_reducible exact HI0.out)), by repeat ((with_reducible exact HB.out)), by repeat ((with_reducible exact HK.out))⟩
            · rw [if_neg c16] at H
              exact absurd H (by simp)
          · rw [if_neg c15] at H
            exact absurd H (by simp)
      · replace c12 := Bool.eq_false_iff.mpr c12
        subst c12
        have H1 : (if t412 = 2 then ((spec_l02Spoilt.f kj5 s0_0 t421 t422 t423).bind fun bt425 => (some (bt425.1, bt425.2.1, bt425.2.2))) else (if t412 = 3 then (if t423.size + 4 ≤ 9223372036854775807 then (some (t423 ++ (⟨#[109, 111, 114, 101]⟩ : ByteArray), t421, t422)) else (none)) else (if t412 = 4 then ((some (([(⟨#[48, 65, 13, 10, 48, 49, 50, 51, 52, 53, 54, 55, 56, 57, 13, 10, 48, 13, 10, 13, 10]⟩ : ByteArray), (⟨#[103, 13, 10]⟩ : ByteArray), (⟨#[49, 13, 10, 120, 10, 48, 13, 10]⟩ : ByteArray), (⟨#[]⟩ : ByteArray), (⟨#[54, 51, 13, 10]⟩ : ByteArray), (⟨#[49, 48, 48, 13, 10]⟩ : ByteArray), (⟨#[48, 13, 10, 120, 58, 32, 121, 13, 10, 13, 10]⟩ : ByteArray)] : List ByteArray) : List ByteArray)).bind fun y428 => (if 0 ≤ (Int.tmod t415 7) then (if (Int.tmod t415 7) < (y428.length : Int) then (some (rdOf ByteArray.empty y428 (Int.tmod t415 7), t421, t422)) else (none)) else (none))) else (if t412 = 5 then (spec_l11Body.l0 kj5 t415 t423 0 s0_0 t421 t422) else (some (t423, t421, t422)))))) = some (r1, r2, r3) := by rw [if_neg (show ¬ (false = true) by decide)] at H; exact H
        clear H
        have H := H1
        clear H1
        by_cases c17 : t412 = 2
        · rw [if_pos c17] at H
          have c17b0 : (t412 == 2) = true := beq_iff_eq.mpr c17
          have c17b1 : (t412 != 2) = false := bne_eq_false_iff_eq.mpr c17
          clear c17
          replace H := Option.bind_eq_some_iff.mp H
          obtain ⟨⟨t425, t426, t427⟩, A180, H⟩ := H
          replace H : (some (t425, t426, t427)) = some (r1, r2, r3) := H
          have A18 := Aside0.mk A180
          clear A180
          simp only [Option.some.injEq, Prod.mk.injEq] at H
          obtain ⟨rfl, rfl, rfl⟩ := H
          go_wp2_with (((with_reducible refine gate_callee (f := 66) rfl ?_); refine goesL_ (some 33) rfl rfl Try.func66 (by kernel_rfl) rfl #[.pointer (some ⟨g, 0, none⟩), .string t423] rfl (by (try simp only [List.map_toArray, List.map_cons, List.map_nil]); rfl) ?_; (with_reducible refine (spec_l02Spoilt.calls kj5 g s0_0 t421 t422 t423 t425 t426 t427 w0 _ ?side1 ?side2 A18.out).mono ?_); (case side1 => repeat ((with_reducible exact HI0.out))); (case side2 => repeat ((with_reducible exact HB.out))); rintro e w19 ⟨rfl, hi, hb, hk⟩; refine ⟨_, rfl, ?_⟩; have n0_ := Aside0.mk (KeepBut.trans (by repeat ((with_reducible exact HK.out))) hk (.inl rfl)); have n1_ := Aside0.mk (hb); have n2_ := Aside0.mk (hi); clear HK; clear HB; clear HI0; have HK := n0_; have HB := n1_; have HI0 := n2_; clear n0_ n1_ n2_; (try clear hb); (try clear hb2); (try clear hk); (try clear hi)))
          go_ret
          exact ⟨by rfl, by repeat ((with_reducible exact HI0.out)), by repeat ((with_reducible exact HB.out)), by repeat ((with_reducible exact HK.out))⟩
        · rw [if_neg c17] at H
          have c17b0 : (t412 == 2) = false := beq_eq_false_iff_ne.mpr c17
          have c17b1 : (t412 != 2) = true := bne_iff_ne.mpr c17
          by_cases c20 : t412 = 3
          · rw [if_pos c20] at H
            have c20b0 : (t412 == 3) = true := beq_iff_eq.mpr c20
            have c20b1 : (t412 != 3) = false := bne_eq_false_iff_eq.mpr c20
            clear c20
            by_cases c21 : t423.size + 4 ≤ 9223372036854775807
            · rw [if_pos c21] at H
              have c21b0 := eq_true c21
              have c21b1 : decide (t423.size + 4 ≤ 9223372036854775807) = true := decide_eq_true c21
              have c21b2 : (9223372036854775807 < t423.size + 4) = False := eq_false (Nat.not_lt.2 c21)
              simp only [Option.some.injEq, Prod.mk.injEq] at H
              obtain ⟨rfl, rfl, rfl⟩ := H
              go_wp2
              go_ret
              exact ⟨by rfl, by repeat ((with_reducible exact HI0.out)), by repeat ((with_reducible exact HB.out)), by repeat ((with_reducible exact HK.out))⟩
            · rw [if_neg c21] at H
              exact absurd H (by simp)
          · rw [if_neg c20] at H
            have c20b0 : (t412 == 3) = false := beq_eq_false_iff_ne.mpr c20
            have c20b1 : (t412 != 3) = true := bne_iff_ne.mpr c20
            by_cases c22 : t412 = 4
            · rw [if_pos c22] at H
              have c22b0 : (t412 == 4) = true := beq_iff_eq.mpr c22
              have c22b1 : (t412 != 4) = false := bne_eq_false_iff_eq.mpr c22
              clear c22
              obtain ⟨y428, hy428⟩ : ∃ y_ : List ByteArray, y_ = (([(⟨#[48, 65, 13, 10, 48, 49, 50, 51, 52, 53, 54, 55, 56, 57, 13, 10, 48, 13, 10, 13, 10]⟩ : ByteArray), (⟨#[103, 13, 10]⟩ : ByteArray), (⟨#[49, 13, 10, 120, 10, 48, 13, 10]⟩ : ByteArray), (⟨#[]⟩ : ByteArray), (⟨#[54, 51, 13, 10]⟩ : ByteArray), (⟨#[49, 48, 48, 13, 10]⟩ : ByteArray), (⟨#[48, 13, 10, 120, 58, 32, 121, 13, 10, 13, 10]⟩ : ByteArray)] : List ByteArray)) := ⟨_, rfl⟩
              replace H : (if 0 ≤ (Int.tmod t415 7) then (if (Int.tmod t415 7) < (y428.length : Int) then (some (rdOf ByteArray.empty y428 (Int.tmod t415 7), t421, t422)) else (none)) else (none)) = some (r1, r2, r3) := by (have H2_ := (Option.bind_some _ _).symm.trans H; rw [hy428]; with_reducible exact H2_)
              have Ny428 := Aside0.mk hy428
              clear hy428
              obtain ⟨ji23, hji23⟩ : ∃ j_ : Int, (Int.tmod t415 7) = j_ := ⟨_, rfl⟩
              replace H : (if 0 ≤ (ji23) then (if (ji23) < (y428.length : Int) then (some (rdOf ByteArray.empty y428 (ji23), t421, t422)) else (none)) else (none)) = some (r1, r2, r3) := by (rw [hji23] at H; exact H)
              by_cases c24 : 0 ≤ (ji23)
              · rw [if_pos c24] at H
                have c24b0 : decide (0 ≤ (ji23)) = true := decide_eq_true c24
                clear c24
                by_cases c25 : (ji23) < (y428.length : Int)
                · rw [if_pos c25] at H
                  have c25b0 : decide ((ji23) < (y428.length : Int)) = true := decide_eq_true c25
                  clear c25
                  simp only [Option.some.injEq, Prod.mk.injEq] at H
                  obtain ⟨rfl, rfl, rfl⟩ := H
                  go_wp2_with (((with_reducible refine gate_dst (N := 40) rfl ?_); refine Kd.R_lit Kd.string _ 9 ?hg (N := 40) ?hd (xs := ([(⟨#[48, 65, 13, 10, 48, 49, 50, 51, 52, 53, 54, 55, 56, 57, 13, 10, 48, 13, 10, 13, 10]⟩ : ByteArray), (⟨#[103, 13, 10]⟩ : ByteArray), (⟨#[49, 13, 10, 120, 10, 48, 13, 10]⟩ : ByteArray), (⟨#[]⟩ : ByteArray), (⟨#[54, 51, 13, 10]⟩ : ByteArray), (⟨#[49, 48, 48, 13, 10]⟩ : ByteArray), (⟨#[48, 13, 10, 120, 58, 32, 121, 13, 10, 13, 10]⟩ : ByteArray)] : List ByteArray)) (inner := [.string (⟨#[48, 65, 13, 10, 48, 49, 50, 51, 52, 53, 54, 55, 56, 57, 13, 10, 48, 13, 10, 13, 10]⟩ : ByteArray), .string (⟨#[103, 13, 10]⟩ : ByteArray), .string (⟨#[49, 13, 10, 120, 10, 48, 13, 10]⟩ : ByteArray), .string (⟨#[]⟩ : ByteArray), .string (⟨#[54, 51, 13, 10]⟩ : ByteArray), .string (⟨#[49, 48, 48, 13, 10]⟩ : ByteArray), .string (⟨#[48, 13, 10, 120, 58, 32, 121, 13, 10, 13, 10]⟩ : ByteArray)]) (ok := fun _ => True) (okp := fun _ => True) ?hr ?hp (fun _ hk => hk) trivial (Below.refl _ _) (Nat.le_refl _) (by simp) ?_; (case hd => rfl); (case hg => rfl); (case hr => (go_simp; done)); (case hp => exact (Reps.one (show Kd.M Kd.string _ _ _ (⟨#[48, 65, 13, 10, 48, 49, 50, 51, 52, 53, 54, 55, 56, 57, 13, 10, 48, 13, 10, 13, 10]⟩ : ByteArray) [.string (⟨#[48, 65, 13, 10, 48, 49, 50, 51, 52, 53, 54, 55, 56, 57, 13, 10, 48, 13, 10, 13, 10]⟩ : ByteArray)] from rfl) (Reps.one (show Kd.M Kd.string _ _ _ (⟨#[103, 13, 10]⟩ : ByteArray) [.string (⟨#[103, 13, 10]⟩ : ByteArray)] from rfl) (Reps.one (show Kd.M Kd.string _ _ _ (⟨#[49, 13, 10, 120, 10, 48, 13, 10]⟩ : ByteArray) [.string (⟨#[49, 13, 10, 120, 10, 48, 13, 10]⟩ : ByteArray)] from rfl) (Reps.one (show Kd.M Kd.string _ _ _ (⟨#[]⟩ : ByteArray) [.string (⟨#[]⟩ : ByteArray)] from rfl) (Reps.one (show Kd.M Kd.string _ _ _ (⟨#[54, 51, 13, 10]⟩ : ByteArray) [.string (⟨#[54, 51, 13, 10]⟩ : ByteArray)] from rfl) (Reps.one (show Kd.M Kd.string _ _ _ (⟨#[49, 48, 48, 13, 10]⟩ : ByteArray) [.string (⟨#[49, 48, 48, 13, 10]⟩ : ByteArray)] from rfl) (Reps.one (show Kd.M Kd.string _ _ _ (⟨#[48, 13, 10, 120, 58, 32, 121, 13, 10, 13, 10]⟩ : ByteArray) [.string (⟨#[48, 13, 10, 120, 58, 32, 121, 13, 10, 13, 10]⟩ : ByteArray)] from rfl) (Reps.none _ _))))))))); intro v429 w26 ho27 hb hg_ hnew_; clear hg_ hnew_; (rw [← Ny428.out] at ho27); have n0_ := Aside0.mk (Kd.R_lower ho27 (keep_size (w := w) (g := g) (row := none) (by repeat ((with_reducible exact HK.out))))); have n1_ := Aside0.mk (IsS93.below (by repeat ((with_reducible exact HI0.out))) hb); have n2_ := Aside0.mk (KeepBut.trans (by repeat ((with_reducible exact HK.out))) (KeepBut.of_below hb g none) (.inl rfl)); have n3_ := Aside0.mk (below_step (by repeat ((with_reducible exact HB.out))) hb); clear HI0; clear HK; clear HB; have HO430 := n0_; have HI0 := n1_; have HK := n2_; have HB := n3_; clear n0_ n1_ n2_ n3_; clear hb ho27; obtain ⟨Ao28, co28, eo28⟩ := Kd.R_slice HO430.out; subst eo28; have p431 : 0 ≤ ((ji23) : Int) := of_decide_eq_true (by (with_reducible assumption)); have q431 : (ji23) < (y428.length : Int) := of_decide_eq_true (by (with_reducible assumption)); obtain ⟨ad431, e431, hx431_0⟩ := Kd.at_string (Kd.R_reads' HO430.out).2.2 (ji23) p431 q431; cases e431; replace p431 := eq_true p431; replace q431 := eq_true q431))
                  go_ret
                  exact ⟨by rfl, by repeat ((with_reducible exact HI0.out)), by repeat ((with_reducible exact HB.out)), by repeat ((with_reducible exact HK.out))⟩
                · rw [if_neg c25] at H
                  exact absurd H (by simp)
              · rw [if_neg c24] at H
                exact absurd H (by simp)
            · rw [if_neg c22] at H
              have c22b0 : (t412 == 4) = false := beq_eq_false_iff_ne.mpr c22
              have c22b1 : (t412 != 4) = true := bne_iff_ne.mpr c22
              by_cases c29 : t412 = 5
              · rw [if_pos c29] at H
                have c29b0 : (t412 == 5) = true := beq_iff_eq.mpr c29
                have c29b1 : (t412 != 5) = false := bne_eq_false_iff_eq.mpr c29
                clear c29
                have H' := Aside0.mk H
                clear H
                go_wp2
                go_loopg [5, 7] kj5 (fun kq v5 v7 w' => ∃ (x5_2 : ByteArray) (x7_2 : Int), v5 = .string x5_2 ∧ v7 = .int .i64 x7_2 ∧ Aside0 (spec_l11Body.l0 kq t415 x5_2 x7_2 s0_0 t421 t422 = some (r1, r2, r3)) ∧ Aside0 (kq ≤ kj5) ∧ Aside0 (IsS93 w0 w' g s0_0 t421 t422) ∧ Aside0 (KeepBut w w' g none) ∧ Aside0 (Below w0.heap.size w0 w'))
                case atStart => exact ⟨(t423), (0), (by rfl), (by rfl), H', ⟨Nat.le_refl _⟩, ⟨by repeat ((with_reducible exact HI0.out))⟩, ⟨by repeat ((with_reducible exact HK.out))⟩, ⟨by repeat ((with_reducible exact HB.out))⟩⟩
                case round =>
                  clear H'
                  clear c17
                  clear c17b0
                  clear c17b1
                  clear c20
                  clear c20b0
                  clear c20b1
                  clear c22
                  clear c22b0
                  clear c22b1
                  clear c29b0
                  clear c29b1
                  obtain ⟨x5_2, x7_2, rfl, rfl, HA, HK2, HI0, HK, HB⟩ := hrel
                  cases gk with
                  | zero => exact absurd HA.out (by simp [spec_l11Body.l0])
                  | succ k2 =>
                    have H := HA.out
                    clear HA
                    simp only [spec_l11Body.l0] at H
                    by_cases c30 : x7_2 < (wrap64 (4 + (Int.tmod t415 2)))
                    · rw [if_pos c30] at H
                      have c30b0 : decide (x7_2 < (wrap64 (4 + (Int.tmod t415 2)))) = true := decide_eq_true c30
                      clear c30
                      replace H := Option.bind_eq_some_iff.mp H
                      obtain ⟨t432, A310, H⟩ := H
                      replace H : (if 4 + t432.size ≤ 9223372036854775807 then (if ((⟨#[54, 51, 13, 10]⟩ : ByteArray) ++ t432).size + 2 ≤ 9223372036854775807 then (if (((⟨#[54, 51, 13, 10]⟩ : ByteArray) ++ t432) ++ (⟨#[13, 10]⟩ : ByteArray)).size + x5_2.size ≤ 9223372036854775807 then (spec_l11Body.l0 k2 t415 ((((⟨#[54, 51, 13, 10]⟩ : ByteArray) ++ t432) ++ (⟨#[13, 10]⟩ : ByteArray)) ++ x5_2) (wrap64 (x7_2 + 1)) s0_0 t421 t422) else (none)) else (none)) else (none)) = some (r1, r2, r3) := H
                      have A31 := Aside0.mk A310
                      clear A310
                      by_cases c32 : 4 + t432.size ≤ 9223372036854775807
                      · rw [if_pos c32] at H
                        have c32b0 := eq_true c32
                        have c32b1 : decide (4 + t432.size ≤ 9223372036854775807) = true := decide_eq_true c32
                        have c32b2 : (9223372036854775807 < 4 + t432.size) = False := eq_false (Nat.not_lt.2 c32)
                        by_cases c33 : ((⟨#[54, 51, 13, 10]⟩ : ByteArray) ++ t432).size + 2 ≤ 9223372036854775807
                        · rw [if_pos c33] at H
                          have c33b0 := eq_true c33
                          have c33b1 : decide (((⟨#[54, 51, 13, 10]⟩ : ByteArray) ++ t432).size + 2 ≤ 9223372036854775807) = true := decide_eq_true c33
                          have c33x : 4 + t432.size + 2 ≤ 9223372036854775807 := by have h_ := c33; (try simp only [ByteArray.size_append] at h_); exact h_
                          have c33x0 := eq_true c33x
                          have c33x2 : (9223372036854775807 < 4 + t432.size + 2) = False := eq_false (Nat.not_lt.2 c33x)
                          have c33b2 : (9223372036854775807 < ((⟨#[54, 51, 13, 10]⟩ : ByteArray) ++ t432).size + 2) = False := eq_false (Nat.not_lt.2 c33)
                          by_cases c34 : (((⟨#[54, 51, 13, 10]⟩ : ByteArray) ++ t432) ++ (⟨#[13, 10]⟩ : ByteArray)).size + x5_2.size ≤ 9223372036854775807
                          · rw [if_pos c34] at H
                            have c34b0 := eq_true c34
                            have c34b1 : decide ((((⟨#[54, 51, 13, 10]⟩ : ByteArray) ++ t432) ++ (⟨#[13, 10]⟩ : ByteArray)).size + x5_2.size ≤ 9223372036854775807) = true := decide_eq_true c34
                            have c34x : 4 + t432.size + 2 + x5_2.size ≤ 9223372036854775807 := by have h_ := c34; (try simp only [ByteArray.size_append] at h_); exact h_
                            have c34x0 := eq_true c34x
                            have c34x2 : (9223372036854775807 < 4 + t432.size + 2 + x5_2.size) = False := eq_false (Nat.not_lt.2 c34x)
                            have c34b2 : (9223372036854775807 < (((⟨#[54, 51, 13, 10]⟩ : ByteArray) ++ t432) ++ (⟨#[13, 10]⟩ : ByteArray)).size + x5_2.size) = False := eq_false (Nat.not_lt.2 c34)
                            have H' := Aside0.mk H
                            clear H
                            go_wp2_with (((with_reducible refine gate_callee (f := 54) rfl ?_); refine goesL_ (some 54) rfl rfl Try.func54 (by kernel_rfl) rfl #[.int .i64 99, .int .u8 97] rfl (by (try simp only [List.map_toArray, List.map_cons, List.map_nil]); rfl) ?_; (with_reducible refine (spec_l01Long.calls k2 99 97 t432 _ A31.out).mono ?_); rintro e w35 ⟨rfl, hb⟩; refine ⟨_, rfl, ?_⟩; have n0_ := Aside0.mk (IsS93.below (by repeat ((with_reducible exact HI0.out))) hb); have n1_ := Aside0.mk (KeepBut.trans (by repeat ((with_reducible exact HK.out))) (KeepBut.of_below hb g none) (.inl rfl)); have n2_ := Aside0.mk (below_step (by repeat ((with_reducible exact HB.out))) hb); clear HI0; clear HK; clear HB; have HI0 := n0_; have HK := n1_; have HB := n2_; clear n0_ n1_ n2_; (try clear hb); (try clear hb2); (try clear hk); (try clear hi)))
                            go_roundg k2
                            case measure => have := HJ5.out; have := HK2.out; omega
                            case rel => exact ⟨((((⟨#[54, 51, 13, 10]⟩ : ByteArray) ++ t432) ++ (⟨#[13, 10]⟩ : ByteArray)) ++ x5_2), (wrap64 (x7_2 + 1)), (by rfl), (by rfl), H', ⟨by have := HJ5.out; have := HK2.out; omega⟩, ⟨by repeat ((with_reducible exact HI0.out))⟩, ⟨by repeat ((with_reducible exact HK.out))⟩, ⟨by repeat ((with_reducible exact HB.out))⟩⟩
                          · rw [if_neg c34] at H
                            exact absurd H (by simp)
                        · rw [if_neg c33] at H
                          exact absurd H (by simp)
                      · rw [if_neg c32] at H
                        exact absurd H (by simp)
                    · rw [if_neg c30] at H
                      have c30b0 : decide (x7_2 < (wrap64 (4 + (Int.tmod t415 2)))) = false := decide_eq_false c30
                      clear c30
                      simp only [Option.some.injEq, Prod.mk.injEq] at H
                      obtain ⟨rfl, rfl, rfl⟩ := H
                      go_wp2
                      go_ret
                      exact ⟨by rfl, by repeat ((with_reducible exact HI0.out)), by repeat ((with_reducible exact HB.out)), by repeat ((with_reducible exact HK.out))⟩
              · rw [if_neg c29] at H
                have c29b0 : (t412 == 5) = false := beq_eq_false_iff_ne.mpr c29
                have c29b1 : (t412 != 5) = true := bne_iff_ne.mpr c29
                simp only [Option.some.injEq, Prod.mk.injEq] at H
                obtain ⟨rfl, rfl, rfl⟩ := H
                go_wp2
                go_ret
                exact ⟨by rfl, by repeat ((with_reducible exact HI0.out)), by repeat ((with_reducible exact HB.out)), by repeat ((with_reducible exact HK.out))⟩
def spec_DrawReadChunks.f (k : Nat) (l0 : List Int) : Option (ByteArray) := (spec_l01New.f k l0).bind fun bt433 => ((spec_l11Body.f k bt433.1 bt433.2.1 bt433.2.2).bind fun bt437 => (some bt437.1))
set_option maxHeartbeats 8000000 in
set_option maxRecDepth 100000 in
theorem spec_DrawReadChunks.calls (k : Nat) (A0 : Option Addr) (c0 : Nat) (l0 : List Int) (r : ByteArray) (w : World) (hr0 : Kd.C (Kd.int .u8) w A0 l0.length l0) (hc0 : l0.length ≤ c0) (h : spec_DrawReadChunks.f k l0 = some r) :
    Calls Try.prog 30 #[.slice A0 l0.length c0] w fun e w' => e = .returned (.string r) ∧ Below w.heap.size w w' := by
  have HR0 := Aside0.mk hr0
  have HC0 := Aside0.mk hc0
  clear hr0 hc0
  have HB := Aside0.mk (Below.refl w.heap.size w)
  have H : ((spec_l01New.f k l0).bind fun bt433 => ((spec_l11Body.f k bt433.1 bt433.2.1 bt433.2.2).bind fun bt437 => (some bt437.1))) = some r := h
  clear h
  replace H := Option.bind_eq_some_iff.mp H
  obtain ⟨⟨t433, t434, t435⟩, A20, H⟩ := H
  replace H : ((spec_l11Body.f k t433 t434 t435).bind fun bt437 => (some bt437.1)) = some r := H
  have A2 := Aside0.mk A20
  clear A20
  replace H := Option.bind_eq_some_iff.mp H
  obtain ⟨⟨t437, t438, t439⟩, A30, H⟩ := H
  replace H : (some t437) = some r := H
  have A3 := Aside0.mk A30
  clear A30
  obtain rfl := Option.some.inj H
  go_enter Try.func30, Try.ntmps30
  go_wp2_with (first | ((with_reducible refine gate_callee (f := 42) rfl ?_); refine goesL_ (some 4) rfl rfl Try.func42 (by kernel_rfl) rfl #[.slice A0 l0.length c0] rfl (by (try simp only [List.map_toArray, List.map_cons, List.map_nil]); rfl) ?_; (with_reducible refine (spec_l01New.calls k _ _ l0 t433 t434 t435 w _ ?side1 ?side2 ?side3 A2.out).mono ?_); (case side1 => repeat ((with_reducible exact HB.out))); (case side2 => exact HR0.out); (case side3 => exact HC0.out); rintro e w4 ⟨g436, rfl, hi, hb, hb2⟩; refine ⟨_, rfl, ?_⟩; have n0_ := Aside0.mk (hb); have n1_ := Aside0.mk (hi); clear HB; have HB := n0_; have HI436 := n1_; clear n0_ n1_; (try clear hb); (try clear hb2); (try clear hk); (try clear hi)) | ((with_reducible refine gate_callee (f := 53) rfl ?_); refine goesL_ (some 5) rfl rfl Try.func53 (by kernel_rfl) rfl #[.pointer (some ⟨g436, 0, none⟩)] rfl (by (try simp only [List.map_toArray, List.map_cons, List.map_nil]); rfl) ?_; (with_reducible refine (spec_l11Body.calls k g436 t433 t434 t435 t437 t438 t439 w _ ?side1 ?side2 A3.out).mono ?_); (case side1 => repeat ((with_reducible exact HI436.out))); (case side2 => repeat ((with_reducible exact HB.out))); rintro e w5 ⟨rfl, hi, hb, hk⟩; refine ⟨_, rfl, ?_⟩; have n0_ := Aside0.mk (hb); have n1_ := Aside0.mk (hi); clear HB; clear HI436; have HB := n0_; have HI436 := n1_; clear n0_ n1_; (try clear hb); (try clear hb2); (try clear hk); (try clear hi)))
  go_ret
  exact ⟨by rfl, by repeat ((with_reducible exact HB.out))⟩
def spec_DrawChunkText.l0 : Nat → List ByteArray → List Int → Int → Int → Option (List ByteArray)
  | 0, _, _, _, _ => none
  | k + 1, x4, x444000, x444001, x444002 => (spec_l01Below.f x444000 x444001 x444002 2).bind fun bt462 => (if (x4.length : Int) < (wrap64 (10 + bt462.1)) then (if x4.length < 8796093022208 then (spec_DrawChunkText.l0 k (x4 ++ [(⟨#[120]⟩ : ByteArray)]) x444000 bt462.2.1 bt462.2.2) else (none)) else (some x4))
def spec_DrawChunkText.f (k : Nat) (l0 : List Int) : Option (List ByteArray) := (spec_l01New.f k l0).bind fun bt440 => ((spec_l11Parts.f k bt440.1 bt440.2.1 bt440.2.2).bind fun bt444 => ((spec_l01Below.f bt440.1 bt444.2.1 bt444.2.2 8).bind fun bt449 => (if bt449.1 = 0 then (if bt444.1.length < 8796093022208 then (some (bt444.1 ++ [(⟨#[]⟩ : ByteArray)])) else (none)) else (if bt449.1 = 1 then ((spec_l01Below.f bt440.1 bt449.2.1 bt449.2.2 2).bind fun bt455 => ((spec_l01Long.f k (wrap64 (99 + bt455.1)) 97).bind fun t458 => (if bt444.1.length < 8796093022208 then (some (bt444.1 ++ [t458])) else (none)))) else (if bt449.1 = 2 then (spec_DrawChunkText.l0 k bt444.1 bt440.1 bt449.2.1 bt449.2.2) else (some bt444.1))))))
set_option maxHeartbeats 8000000 in
set_option maxRecDepth 100000 in
theorem spec_DrawChunkText.calls (k : Nat) (A0 : Option Addr) (c0 : Nat) (l0 : List Int) (r : List ByteArray) (w : World) (hr0 : Kd.C (Kd.int .u8) w A0 l0.length l0) (hc0 : l0.length ≤ c0) (h : spec_DrawChunkText.f k l0 = some r) :
    Calls Try.prog 31 #[.slice A0 l0.length c0] w fun e w' => ∃ v0_ : Value, e = .returned (v0_) ∧ Kd.R Kd.string 9 w' w.heap.size (fun _ => True) v0_ r ∧ Below w.heap.size w w' := by
  have HR0 := Aside0.mk hr0
  have HC0 := Aside0.mk hc0
  clear hr0 hc0
  have HB := Aside0.mk (Below.refl w.heap.size w)
  have H : ((spec_l01New.f k l0).bind fun bt440 => ((spec_l11Parts.f k bt440.1 bt440.2.1 bt440.2.2).bind fun bt444 => ((spec_l01Below.f bt440.1 bt444.2.1 bt444.2.2 8).bind fun bt449 => (if bt449.1 = 0 then (if bt444.1.length < 8796093022208 then (some (bt444.1 ++ [(⟨#[]⟩ : ByteArray)])) else (none)) else (if bt449.1 = 1 then ((spec_l01Below.f bt440.1 bt449.2.1 bt449.2.2 2).bind fun bt455 => ((spec_l01Long.f k (wrap64 (99 + bt455.1)) 97).bind fun t458 => (if bt444.1.length < 8796093022208 then (some (bt444.1 ++ [t458])) else (none)))) else (if bt449.1 = 2 then (spec_DrawChunkText.l0 k bt444.1 bt440.1 bt449.2.1 bt449.2.2) else (some bt444.1))))))) = some r := h
  clear h
  replace H := Option.bind_eq_some_iff.mp H
  obtain ⟨⟨t440, t441, t442⟩, A20, H⟩ := H
  replace H : ((spec_l11Parts.f k t440 t441 t442).bind fun bt444 => ((spec_l01Below.f t440 bt444.2.1 bt444.2.2 8).bind fun bt449 => (if bt449.1 = 0 then (if bt444.1.length < 8796093022208 then (some (bt444.1 ++ [(⟨#[]⟩ : ByteArray)])) else (none)) else (if bt449.1 = 1 then ((spec_l01Below.f t440 bt449.2.1 bt449.2.2 2).bind fun bt455 => ((spec_l01Long.f k (wrap64 (99 + bt455.1)) 97).bind fun t458 => (if bt444.1.length < 8796093022208 then (some (bt444.1 ++ [t458])) else (none)))) else (if bt449.1 = 2 then (spec_DrawChunkText.l0 k bt444.1 t440 bt449.2.1 bt449.2.2) else (some bt444.1)))))) = some r := H
  have A2 := Aside0.mk A20
  clear A20
  replace H := Option.bind_eq_some_iff.mp H
  obtain ⟨⟨t444, t447, t448⟩, A30, H⟩ := H
  replace H : ((spec_l01Below.f t440 t447 t448 8).bind fun bt449 => (if bt449.1 = 0 then (if t444.length < 8796093022208 then (some (t444 ++ [(⟨#[]⟩ : ByteArray)])) else (none)) else (if bt449.1 = 1 then ((spec_l01Below.f t440 bt449.2.1 bt449.2.2 2).bind fun bt455 => ((spec_l01Long.f k (wrap64 (99 + bt455.1)) 97).bind fun t458 => (if t444.length < 8796093022208 then (some (t444 ++ [t458])) else (none)))) else (if bt449.1 = 2 then (spec_DrawChunkText.l0 k t444 t440 bt449.2.1 bt449.2.2) else (some t444))))) = some r := H
  have A3 := Aside0.mk A30
  clear A30
  replace H := Option.bind_eq_some_iff.mp H
  obtain ⟨⟨t449, t450, t451⟩, A40, H⟩ := H
  replace H : (if t449 = 0 then (if t444.length < 8796093022208 then (some (t444 ++ [(⟨#[]⟩ : ByteArray)])) else (none)) else (if t449 = 1 then ((spec_l01Below.f t440 t450 t451 2).bind fun bt455 => ((spec_l01Long.f k (wrap64 (99 + bt455.1)) 97).bind fun t458 => (if t444.length < 8796093022208 then (some (t444 ++ [t458])) else (none)))) else (if t449 = 2 then (spec_DrawChunkText.l0 k t444 t440 t450 t451) else (some t444)))) = some r := H
  have A4 := Aside0.mk A40
  clear A40
  have HS5 := Aside0.mk H
  clear H
  go_enter Try.func31, Try.ntmps31
  go_upto_if 11 with (first | ((with_reducible refine gate_callee (f := 42) rfl ?_); refine goesL_ (some 6) rfl rfl Try.func42 (by kernel_rfl) rfl #[.slice A0 l0.length c0] rfl (by (try simp only [List.map_toArray, List.map_cons, List.map_nil]); rfl) ?_; (with_reducible refine (spec_l01New.calls k _ _ l0 t440 t441 t442 w _ ?side1 ?side2 ?side3 A2.out).mono ?_); (case side1 => repeat ((with_reducible exact HB.out))); (case side2 => exact HR0.out); (case side3 => exact HC0.out); rintro e w6 ⟨g443, rfl, hi, hb, hb2⟩; refine ⟨_, rfl, ?_⟩; have n0_ := Aside0.mk (hb); have n1_ := Aside0.mk (hi); clear HB; have HB := n0_; have HI443 := n1_; clear n0_ n1_; (try clear hb); (try clear hb2); (try clear hk); (try clear hi)) | ((with_reducible refine gate_callee (f := 41) rfl ?_); refine goesL_ (some 8) rfl rfl Try.func41 (by kernel_rfl) rfl #[.pointer (some ⟨g443, 0, none⟩)] rfl (by (try simp only [List.map_toArray, List.map_cons, List.map_nil]); rfl) ?_; (with_reducible refine (spec_l11Parts.calls k g443 t440 t441 t442 t444 t447 t448 w _ ?side1 ?side2 A3.out).mono ?_); (case side1 => repeat ((with_reducible exact HI443.out))); (case side2 => repeat ((with_reducible exact HB.out))); rintro e w7 ⟨v445, rfl, ho0, hi, hb, hk⟩; refine ⟨_, rfl, ?_⟩; have n0_ := Aside0.mk (Kd.R_lower ho0 (below_size (by repeat ((with_reducible exact HB.out))))); have n1_ := Aside0.mk (hb); have n2_ := Aside0.mk (hi); clear HB; clear HI443; have HO446 := n0_; have HB := n1_; have HI443 := n2_; clear n0_ n1_ n2_; (try clear hb); (try clear hb2); (try clear hk); (try clear hi); (try clear ho0)) | ((with_reducible refine gate_callee (f := 44) rfl ?_); refine goesL_ (some 10) rfl rfl Try.func44 (by kernel_rfl) rfl #[.pointer (some ⟨g443, 0, none⟩), .int .i64 8] rfl (by (try simp only [List.map_toArray, List.map_cons, List.map_nil]); rfl) ?_; (with_reducible refine (spec_l01Below.calls g443 t440 t447 t448 8 t449 t450 t451 w _ ?side1 ?side2 A4.out).mono ?_); (case side1 => repeat ((with_reducible exact HI443.out))); (case side2 => repeat ((with_reducible exact HB.out))); rintro e w8 ⟨rfl, hi, hb, hk⟩; refine ⟨_, rfl, ?_⟩; have n0_ := Aside0.mk (Kd.R_mono (Kd.R_keep (IsS93.apart (show IsS93 w _ g443 t440 t447 t448 from by repeat ((with_reducible exact HI443.out))) (by (with_reducible repeat (first | apply Kd.R_alloc | apply Kd.R_drewN | apply Kd.R_drew )); exact HO446.out) (by decide)) hk (fun _ h => h.2)) (fun _ h => h.1)); have n1_ := Aside0.mk (hb); have n2_ := Aside0.mk (hi); clear HO446; clear HB; clear HI443; have HO446 := n0_; have HB := n1_; have HI443 := n2_; clear n0_ n1_ n2_; (try clear hb); (try clear hb2); (try clear hk); (try clear hi)))
  (try simp only [Act.put, List.setIfInBounds_toArray, List.set_cons_zero, List.set_cons_succ])
  have H := HS5.out
  clear HS5
  by_cases c9 : t449 = 0
  · rw [if_pos c9] at H
    have c9b0 : (t449 == 0) = true := beq_iff_eq.mpr c9
    have c9b1 : (t449 != 0) = false := bne_eq_false_iff_eq.mpr c9
    clear c9
    (rw [c9b0])
    by_cases c10 : t444.length < 8796093022208
    · rw [if_pos c10] at H
      have LMc10 := Aside0.mk c10
      clear c10
      obtain ⟨y452, hy452⟩ : ∃ y_ : List ByteArray, y_ = (t444 ++ [(⟨#[]⟩ : ByteArray)]) := ⟨_, rfl⟩
      replace H : (some y452) = some r := by (rw [hy452]; with_reducible exact H)
      have Ny452 := Aside0.mk hy452
      clear hy452
      obtain rfl := Option.some.inj H
      go_wp2_with (((with_reducible refine gate_builtin (b := .append) (xs := #[.tmp 13, .tmp 14]) rfl ?_); at_builtin; refine Kd.R_append Kd.string (w0 := w) w.heap.size rfl (.tmp 13) (.tmp 14) 28 9 (.string ⟨#[]⟩) 16 rfl Try.underlying28 info9 rfl (by decide) (by omega) v445 t444 (⟨#[]⟩ : ByteArray) [.string (⟨#[]⟩ : ByteArray)] (fun _ => True) (fun _ => False) rfl rfl ?aP (fun _ hk => hk.elim) ?aF ?aO ?aB ?aS ?aL ?_; (case aP => exact rfl); (case aB => exact (by repeat ((with_reducible exact HB.out)))); (case aF => exact (fun _ _ => trivial)); (case aO => exact (by (with_reducible repeat (first | apply Kd.R_alloc | apply Kd.R_drewN | apply Kd.R_drew )); exact HO446.out)); (case aS => exact (below_size (by repeat ((with_reducible exact HB.out))))); (case aL => have := LMc10.out; omega); intro v453 w11 ho hb hg hat; rw [← Ny452.out] at ho; have n0_ := Aside0.mk (IsS93.grown (w0 := w) (g := g443) (f0 := t440) (f1 := t450) (f2 := t451) (by repeat ((with_reducible exact HI443.out))) hg (IsS93.own_ne HI443.out HO446.out (by decide))); have n1_ := Aside0.mk (hb); have n2_ := Aside0.mk (ho); clear HI443; clear HB; clear HO446; have HI443 := n0_; have HB := n1_; have HO454 := n2_; clear n0_ n1_ n2_; clear ho hb hg hat))
      go_ret
      exact ⟨_, by rfl, by (with_reducible repeat (first | apply Kd.R_alloc | apply Kd.R_drewN | apply Kd.R_drew )); exact HO454.out, by repeat ((with_reducible exact HB.out))⟩
    · rw [if_neg c10] at H
      exact absurd H (by simp)
  · rw [if_neg c9] at H
    have c9b0 : (t449 == 0) = false := beq_eq_false_iff_ne.mpr c9
    have c9b1 : (t449 != 0) = true := bne_iff_ne.mpr c9
    (rw [c9b0])
    by_cases c12 : t449 = 1
    · rw [if_pos c12] at H
      have c12b0 : (t449 == 1) = true := beq_iff_eq.mpr c12
      have c12b1 : (t449 != 1) = false := bne_eq_false_iff_eq.mpr c12
      clear c12
      replace H := Option.bind_eq_some_iff.mp H
      obtain ⟨⟨t455, t456, t457⟩, A130, H⟩ := H
      replace H : ((spec_l01Long.f k (wrap64 (99 + t455)) 97).bind fun t458 => (if t444.length < 8796093022208 then (some (t444 ++ [t458])) else (none))) = some r := H
      have A13 := Aside0.mk A130
      clear A130
      replace H := Option.bind_eq_some_iff.mp H
      obtain ⟨t458, A140, H⟩ := H
      replace H : (if t444.length < 8796093022208 then (some (t444 ++ [t458])) else (none)) = some r := H
      have A14 := Aside0.mk A140
      clear A140
      by_cases c15 : t444.length < 8796093022208
      · rw [if_pos c15] at H
        have LMc15 := Aside0.mk c15
        clear c15
        obtain ⟨y459, hy459⟩ : ∃ y_ : List ByteArray, y_ = (t444 ++ [t458]) := ⟨_, rfl⟩
        replace H : (some y459) = some r := by (rw [hy459]; with_reducible exact H)
        have Ny459 := Aside0.mk hy459
        clear hy459
        obtain rfl := Option.some.inj H
        go_wp2_with (first | ((with_reducible refine gate_callee (f := 44) rfl ?_); refine goesL_ (some 20) rfl rfl Try.func44 (by kernel_rfl) rfl #[.pointer (some ⟨g443, 0, none⟩), .int .i64 2] rfl (by (try simp only [List.map_toArray, List.map_cons, List.map_nil]); rfl) ?_; (with_reducible refine (spec_l01Below.calls g443 t440 t450 t451 2 t455 t456 t457 w _ ?side1 ?side2 A13.out).mono ?_); (case side1 => repeat ((with_reducible exact HI443.out))); (case side2 => repeat ((with_reducible exact HB.out))); rintro e w16 ⟨rfl, hi, hb, hk⟩; refine ⟨_, rfl, ?_⟩; have n0_ := Aside0.mk (Kd.R_mono (Kd.R_keep (IsS93.apart (show IsS93 w _ g443 t440 t450 t451 from by repeat ((with_reducible exact HI443.out))) (by (with_reducible repeat (first | apply Kd.R_alloc | apply Kd.R_drewN | apply Kd.R_drew )); exact HO446.out) (by decide)) hk (fun _ h => h.2)) (fun _ h => h.1)); have n1_ := Aside0.mk (hb); have n2_ := Aside0.mk (hi); clear HO446; clear HB; clear HI443; have HO446 := n0_; have HB := n1_; have HI443 := n2_; clear n0_ n1_ n2_; (try clear hb); (try clear hb2); (try clear hk); (try clear hi)) | ((with_reducible refine gate_callee (f := 54) rfl ?_); refine goesL_ (some 22) rfl rfl Try.func54 (by kernel_rfl) rfl #[.int .i64 (wrap64 (99 + t455)), .int .u8 97] rfl (by (try simp only [List.map_toArray, List.map_cons, List.map_nil]); rfl) ?_; (with_reducible refine (spec_l01Long.calls k (wrap64 (99 + t455)) 97 t458 _ A14.out).mono ?_); rintro e w17 ⟨rfl, hb⟩; refine ⟨_, rfl, ?_⟩; have n0_ := Aside0.mk (Kd.R_below (by (with_reducible repeat (first | apply Kd.R_alloc | apply Kd.R_drewN | apply Kd.R_drew )); exact HO446.out) hb); have n1_ := Aside0.mk (IsS93.below (by repeat ((with_reducible exact HI443.out))) hb); have n2_ := Aside0.mk (below_step (by repeat ((with_reducible exact HB.out))) hb); clear HO446; clear HI443; clear HB; have HO446 := n0_; have HI443 := n1_; have HB := n2_; clear n0_ n1_ n2_; (try clear hb); (try clear hb2); (try clear hk); (try clear hi)) | ((with_reducible refine gate_builtin (b := .append) (xs := #[.tmp 18, .tmp 23]) rfl ?_); at_builtin; refine Kd.R_append Kd.string (w0 := w) w.heap.size rfl (.tmp 18) (.tmp 23) 28 9 (.string ⟨#[]⟩) 16 rfl Try.underlying28 info9 rfl (by decide) (by omega) v445 t444 t458 [.string t458] (fun _ => True) (fun _ => False) rfl rfl ?aP (fun _ hk => hk.elim) ?aF ?aO ?aB ?aS ?aL ?_; (case aP => exact rfl); (case aB => exact (by repeat ((with_reducible exact HB.out)))); (case aF => exact (fun _ _ => trivial)); (case aO => exact (by (with_reducible repeat (first | apply Kd.R_alloc | apply Kd.R_drewN | apply Kd.R_drew )); exact HO446.out)); (case aS => exact (below_size (by repeat ((with_reducible exact HB.out))))); (case aL => have := LMc15.out; omega); intro v460 w18 ho hb hg hat; rw [← Ny459.out] at ho; have n0_ := Aside0.mk (IsS93.grown (w0 := w) (g := g443) (f0 := t440) (f1 := t456) (f2 := t457) (by repeat ((with_reducible exact HI443.out))) hg (IsS93.own_ne HI443.out HO446.out (by decide))); have n1_ := Aside0.mk (hb); have n2_ := Aside0.mk (ho); clear HI443; clear HB; clear HO446; have HI443 := n0_; have HB := n1_; have HO461 := n2_; clear n0_ n1_ n2_; clear ho hb hg hat))
        go_ret
        exact ⟨_, by rfl, by (with_reducible repeat (first | apply Kd.R_alloc | apply Kd.R_drewN | apply Kd.R_drew )); exact HO461.out, by repeat ((with_reducible exact HB.out))⟩
      · rw [if_neg c15] at H
        exact absurd H (by simp)
    · rw [if_neg c12] at H
      have c12b0 : (t449 == 1) = false := beq_eq_false_iff_ne.mpr c12
      have c12b1 : (t449 != 1) = true := bne_iff_ne.mpr c12
      by_cases c19 : t449 = 2
      · rw [if_pos c19] at H
        have c19b0 : (t449 == 2) = true := beq_iff_eq.mpr c19
        have c19b1 : (t449 != 2) = false := bne_eq_false_iff_eq.mpr c19
        clear c19
        have H' := Aside0.mk H
        clear H
        go_wp2
        go_loopg [4] k (fun kq v4 w' => ∃ (x4_1 : List ByteArray) (x444001_1 : Int) (x444002_1 : Int), Aside0 (spec_DrawChunkText.l0 kq x4_1 t440 x444001_1 x444002_1 = some r) ∧ Aside0 (kq ≤ k) ∧ Aside0 (Kd.R Kd.string 9 w' w.heap.size (fun _ => True) v4 x4_1) ∧ Aside0 (IsS93 w w' g443 t440 x444001_1 x444002_1) ∧ Aside0 (Below w.heap.size w w'))
        case atStart => exact ⟨(t444), (t450), (t451), H', ⟨Nat.le_refl _⟩, ⟨by (with_reducible repeat (first | apply Kd.R_alloc | apply Kd.R_drewN | apply Kd.R_drew )); exact HO446.out⟩, ⟨by repeat ((with_reducible exact HI443.out))⟩, ⟨by repeat ((with_reducible exact HB.out))⟩⟩
        case round =>
          clear H'
          clear c9
          clear c9b0
          clear c9b1
          clear c12
          clear c12b0
          clear c12b1
          clear c19b0
          clear c19b1
          obtain ⟨x4_1, x444001_1, x444002_1, HA, HK1, HO_4, HI443, HB⟩ := hrel
          cases gk with
          | zero => exact absurd HA.out (by simp [spec_DrawChunkText.l0])
          | succ k1 =>
            have H := HA.out
            clear HA
            simp only [spec_DrawChunkText.l0] at H
            replace H := Option.bind_eq_some_iff.mp H
            obtain ⟨⟨t462, t463, t464⟩, A200, H⟩ := H
            replace H : (if (x4_1.length : Int) < (wrap64 (10 + t462)) then (if x4_1.length < 8796093022208 then (spec_DrawChunkText.l0 k1 (x4_1 ++ [(⟨#[120]⟩ : ByteArray)]) t440 t463 t464) else (none)) else (some x4_1)) = some r := H
            have A20 := Aside0.mk A200
            clear A200
            have HS21 := Aside0.mk H
            clear H
            obtain ⟨Ao22, co22, eo22⟩ := Kd.R_slice HO_4.out
            subst eo22
            go_upto_if 32 with (((with_reducible refine gate_callee (f := 44) rfl ?_); refine goesL_ (some 30) rfl rfl Try.func44 (by kernel_rfl) rfl #[.pointer (some ⟨g443, 0, none⟩), .int .i64 2] rfl (by (try simp only [List.map_toArray, List.map_cons, List.map_nil]); rfl) ?_; (with_reducible refine (spec_l01Below.calls g443 t440 x444001_1 x444002_1 2 t462 t463 t464 w _ ?side1 ?side2 A20.out).mono ?_); (case side1 => repeat ((with_reducible exact HI443.out))); (case side2 => repeat ((with_reducible exact HB.out))); rintro e w23 ⟨rfl, hi, hb, hk⟩; refine ⟨_, rfl, ?_⟩; have n0_ := Aside0.mk (Kd.R_mono (Kd.R_keep (IsS93.apart (show IsS93 w _ g443 t440 x444001_1 x444002_1 from by repeat ((with_reducible exact HI443.out))) (by (with_reducible repeat (first | apply Kd.R_alloc | apply Kd.R_drewN | apply Kd.R_drew )); exact HO_4.out) (by decide)) hk (fun _ h => h.2)) (fun _ h => h.1)); have n1_ := Aside0.mk (hb); have n2_ := Aside0.mk (hi); clear HO_4; clear HB; clear HI443; have HO_4 := n0_; have HB := n1_; have HI443 := n2_; clear n0_ n1_ n2_; (try clear hb); (try clear hb2); (try clear hk); (try clear hi)))
            (try simp only [Act.put, List.setIfInBounds_toArray, List.set_cons_zero, List.set_cons_succ])
            have H := HS21.out
            clear HS21
            by_cases c24 : (x4_1.length : Int) < (wrap64 (10 + t462))
            · rw [if_pos c24] at H
              have c24b0 : decide ((x4_1.length : Int) < (wrap64 (10 + t462))) = true := decide_eq_true c24
              clear c24
              (rw [c24b0])
              by_cases c25 : x4_1.length < 8796093022208
              · rw [if_pos c25] at H
                have LMc25 := Aside0.mk c25
                clear c25
                obtain ⟨y465, hy465⟩ : ∃ y_ : List ByteArray, y_ = (x4_1 ++ [(⟨#[120]⟩ : ByteArray)]) := ⟨_, rfl⟩
                replace H : (spec_DrawChunkText.l0 k1 y465 t440 t463 t464) = some r := by (rw [hy465]; with_reducible exact H)
                have Ny465 := Aside0.mk hy465
                clear hy465
                have H' := Aside0.mk H
                clear H
                go_wp2_with (((with_reducible refine gate_builtin (b := .append) (xs := #[.tmp 33, .tmp 34]) rfl ?_); at_builtin; refine Kd.R_append Kd.string (w0 := w) w.heap.size rfl (.tmp 33) (.tmp 34) 28 9 (.string ⟨#[]⟩) 16 rfl Try.underlying28 info9 rfl (by decide) (by omega) (.slice Ao22 x4_1.length co22) x4_1 (⟨#[120]⟩ : ByteArray) [.string (⟨#[120]⟩ : ByteArray)] (fun _ => True) (fun _ => False) rfl rfl ?aP (fun _ hk => hk.elim) ?aF ?aO ?aB ?aS ?aL ?_; (case aP => exact rfl); (case aB => exact (by repeat ((with_reducible exact HB.out)))); (case aF => exact (fun _ _ => trivial)); (case aO => exact (by (with_reducible repeat (first | apply Kd.R_alloc | apply Kd.R_drewN | apply Kd.R_drew )); exact HO_4.out)); (case aS => exact (below_size (by repeat ((with_reducible exact HB.out))))); (case aL => have := LMc25.out; omega); intro v466 w26 ho hb hg hat; rw [← Ny465.out] at ho; have n0_ := Aside0.mk (IsS93.grown (w0 := w) (g := g443) (f0 := t440) (f1 := t463) (f2 := t464) (by repeat ((with_reducible exact HI443.out))) hg (IsS93.own_ne HI443.out HO_4.out (by decide))); have n1_ := Aside0.mk (hb); have n2_ := Aside0.mk (ho); clear HI443; clear HB; clear HO_4; have HI443 := n0_; have HB := n1_; have HO467 := n2_; clear n0_ n1_ n2_; clear ho hb hg hat))
                go_roundg k1
                case measure => have := HK1.out; omega
                case rel => exact ⟨(y465), (t463), (t464), H', ⟨by have := HK1.out; omega⟩, ⟨by (with_reducible repeat (first | apply Kd.R_alloc | apply Kd.R_drewN | apply Kd.R_drew )); exact HO467.out⟩, ⟨by repeat ((with_reducible exact HI443.out))⟩, ⟨by repeat ((with_reducible exact HB.out))⟩⟩
              · rw [if_neg c25] at H
                exact absurd H (by simp)
            · rw [if_neg c24] at H
              have c24b0 : decide ((x4_1.length : Int) < (wrap64 (10 + t462))) = false := decide_eq_false c24
              clear c24
              (rw [c24b0])
              obtain rfl := Option.some.inj H
              go_wp2
              go_ret
              exact ⟨_, by rfl, by (with_reducible repeat (first | apply Kd.R_alloc | apply Kd.R_drewN | apply Kd.R_drew )); exact HO_4.out, by repeat ((with_reducible exact HB.out))⟩
      · rw [if_neg c19] at H
        have c19b0 : (t449 == 2) = false := beq_eq_false_iff_ne.mpr c19
        have c19b1 : (t449 != 2) = true := bne_iff_ne.mpr c19
        obtain rfl := Option.some.inj H
        go_wp2
        go_ret
        exact ⟨_, by rfl, by (with_reducible repeat (first | apply Kd.R_alloc | apply Kd.R_drewN | apply Kd.R_drew )); exact HO446.out, by repeat ((with_reducible exact HB.out))⟩
def spec_l01Pick.f (s0_0 : List Int) (s0_1 : Int) (s0_2 : Int) (l1 : List ByteArray) : Option (ByteArray × Int × Int) := (spec_l01Below.f s0_0 s0_1 s0_2 (l1.length : Int)).bind fun bt468 => (if 0 ≤ bt468.1 then (if bt468.1 < (l1.length : Int) then (some (rdOf ByteArray.empty l1 bt468.1, bt468.2.1, bt468.2.2)) else (none)) else (none))
set_option maxHeartbeats 8000000 in
set_option maxRecDepth 100000 in
theorem spec_l01Pick.calls (g : Nat) (s0_0 : List Int) (s0_1 : Int) (s0_2 : Int) (A1 : Option Addr) (c1 : Nat) (l1 : List ByteArray) (r1 : ByteArray) (r2 : Int) (r3 : Int) (w0 w : World) (hI : IsS93 w0 w g s0_0 s0_1 s0_2) (hB : Below w0.heap.size w0 w) (hr1 : Kd.C Kd.string w A1 l1.length l1) (hc1 : l1.length ≤ c1) (hf1 : ∀ ad, A1 = some ad → 0 < l1.length → ad.block ≠ g) (h : spec_l01Pick.f s0_0 s0_1 s0_2 l1 = some (r1, r2, r3)) :
    Calls Try.prog 67 #[.pointer (some ⟨g, 0, none⟩), .slice A1 l1.length c1] w fun e w' => e = .returned (.string r1) ∧ IsS93 w0 w' g s0_0 r2 r3 ∧ Below w0.heap.size w0 w' ∧ KeepBut w w' g none := by
  have HR1 := Aside0.mk hr1
  have HC1 := Aside0.mk hc1
  clear hr1 hc1
  have HI0 := Aside0.mk hI
  have HK := Aside0.mk (KeepBut.refl w g none)
  have HL := Aside0.mk hB.size
  clear hI
  have HW0 := Aside0.mk hB.size
  have HB := Aside0.mk hB
  clear hB
  have H : ((spec_l01Below.f s0_0 s0_1 s0_2 (l1.length : Int)).bind fun bt468 => (if 0 ≤ bt468.1 then (if bt468.1 < (l1.length : Int) then (some (rdOf ByteArray.empty l1 bt468.1, bt468.2.1, bt468.2.2)) else (none)) else (none))) = some (r1, r2, r3) := h
  clear h
  replace H := Option.bind_eq_some_iff.mp H
  obtain ⟨⟨t468, t469, t470⟩, A30, H⟩ := H
  replace H : (if 0 ≤ t468 then (if t468 < (l1.length : Int) then (some (rdOf ByteArray.empty l1 t468, t469, t470)) else (none)) else (none)) = some (r1, r2, r3) := H
  have A3 := Aside0.mk A30
  clear A30
  by_cases c4 : 0 ≤ t468
  · rw [if_pos c4] at H
    have c4b0 : decide (0 ≤ t468) = true := decide_eq_true c4
    clear c4
    by_cases c5 : t468 < (l1.length : Int)
    · rw [if_pos c5] at H
      have c5b0 : decide (t468 < (l1.length : Int)) = true := decide_eq_true c5
      clear c5
      simp only [Option.some.injEq, Prod.mk.injEq] at H
      obtain ⟨rfl, rfl, rfl⟩ := H
      go_enter Try.func67, Try.ntmps67
      go_wp2_with (((with_reducible refine gate_callee (f := 44) rfl ?_); refine goesL_ (some 9) rfl rfl Try.func44 (by kernel_rfl) rfl #[.pointer (some ⟨g, 0, none⟩), .int .i64 (l1.length : Int)] rfl (by (try simp only [List.map_toArray, List.map_cons, List.map_nil]); rfl) ?_; (with_reducible refine (spec_l01Below.calls g s0_0 s0_1 s0_2 (l1.length : Int) t468 t469 t470 w0 _ ?side1 ?side2 A3.out).mono ?_); (case side1 => repeat ((with_reducible exact HI0.out))); (case side2 => repeat ((with_reducible exact HB.out))); rintro e w6 ⟨rfl, hi, hb, hk⟩; refine ⟨_, rfl, ?_⟩; have n0_ := Aside0.mk (KeepBut.trans (by repeat ((with_reducible exact HK.out))) hk (.inl rfl)); have n1_ := Aside0.mk (hb); have n2_ := Aside0.mk (hi); clear HK; clear HB; clear HI0; have HK := n0_; have HB := n1_; have HI0 := n2_; clear n0_ n1_ n2_; (try clear hb); (try clear hb2); (try clear hk); (try clear hi); have p471 : 0 ≤ (t468 : Int) := of_decide_eq_true (by (with_reducible assumption)); have q471 : t468 < (l1.length : Int) := of_decide_eq_true (by (with_reducible assumption)); obtain ⟨ad471, e471, hx471_0⟩ := Kd.at_string HR1.out t468 p471 q471; cases e471; replace hx471_0 := keep_cell HK.out hx471_0 (by (rw [add_block]; exact hf1 _ rfl (by omega))); replace p471 := eq_true p471; replace q471 := eq_true q471))
      go_ret
      exact ⟨by rfl, by repeat ((with_reducible exact HI0.out)), by repeat ((with_reducible exact HB.out)), by repeat ((with_reducible exact HK.out))⟩
    · rw [if_neg c5] at H
      exact absurd H (by simp)
  · rw [if_neg c4] at H
    exact absurd H (by simp)
def spec_l09FieldOf.f (s0_0 : List Int) (s0_1 : Int) (s0_2 : Int) : Option (ByteArray × ByteArray × Int × Int) := (spec_l01Pick.f s0_0 s0_1 s0_2 (([(⟨#[99, 97, 99, 104, 101, 45, 99, 111, 110, 116, 114, 111, 108]⟩ : ByteArray), (⟨#[104, 111, 115, 116]⟩ : ByteArray), (⟨#[99, 111, 110, 116, 101, 110, 116, 45, 108, 101, 110, 103, 116, 104]⟩ : ByteArray), (⟨#[120]⟩ : ByteArray), (⟨#[97, 117, 116, 104, 111, 114, 105, 122, 97, 116, 105, 111, 110]⟩ : ByteArray), (⟨#[116, 114, 97, 110, 115, 102, 101, 114, 45, 101, 110, 99, 111, 100, 105, 110, 103]⟩ : ByteArray)] : List ByteArray))).bind fun bt476 => ((spec_l01Pick.f s0_0 bt476.2.1 bt476.2.2 (([(⟨#[]⟩ : ByteArray), (⟨#[97]⟩ : ByteArray), (⟨#[110, 111, 45, 115, 116, 111, 114, 101]⟩ : ByteArray), (⟨#[109, 97, 120, 45, 97, 103, 101, 61, 54, 48]⟩ : ByteArray), (⟨#[109, 97, 120, 45, 97, 103, 101, 61, 53, 44, 32, 112, 114, 105, 118, 97, 116, 101]⟩ : ByteArray), (⟨#[115, 45, 109, 97, 120, 97, 103, 101, 61, 57]⟩ : ByteArray), (⟨#[49, 50]⟩ : ByteArray), (⟨#[99, 104, 117, 110, 107, 101, 100]⟩ : ByteArray), (⟨#[98, 32, 32, 99]⟩ : ByteArray), (⟨#[51]⟩ : ByteArray)] : List ByteArray))).bind fun bt482 => (some (bt476.1, bt482.1, bt482.2.1, bt482.2.2)))
set_option maxHeartbeats 8000000 in
set_option maxRecDepth 100000 in
theorem spec_l09FieldOf.calls (g : Nat) (s0_0 : List Int) (s0_1 : Int) (s0_2 : Int) (r1 : ByteArray) (r2 : ByteArray) (r3 : Int) (r4 : Int) (w0 w : World) (hI : IsS93 w0 w g s0_0 s0_1 s0_2) (hB : Below w0.heap.size w0 w) (h : spec_l09FieldOf.f s0_0 s0_1 s0_2 = some (r1, r2, r3, r4)) :
    Calls Try.prog 68 #[.pointer (some ⟨g, 0, none⟩)] w fun e w' => e = .returned (.agg #[.string r1, .string r2]) ∧ IsS93 w0 w' g s0_0 r3 r4 ∧ Below w0.heap.size w0 w' ∧ KeepBut w w' g none := by
  have hu45 := Try.underlying45
  have HI0 := Aside0.mk hI
  have HK := Aside0.mk (KeepBut.refl w g none)
  have HL := Aside0.mk hB.size
  clear hI
  have HW0 := Aside0.mk hB.size
  have HB := Aside0.mk hB
  clear hB
  have H : ((spec_l01Pick.f s0_0 s0_1 s0_2 (([(⟨#[99, 97, 99, 104, 101, 45, 99, 111, 110, 116, 114, 111, 108]⟩ : ByteArray), (⟨#[104, 111, 115, 116]⟩ : ByteArray), (⟨#[99, 111, 110, 116, 101, 110, 116, 45, 108, 101, 110, 103, 116, 104]⟩ : ByteArray), (⟨#[120]⟩ : ByteArray), (⟨#[97, 117, 116, 104, 111, 114, 105, 122, 97, 116, 105, 111, 110]⟩ : ByteArray), (⟨#[116, 114, 97, 110, 115, 102, 101, 114, 45, 101, 110, 99, 111, 100, 105, 110, 103]⟩ : ByteArray)] : List ByteArray))).bind fun bt476 => ((spec_l01Pick.f s0_0 bt476.2.1 bt476.2.2 (([(⟨#[]⟩ : ByteArray), (⟨#[97]⟩ : ByteArray), (⟨#[110, 111, 45, 115, 116, 111, 114, 101]⟩ : ByteArray), (⟨#[109, 97, 120, 45, 97, 103, 101, 61, 54, 48]⟩ : ByteArray), (⟨#[109, 97, 120, 45, 97, 103, 101, 61, 53, 44, 32, 112, 114, 105, 118, 97, 116, 101]⟩ : ByteArray), (⟨#[115, 45, 109, 97, 120, 97, 103, 101, 61, 57]⟩ : ByteArray), (⟨#[49, 50]⟩ : ByteArray), (⟨#[99, 104, 117, 110, 107, 101, 100]⟩ : ByteArray), (⟨#[98, 32, 32, 99]⟩ : ByteArray), (⟨#[51]⟩ : ByteArray)] : List ByteArray))).bind fun bt482 => (some (bt476.1, bt482.1, bt482.2.1, bt482.2.2)))) = some (r1, r2, r3, r4) := h
  clear h
  obtain ⟨y473, hy473⟩ : ∃ y_ : List ByteArray, y_ = (([(⟨#[99, 97, 99, 104, 101, 45, 99, 111, 110, 116, 114, 111, 108]⟩ : ByteArray), (⟨#[104, 111, 115, 116]⟩ : ByteArray), (⟨#[99, 111, 110, 116, 101, 110, 116, 45, 108, 101, 110, 103, 116, 104]⟩ : ByteArray), (⟨#[120]⟩ : ByteArray), (⟨#[97, 117, 116, 104, 111, 114, 105, 122, 97, 116, 105, 111, 110]⟩ : ByteArray), (⟨#[116, 114, 97, 110, 115, 102, 101, 114, 45, 101, 110, 99, 111, 100, 105, 110, 103]⟩ : ByteArray)] : List ByteArray)) := ⟨_, rfl⟩
  replace H : ((spec_l01Pick.f s0_0 s0_1 s0_2 y473).bind fun bt476 => ((spec_l01Pick.f s0_0 bt476.2.1 bt476.2.2 (([(⟨#[]⟩ : ByteArray), (⟨#[97]⟩ : ByteArray), (⟨#[110, 111, 45, 115, 116, 111, 114, 101]⟩ : ByteArray), (⟨#[109, 97, 120, 45, 97, 103, 101, 61, 54, 48]⟩ : ByteArray), (⟨#[109, 97, 120, 45, 97, 103, 101, 61, 53, 44, 32, 112, 114, 105, 118, 97, 116, 101]⟩ : ByteArray), (⟨#[115, 45, 109, 97, 120, 97, 103, 101, 61, 57]⟩ : ByteArray), (⟨#[49, 50]⟩ : ByteArray), (⟨#[99, 104, 117, 110, 107, 101, 100]⟩ : ByteArray), (⟨#[98, 32, 32, 99]⟩ : ByteArray), (⟨#[51]⟩ : ByteArray)] : List ByteArray))).bind fun bt482 => (some (bt476.1, bt482.1, bt482.2.1, bt482.2.2)))) = some (r1, r2, r3, r4) := by (rw [hy473]; with_reducible exact H)
  have Ny473 := Aside0.mk hy473
  clear hy473
  replace H := Option.bind_eq_some_iff.mp H
  obtain ⟨⟨t476, t477, t478⟩, A20, H⟩ := H
  replace H : ((spec_l01Pick.f s0_0 t477 t478 (([(⟨#[]⟩ : ByteArray), (⟨#[97]⟩ : ByteArray), (⟨#[110, 111, 45, 115, 116, 111, 114, 101]⟩ : ByteArray), (⟨#[109, 97, 120, 45, 97, 103, 101, 61, 54, 48]⟩ : ByteArray), (⟨#[109, 97, 120, 45, 97, 103, 101, 61, 53, 44, 32, 112, 114, 105, 118, 97, 116, 101]⟩ : ByteArray), (⟨#[115, 45, 109, 97, 120, 97, 103, 101, 61, 57]⟩ : ByteArray), (⟨#[49, 50]⟩ : ByteArray), (⟨#[99, 104, 117, 110, 107, 101, 100]⟩ : ByteArray), (⟨#[98, 32, 32, 99]⟩ : ByteArray), (⟨#[51]⟩ : ByteArray)] : List ByteArray))).bind fun bt482 => (some (t476, bt482.1, bt482.2.1, bt482.2.2))) = some (r1, r2, r3, r4) := H
  have A2 := Aside0.mk A20
  clear A20
  obtain ⟨y479, hy479⟩ : ∃ y_ : List ByteArray, y_ = (([(⟨#[]⟩ : ByteArray), (⟨#[97]⟩ : ByteArray), (⟨#[110, 111, 45, 115, 116, 111, 114, 101]⟩ : ByteArray), (⟨#[109, 97, 120, 45, 97, 103, 101, 61, 54, 48]⟩ : ByteArray), (⟨#[109, 97, 120, 45, 97, 103, 101, 61, 53, 44, 32, 112, 114, 105, 118, 97, 116, 101]⟩ : ByteArray), (⟨#[115, 45, 109, 97, 120, 97, 103, 101, 61, 57]⟩ : ByteArray), (⟨#[49, 50]⟩ : ByteArray), (⟨#[99, 104, 117, 110, 107, 101, 100]⟩ : ByteArray), (⟨#[98, 32, 32, 99]⟩ : ByteArray), (⟨#[51]⟩ : ByteArray)] : List ByteArray)) := ⟨_, rfl⟩
  replace H : ((spec_l01Pick.f s0_0 t477 t478 y479).bind fun bt482 => (some (t476, bt482.1, bt482.2.1, bt482.2.2))) = some (r1, r2, r3, r4) := by (rw [hy479]; with_reducible exact H)
  have Ny479 := Aside0.mk hy479
  clear hy479
  replace H := Option.bind_eq_some_iff.mp H
  obtain ⟨⟨t482, t483, t484⟩, A30, H⟩ := H
  replace H : (some (t476, t482, t483, t484)) = some (r1, r2, r3, r4) := H
  have A3 := Aside0.mk A30
  clear A30
  simp only [Option.some.injEq, Prod.mk.injEq] at H
  obtain ⟨rfl, rfl, rfl, rfl⟩ := H
  go_enter Try.func68, Try.ntmps68
  go_wp2_with (first | ((with_reducible refine gate_dst (N := 2) rfl ?_); refine box_event ?hg (N := 2) ?hd (cs := #[.string (⟨#[]⟩ : ByteArray), .string (⟨#[]⟩ : ByteArray)]) (t := 45) ?hr ?_; (case hd => rfl); (case hg => rfl); (case hr => (go_simp; done)); intro gb472 hg w4 hbox hb; have n0_ := Aside0.mk (IsS93.below (by repeat ((with_reducible exact HI0.out))) hb); have n1_ := Aside0.mk (KeepBut.trans (by repeat ((with_reducible exact HK.out))) (KeepBut.of_below hb g none) (.inl rfl)); have n2_ := Aside0.mk (below_step (by repeat ((with_reducible exact HB.out))) hb); have n3_ := Aside0.mk (hbox); have n4_ := Aside0.mk ((by rw [hg]; exact (keep_size (w := w) (g := g) (row := none) (by repeat ((with_reducible exact HK.out)))) : w.heap.size ≤ gb472)); have n5_ := Aside0.mk ((Nat.le_trans HW0.out (by rw [hg]; exact (keep_size (w := w) (g := g) (row := none) (by repeat ((with_reducible exact HK.out)))) : w.heap.size ≤ gb472) : w0.heap.size ≤ gb472)); have n6_ := Aside0.mk ((by rw [hg]; exact Nat.ne_of_lt (IsS93.lt (show IsS93 w0 _ g s0_0 s0_1 s0_2 from by repeat ((with_reducible exact HI0.out)))) : g ≠ gb472)); have n7_ := Aside0.mk ((by rw [hg]; exact Nat.ne_of_gt (IsS93.lt (show IsS93 w0 _ g s0_0 s0_1 s0_2 from by repeat ((with_reducible exact HI0.out)))) : gb472 ≠ g)); clear HI0; clear HK; clear HB; have HI0 := n0_; have HK := n1_; have HB := n2_; have BK472 := n3_; have GW472 := n4_; have GE472 := n5_; have NB0_472 := n6_; have NB472_0 := n7_; clear n0_ n1_ n2_ n3_ n4_ n5_ n6_ n7_; clear hb hbox hg) | ((with_reducible refine gate_dst (N := 4) rfl ?_); refine Kd.R_lit Kd.string _ 9 ?hg (N := 4) ?hd (xs := ([(⟨#[99, 97, 99, 104, 101, 45, 99, 111, 110, 116, 114, 111, 108]⟩ : ByteArray), (⟨#[104, 111, 115, 116]⟩ : ByteArray), (⟨#[99, 111, 110, 116, 101, 110, 116, 45, 108, 101, 110, 103, 116, 104]⟩ : ByteArray), (⟨#[120]⟩ : ByteArray), (⟨#[97, 117, 116, 104, 111, 114, 105, 122, 97, 116, 105, 111, 110]⟩ : ByteArray), (⟨#[116, 114, 97, 110, 115, 102, 101, 114, 45, 101, 110, 99, 111, 100, 105, 110, 103]⟩ : ByteArray)] : List ByteArray)) (inner := [.string (⟨#[99, 97, 99, 104, 101, 45, 99, 111, 110, 116, 114, 111, 108]⟩ : ByteArray), .string (⟨#[104, 111, 115, 116]⟩ : ByteArray), .string (⟨#[99, 111, 110, 116, 101, 110, 116, 45, 108, 101, 110, 103, 116, 104]⟩ : ByteArray), .string (⟨#[120]⟩ : ByteArray), .string (⟨#[97, 117, 116, 104, 111, 114, 105, 122, 97, 116, 105, 111, 110]⟩ : ByteArray), .string (⟨#[116, 114, 97, 110, 115, 102, 101, 114, 45, 101, 110, 99, 111, 100, 105, 110, 103]⟩ : ByteArray)]) (ok := fun _ => True) (okp := fun _ => True) ?hr ?hp (fun _ hk => hk) trivial (Below.refl _ _) (Nat.le_refl _) (by simp) ?_; (case hd => rfl); (case hg => rfl); (case hr => (go_simp; done)); (case hp => exact (Reps.one (show Kd.M Kd.string _ _ _ (⟨#[99, 97, 99, 104, 101, 45, 99, 111, 110, 116, 114, 111, 108]⟩ : ByteArray) [.string (⟨#[99, 97, 99, 104, 101, 45, 99, 111, 110, 116, 114, 111, 108]⟩ : ByteArray)] from rfl) (Reps.one (show Kd.M Kd.string _ _ _ (⟨#[104, 111, 115, 116]⟩ : ByteArray) [.string (⟨#[104, 111, 115, 116]⟩ : ByteArray)] from rfl) (Reps.one (show Kd.M Kd.string _ _ _ (⟨#[99, 111, 110, 116, 101, 110, 116, 45, 108, 101, 110, 103, 116, 104]⟩ : ByteArray) [.string (⟨#[99, 111, 110, 116, 101, 110, 116, 45, 108, 101, 110, 103, 116, 104]⟩ : ByteArray)] from rfl) (Reps.one (show Kd.M Kd.string _ _ _ (⟨#[120]⟩ : ByteArray) [.string (⟨#[120]⟩ : ByteArray)] from rfl) (Reps.one (show Kd.M Kd.string _ _ _ (⟨#[97, 117, 116, 104, 111, 114, 105, 122, 97, 116, 105, 111, 110]⟩ : ByteArray) [.string (⟨#[97, 117, 116, 104, 111, 114, 105, 122, 97, 116, 105, 111, 110]⟩ : ByteArray)] from rfl) (Reps.one (show Kd.M Kd.string _ _ _ (⟨#[116, 114, 97, 110, 115, 102, 101, 114, 45, 101, 110, 99, 111, 100, 105, 110, 103]⟩ : ByteArray) [.string (⟨#[116, 114, 97, 110, 115, 102, 101, 114, 45, 101, 110, 99, 111, 100, 105, 110, 103]⟩ : ByteArray)] from rfl) (Reps.none _ _)))))))); intro v474 w5 ho6 hb hg_ hnew_; clear hg_ hnew_; (rw [← Ny473.out] at ho6); have n0_ := Aside0.mk (Kd.R_lower ho6 (keep_size (w := w) (g := g) (row := none) (by repeat ((with_reducible exact HK.out))))); have n1_ := Aside0.mk (IsS93.below (by repeat ((with_reducible exact HI0.out))) hb); have n2_ := Aside0.mk (blk_below (g := gb472) (o := .cells #[.string (⟨#[]⟩ : ByteArray), .string (⟨#[]⟩ : ByteArray)] 45 (0, 0)) (by (with_reducible repeat (first | refine blk_drewN ?_ _ | refine blk_drew ?_ | refine blk_alloc ?_ _ )); exact BK472.out) hb); have n3_ := Aside0.mk (KeepBut.trans (by repeat ((with_reducible exact HK.out))) (KeepBut.of_below hb g none) (.inl rfl)); have n4_ := Aside0.mk (below_step (by repeat ((with_reducible exact HB.out))) hb); clear HI0; clear BK472; clear HK; clear HB; have HO475 := n0_; have HI0 := n1_; have BK472 := n2_; have HK := n3_; have HB := n4_; clear n0_ n1_ n2_ n3_ n4_; clear hb ho6; obtain ⟨Ao7, co7, eo7⟩ := Kd.R_slice HO475.out; subst eo7) | ((with_reducible refine gate_callee (f := 67) rfl ?_); refine goesL_ (some 5) rfl rfl Try.func67 (by kernel_rfl) rfl #[.pointer (some ⟨g, 0, none⟩), .slice Ao7 y473.length co7] rfl (by (try simp only [List.map_toArray, List.map_cons, List.map_nil]); rfl) ?_; (with_reducible refine (spec_l01Pick.calls g s0_0 s0_1 s0_2 _ _ y473 t476 t477 t478 w0 _ ?side1 ?side2 ?side3 ?side4 ?side5 A2.out).mono ?_); (case side1 => repeat ((with_reducible exact HI0.out))); (case side2 => repeat ((with_reducible exact HB.out))); (case side3 => repeat (exact (Kd.R_reads' HO475.out).2.2)); (case side4 => exact (Kd.R_reads' HO475.out).2.1); (case side5 => exact far_slice (IsS93.own_ne HI0.out HO475.out (by decide))); rintro e w8 ⟨rfl, hi, hb, hk⟩; refine ⟨_, rfl, ?_⟩; have n0_ := Aside0.mk (KeepBut.blk hk (g' := gb472) (o := .cells #[.string (⟨#[]⟩ : ByteArray), .string (⟨#[]⟩ : ByteArray)] 45 (0, 0)) (by (with_reducible repeat (first | refine blk_drewN ?_ _ | refine blk_drew ?_ | refine blk_alloc ?_ _ )); exact BK472.out) NB472_0.out (by simp)); have n1_ := Aside0.mk (Kd.R_mono (Kd.R_keep (IsS93.apart (show IsS93 w0 _ g s0_0 s0_1 s0_2 from by repeat ((with_reducible exact HI0.out))) (by (with_reducible repeat (first | apply Kd.R_alloc | apply Kd.R_drewN | apply Kd.R_drew )); exact HO475.out) (by decide)) hk (fun _ h => h.2)) (fun _ h => h.1)); have n2_ := Aside0.mk (KeepBut.trans (by repeat ((with_reducible exact HK.out))) hk (.inl rfl)); have n3_ := Aside0.mk (hb); have n4_ := Aside0.mk (hi); clear BK472; clear HO475; clear HK; clear HB; clear HI0; have BK472 := n0_; have HO475 := n1_; have HK := n2_; have HB := n3_; have HI0 := n4_; clear n0_ n1_ n2_ n3_ n4_; (try clear hb); (try clear hb2); (try clear hk); (try clear hi)) | ((with_reducible refine gate_dst (N := 7) rfl ?_); refine Kd.R_lit Kd.string _ 9 ?hg (N := 7) ?hd (xs := ([(⟨#[]⟩ : ByteArray), (⟨#[97]⟩ : ByteArray), (⟨#[110, 111, 45, 115, 116, 111, 114, 101]⟩ : ByteArray), (⟨#[109, 97, 120, 45, 97, 103, 101, 61, 54, 48]⟩ : ByteArray), (⟨#[109, 97, 120, 45, 97, 103, 101, 61, 53, 44, 32, 112, 114, 105, 118, 97, 116, 101]⟩ : ByteArray), (⟨#[115, 45, 109, 97, 120, 97, 103, 101, 61, 57]⟩ : ByteArray), (⟨#[49, 50]⟩ : ByteArray), (⟨#[99, 104, 117, 110, 107, 101, 100]⟩ : ByteArray), (⟨#[98, 32, 32, 99]⟩ : ByteArray), (⟨#[51]⟩ : ByteArray)] : List ByteArray)) (inner := [.string (⟨#[]⟩ : ByteArray), .string (⟨#[97]⟩ : ByteArray), .string (⟨#[110, 111, 45, 115, 116, 111, 114, 101]⟩ : ByteArray), .string (⟨#[109, 97, 120, 45, 97, 103, 101, 61, 54, 48]⟩ : ByteArray), .string (⟨#[109, 97, 120, 45, 97, 103, 101, 61, 53, 44, 32, 112, 114, 105, 118, 97, 116, 101]⟩ : ByteArray), .string (⟨#[115, 45, 109, 97, 120, 97, 103, 101, 61, 57]⟩ : ByteArray), .string (⟨#[49, 50]⟩ : ByteArray), .string (⟨#[99, 104, 117, 110, 107, 101, 100]⟩ : ByteArray), .string (⟨#[98, 32, 32, 99]⟩ : ByteArray), .string (⟨#[51]⟩ : ByteArray)]) (ok := fun _ => True) (okp := fun _ => True) ?hr ?hp (fun _ hk => hk) trivial (Below.refl _ _) (Nat.le_refl _) (by simp) ?_; (case hd => rfl); (case hg => rfl); (case hr => (go_simp; done)); (case hp => exact (Reps.one (show Kd.M Kd.string _ _ _ (⟨#[]⟩ : ByteArray) [.string (⟨#[]⟩ : ByteArray)] from rfl) (Reps.one (show Kd.M Kd.string _ _ _ (⟨#[97]⟩ : ByteArray) [.string (⟨#[97]⟩ : ByteArray)] from rfl) (Reps.one (show Kd.M Kd.string _ _ _ (⟨#[110, 111, 45, 115, 116, 111, 114, 101]⟩ : ByteArray) [.string (⟨#[110, 111, 45, 115, 116, 111, 114, 101]⟩ : ByteArray)] from rfl) (Reps.one (show Kd.M Kd.string _ _ _ (⟨#[109, 97, 120, 45, 97, 103, 101, 61, 54, 48]⟩ : ByteArray) [.string (⟨#[109, 97, 120, 45, 97, 103, 101, 61, 54, 48]⟩ : ByteArray)] from rfl) (Reps.one (show Kd.M Kd.string _ _ _ (⟨#[109, 97, 120, 45, 97, 103, 101, 61, 53, 44, 32, 112, 114, 105, 118, 97, 116, 101]⟩ : ByteArray) [.string (⟨#[109, 97, 120, 45, 97, 103, 101, 61, 53, 44, 32, 112, 114, 105, 118, 97, 116, 101]⟩ : ByteArray)] from rfl) (Reps.one (show Kd.M Kd.string _ _ _ (⟨#[115, 45, 109, 97, 120, 97, 103, 101, 61, 57]⟩ : ByteArray) [.string (⟨#[115, 45, 109, 97, 120, 97, 103, 101, 61, 57]⟩ : ByteArray)] from rfl) (Reps.one (show Kd.M Kd.string _ _ _ (⟨#[49, 50]⟩ : ByteArray) [.string (⟨#[49, 50]⟩ : ByteArray)] from rfl) (Reps.one (show Kd.M Kd.string _ _ _ (⟨#[99, 104, 117, 110, 107, 101, 100]⟩ : ByteArray) [.string (⟨#[99, 104, 117, 110, 107, 101, 100]⟩ : ByteArray)] from rfl) (Reps.one (show Kd.M Kd.string _ _ _ (⟨#[98, 32, 32, 99]⟩ : ByteArray) [.string (⟨#[98, 32, 32, 99]⟩ : ByteArray)] from rfl) (Reps.one (show Kd.M Kd.string _ _ _ (⟨#[51]⟩ : ByteArray) [.string (⟨#[51]⟩ : ByteArray)] from rfl) (Reps.none _ _)))))))))))); intro v480 w9 ho10 hb hg_ hnew_; clear hg_ hnew_; (rw [← Ny479.out] at ho10); have n0_ := Aside0.mk (Kd.R_elder' (by (with_reducible repeat (first | apply Kd.R_alloc | apply Kd.R_drewN | apply Kd.R_drew )); exact HO475.out) (Kd.R_base ho10) hb); have n1_ := Aside0.mk (Kd.R_lower (Kd.R_new' ho10 (Kd.R_lt (by (with_reducible repeat (first | apply Kd.R_alloc | apply Kd.R_drewN | apply Kd.R_drew )); exact HO475.out))) (keep_size (w := w) (g := g) (row := none) (by repeat ((with_reducible exact HK.out))))); have n2_ := Aside0.mk (IsS93.below (by repeat ((with_reducible exact HI0.out))) hb); have n3_ := Aside0.mk (blk_below (g := gb472) (o := .cells #[.string (⟨#[]⟩ : ByteArray), .string (⟨#[]⟩ : ByteArray)] 45 (0, 0)) (by (with_reducible repeat (first | refine blk_drewN ?_ _ | refine blk_drew ?_ | refine blk_alloc ?_ _ )); exact BK472.out) hb); have n4_ := Aside0.mk (KeepBut.trans (by repeat ((with_reducible exact HK.out))) (KeepBut.of_below hb g none) (.inl rfl)); have n5_ := Aside0.mk (below_step (by repeat ((with_reducible exact HB.out))) hb); clear HO475; clear HI0; clear BK472; clear HK; clear HB; have HO475 := n0_; have HO481 := n1_; have HI0 := n2_; have BK472 := n3_; have HK := n4_; have HB := n5_; clear n0_ n1_ n2_ n3_ n4_ n5_; clear hb ho10; obtain ⟨Ao11, co11, eo11⟩ := Kd.R_slice HO481.out; subst eo11) | ((with_reducible refine gate_callee (f := 67) rfl ?_); refine goesL_ (some 8) rfl rfl Try.func67 (by kernel_rfl) rfl #[.pointer (some ⟨g, 0, none⟩), .slice Ao11 y479.length co11] rfl (by (try simp only [List.map_toArray, List.map_cons, List.map_nil]); rfl) ?_; (with_reducible refine (spec_l01Pick.calls g s0_0 t477 t478 _ _ y479 t482 t483 t484 w0 _ ?side1 ?side2 ?side3 ?side4 ?side5 A3.out).mono ?_); (case side1 => repeat ((with_reducible exact HI0.out))); (case side2 => repeat ((with_reducible exact HB.out))); (case side3 => repeat (exact (Kd.R_reads' HO481.out).2.2)); (case side4 => exact (Kd.R_reads' HO481.out).2.1); (case side5 => exact far_slice (IsS93.own_ne HI0.out HO481.out (by decide))); rintro e w12 ⟨rfl, hi, hb, hk⟩; refine ⟨_, rfl, ?_⟩; have n0_ := Aside0.mk (KeepBut.blk hk (g' := gb472) (o := .cells #[.string (⟨#[]⟩ : ByteArray), .string (⟨#[]⟩ : ByteArray)] 45 (0, 0)) (by (with_reducible repeat (first | refine blk_drewN ?_ _ | refine blk_drew ?_ | refine blk_alloc ?_ _ )); exact BK472.out) NB472_0.out (by simp)); have n1_ := Aside0.mk (Kd.R_mono (Kd.R_keep (IsS93.apart (show IsS93 w0 _ g s0_0 t477 t478 from by repeat ((with_reducible exact HI0.out))) (by (with_reducible repeat (first | apply Kd.R_alloc | apply Kd.R_drewN | apply Kd.R_drew )); exact HO475.out) (by decide)) hk (fun _ h => h.2)) (fun _ h => h.1)); have n2_ := Aside0.mk (Kd.R_mono (Kd.R_keep (IsS93.apart (show IsS93 w0 _ g s0_0 t477 t478 from by repeat ((with_reducible exact HI0.out))) (by (with_reducible repeat (first | apply Kd.R_alloc | apply Kd.R_drewN | apply Kd.R_drew )); exact HO481.out) (by decide)) hk (fun _ h => h.2)) (fun _ h => h.1)); have n3_ := Aside0.mk (KeepBut.trans (by repeat ((with_reducible exact HK.out))) hk (.inl rfl)); have n4_ := Aside0.mk (hb); have n5_ := Aside0.mk (hi); clear BK472; clear HO475; clear HO481; clear HK; clear HB; clear HI0; have BK472 := n0_; have HO475 := n1_; have HO481 := n2_; have HK := n3_; have HB := n4_; have HI0 := n5_; clear n0_ n1_ n2_ n3_ n4_ n5_; (try clear hb); (try clear hb2); (try clear hk); (try clear hi); have hnb13 := NB472_0.out; have hnc13 := NB0_472.out; have hcz14_0 : w12.cell? ⟨gb472, 0, none⟩ = some (.string (⟨#[]⟩ : ByteArray)) := (blk_cell BK472.out 0).trans rfl; have hcz14_1 : w12.cell? ⟨gb472, 1, none⟩ = some (.string (⟨#[]⟩ : ByteArray)) := (blk_cell BK472.out 1).trans rfl; have hfz14_0 := blk_frozen BK472.out 0; have hfz14_1 := blk_frozen BK472.out 1))
  refine bodyPost_ret (results_cell_row rfl _ _ gb472 45 #[.string t476, .string t482] (0, 0) _ rfl (by (with_reducible repeat (first | refine blk_drewN ?_ _ | refine blk_drew ?_ | refine blk_alloc ?_ _ )); refine blk_put (cs := #[.string t476, .string (⟨#[]⟩ : ByteArray)]) ?_ 1 _ rfl; (with_reducible repeat (first | refine blk_drewN ?_ _ | refine blk_drew ?_ | refine blk_alloc ?_ _ )); refine blk_put (cs := #[.string (⟨#[]⟩ : ByteArray), .string (⟨#[]⟩ : ByteArray)]) ?_ 0 _ rfl; (with_reducible repeat (first | refine blk_drewN ?_ _ | refine blk_drew ?_ | refine blk_alloc ?_ _ )); exact BK472.out) Try.underlying45 rfl (by kernel_rfl)) rfl ?_
  exact ⟨by rfl, by repeat ((with_reducible first | exact HI0.out | refine IsS93.far ?_ NB0_472.out _)), by repeat ((with_reducible first | exact HB.out | refine below_set ?_ GE472.out)), by repeat ((with_reducible first | exact HK.out | refine keep_far ?_ GW472.out _))⟩
def spec_l09Head.l0 : Nat → Int → List Int → Int → Int → ByteArray → List (S45) → Option (ByteArray × (List (S45)) × Int × Int)
  | 0, _, _, _, _, _, _ => none
  | k + 1, x4, x1000, x1001, x1002, x493000, x493001 => (spec_l01Below.f x1000 x1001 x1002 4).bind fun bt493 => (if x4 < bt493.1 then ((spec_l09FieldOf.f x1000 bt493.2.1 bt493.2.2).bind fun bt496 => (if x493001.length < 4398046511104 then (spec_l09Head.l0 k (wrap64 (x4 + 1)) x1000 bt496.2.2.1 bt496.2.2.2 x493000 (x493001 ++ [(⟨bt496.1, bt496.2.1⟩ : S45)])) else (none))) else (some (x493000, x493001, bt493.2.1, bt493.2.2)))
def spec_l09Head.f (k : Nat) (s0_0 : List Int) (s0_1 : Int) (s0_2 : Int) : Option (ByteArray × (List (S45)) × Int × Int) := (spec_l01Pick.f s0_0 s0_1 s0_2 (([(⟨#[71, 69, 84, 32, 47, 97, 32, 72, 84, 84, 80, 47, 49, 46, 49]⟩ : ByteArray), (⟨#[71, 69, 84, 32, 47, 98, 32, 72, 84, 84, 80, 47, 49, 46, 49]⟩ : ByteArray), (⟨#[72, 84, 84, 80, 47, 49, 46, 49, 32, 50, 48, 48, 32, 111, 107]⟩ : ByteArray), (⟨#[72, 84, 84, 80, 47, 49, 46, 49, 32, 52, 48, 52, 32, 110, 111]⟩ : ByteArray), (⟨#[80, 79, 83, 84, 32, 47, 97, 32, 72, 84, 84, 80, 47, 49, 46, 49]⟩ : ByteArray), (⟨#[120]⟩ : ByteArray)] : List ByteArray))).bind fun bt489 => (spec_l09Head.l0 k 0 s0_0 bt489.2.1 bt489.2.2 bt489.1 ([] : List (S45)))
def spec_l09Head.T5 : Bool × List (List Nat × List Nat) := (true, [([], []), ([0], [0]), ([], []), ([2], [2]), ([3], [3]), ([1, 4, 3], [1, 4]), ([0, 1, 2, 3, 4, 5], []), ([6, 5, 5, 0, 1, 2, 3, 4, 5], [5, 6])])
def spec_l09Head.B5 : List Nat := [0, 1, 0, 4, 12, 31, 63, 127]
theorem spec_l09Head.tab5 : rtab .any (opsOf Try.f55 5) = spec_l09Head.T5 := by kernel_rfl
theorem spec_l09Head.bits5 : waitsOk spec_l09Head.T5.2 spec_l09Head.B5 = true := by kernel_rfl
set_option maxHeartbeats 8000000 in
set_option maxRecDepth 100000 in
theorem spec_l09Head.calls (k : Nat) (g : Nat) (s0_0 : List Int) (s0_1 : Int) (s0_2 : Int) (r1 : ByteArray) (r2 : List (S45)) (r3 : Int) (r4 : Int) (w0 w : World) (hI : IsS93 w0 w g s0_0 s0_1 s0_2) (hB : Below w0.heap.size w0 w) (h : spec_l09Head.f k s0_0 s0_1 s0_2 = some (r1, r2, r3, r4)) :
    Calls Try.prog 55 #[.pointer (some ⟨g, 0, none⟩)] w fun e w' => ∃ v1_ : Value, e = .returned (.agg #[.string r1, v1_]) ∧ Kd.R k45 45 w' w.heap.size (fun _ => True) v1_ r2 ∧ IsS93 w0 w' g s0_0 r3 r4 ∧ Below w0.heap.size w0 w' ∧ KeepBut w w' g none := by
  have hu48 := Try.underlying48
  have HI0 := Aside0.mk hI
  have HK := Aside0.mk (KeepBut.refl w g none)
  have HL := Aside0.mk hB.size
  clear hI
  have HW0 := Aside0.mk hB.size
  have HB := Aside0.mk hB
  clear hB
  have H : ((spec_l01Pick.f s0_0 s0_1 s0_2 (([(⟨#[71, 69, 84, 32, 47, 97, 32, 72, 84, 84, 80, 47, 49, 46, 49]⟩ : ByteArray), (⟨#[71, 69, 84, 32, 47, 98, 32, 72, 84, 84, 80, 47, 49, 46, 49]⟩ : ByteArray), (⟨#[72, 84, 84, 80, 47, 49, 46, 49, 32, 50, 48, 48, 32, 111, 107]⟩ : ByteArray), (⟨#[72, 84, 84, 80, 47, 49, 46, 49, 32, 52, 48, 52, 32, 110, 111]⟩ : ByteArray), (⟨#[80, 79, 83, 84, 32, 47, 97, 32, 72, 84, 84, 80, 47, 49, 46, 49]⟩ : ByteArray), (⟨#[120]⟩ : ByteArray)] : List ByteArray))).bind fun bt489 => (spec_l09Head.l0 k 0 s0_0 bt489.2.1 bt489.2.2 bt489.1 ([] : List (S45)))) = some (r1, r2, r3, r4) := h
  clear h
  obtain ⟨y486, hy486⟩ : ∃ y_ : List ByteArray, y_ = (([(⟨#[71, 69, 84, 32, 47, 97, 32, 72, 84, 84, 80, 47, 49, 46, 49]⟩ : ByteArray), (⟨#[71, 69, 84, 32, 47, 98, 32, 72, 84, 84, 80, 47, 49, 46, 49]⟩ : ByteArray), (⟨#[72, 84, 84, 80, 47, 49, 46, 49, 32, 50, 48, 48, 32, 111, 107]⟩ : ByteArray), (⟨#[72, 84, 84, 80, 47, 49, 46, 49, 32, 52, 48, 52, 32, 110, 111]⟩ : ByteArray), (⟨#[80, 79, 83, 84, 32, 47, 97, 32, 72, 84, 84, 80, 47, 49, 46, 49]⟩ : ByteArray), (⟨#[120]⟩ : ByteArray)] : List ByteArray)) := ⟨_, rfl⟩
  replace H : ((spec_l01Pick.f s0_0 s0_1 s0_2 y486).bind fun bt489 => (spec_l09Head.l0 k 0 s0_0 bt489.2.1 bt489.2.2 bt489.1 ([] : List (S45)))) = some (r1, r2, r3, r4) := by (rw [hy486]; with_reducible exact H)
  have Ny486 := Aside0.mk hy486
  clear hy486
  replace H := Option.bind_eq_some_iff.mp H
  obtain ⟨⟨t489, t490, t491⟩, A20, H⟩ := H
  replace H : (spec_l09Head.l0 k 0 s0_0 t490 t491 t489 ([] : List (S45))) = some (r1, r2, r3, r4) := H
  have A2 := Aside0.mk A20
  clear A20
  have H' := Aside0.mk H
  clear H
  go_enter Try.func55, Try.ntmps55
  go_wp2_with (first | ((with_reducible refine gate_dst (N := 2) rfl ?_); refine box_event ?hg (N := 2) ?hd (cs := #[.string (⟨#[]⟩ : ByteArray), .slice none 0 0]) (t := 48) ?hr ?_; (case hd => rfl); (case hg => rfl); (case hr => (go_simp; done)); intro gb485 hg w3 hbox hb; have n0_ := Aside0.mk (IsS93.below (by repeat ((with_reducible exact HI0.out))) hb); have n1_ := Aside0.mk (KeepBut.trans (by repeat ((with_reducible exact HK.out))) (KeepBut.of_below hb g none) (.inl rfl)); have n2_ := Aside0.mk (below_step (by repeat ((with_reducible exact HB.out))) hb); have n3_ := Aside0.mk (hbox); have n4_ := Aside0.mk ((by rw [hg]; exact (keep_size (w := w) (g := g) (row := none) (by repeat ((with_reducible exact HK.out)))) : w.heap.size ≤ gb485)); have n5_ := Aside0.mk ((Nat.le_trans HW0.out (by rw [hg]; exact (keep_size (w := w) (g := g) (row := none) (by repeat ((with_reducible exact HK.out)))) : w.heap.size ≤ gb485) : w0.heap.size ≤ gb485)); have n6_ := Aside0.mk ((by rw [hg]; exact Nat.ne_of_lt (IsS93.lt (show IsS93 w0 _ g s0_0 s0_1 s0_2 from by repeat ((with_reducible exact HI0.out)))) : g ≠ gb485)); have n7_ := Aside0.mk ((by rw [hg]; exact Nat.ne_of_gt (IsS93.lt (show IsS93 w0 _ g s0_0 s0_1 s0_2 from by repeat ((with_reducible exact HI0.out)))) : gb485 ≠ g)); clear HI0; clear HK; clear HB; have HI0 := n0_; have HK := n1_; have HB := n2_; have BK485 := n3_; have GW485 := n4_; have GE485 := n5_; have NB0_485 := n6_; have NB485_0 := n7_; clear n0_ n1_ n2_ n3_ n4_ n5_ n6_ n7_; clear hb hbox hg) | ((with_reducible refine gate_dst (N := 6) rfl ?_); refine Kd.R_lit Kd.string _ 9 ?hg (N := 6) ?hd (xs := ([(⟨#[71, 69, 84, 32, 47, 97, 32, 72, 84, 84, 80, 47, 49, 46, 49]⟩ : ByteArray), (⟨#[71, 69, 84, 32, 47, 98, 32, 72, 84, 84, 80, 47, 49, 46, 49]⟩ : ByteArray), (⟨#[72, 84, 84, 80, 47, 49, 46, 49, 32, 50, 48, 48, 32, 111, 107]⟩ : ByteArray), (⟨#[72, 84, 84, 80, 47, 49, 46, 49, 32, 52, 48, 52, 32, 110, 111]⟩ : ByteArray), (⟨#[80, 79, 83, 84, 32, 47, 97, 32, 72, 84, 84, 80, 47, 49, 46, 49]⟩ : ByteArray), (⟨#[120]⟩ : ByteArray)] : List ByteArray)) (inner := [.string (⟨#[71, 69, 84, 32, 47, 97, 32, 72, 84, 84, 80, 47, 49, 46, 49]⟩ : ByteArray), .string (⟨#[71, 69, 84, 32, 47, 98, 32, 72, 84, 84, 80, 47, 49, 46, 49]⟩ : ByteArray), .string (⟨#[72, 84, 84, 80, 47, 49, 46, 49, 32, 50, 48, 48, 32, 111, 107]⟩ : ByteArray), .string (⟨#[72, 84, 84, 80, 47, 49, 46, 49, 32, 52, 48, 52, 32, 110, 111]⟩ : ByteArray), .string (⟨#[80, 79, 83, 84, 32, 47, 97, 32, 72, 84, 84, 80, 47, 49, 46, 49]⟩ : ByteArray), .string (⟨#[120]⟩ : ByteArray)]) (ok := fun _ => True) (okp := fun _ => True) ?hr ?hp (fun _ hk => hk) trivial (Below.refl _ _) (Nat.le_refl _) (by simp) ?_; (case hd => rfl); (case hg => rfl); (case hr => (go_simp; done)); (case hp => exact (Reps.one (show Kd.M Kd.string _ _ _ (⟨#[71, 69, 84, 32, 47, 97, 32, 72, 84, 84, 80, 47, 49, 46, 49]⟩ : ByteArray) [.string (⟨#[71, 69, 84, 32, 47, 97, 32, 72, 84, 84, 80, 47, 49, 46, 49]⟩ : ByteArray)] from rfl) (Reps.one (show Kd.M Kd.string _ _ _ (⟨#[71, 69, 84, 32, 47, 98, 32, 72, 84, 84, 80, 47, 49, 46, 49]⟩ : ByteArray) [.string (⟨#[71, 69, 84, 32, 47, 98, 32, 72, 84, 84, 80, 47, 49, 46, 49]⟩ : ByteArray)] from rfl) (Reps.one (show Kd.M Kd.string _ _ _ (⟨#[72, 84, 84, 80, 47, 49, 46, 49, 32, 50, 48, 48, 32, 111, 107]⟩ : ByteArray) [.string (⟨#[72, 84, 84, 80, 47, 49, 46, 49, 32, 50, 48, 48, 32, 111, 107]⟩ : ByteArray)] from rfl) (Reps.one (show Kd.M Kd.string _ _ _ (⟨#[72, 84, 84, 80, 47, 49, 46, 49, 32, 52, 48, 52, 32, 110, 111]⟩ : ByteArray) [.string (⟨#[72, 84, 84, 80, 47, 49, 46, 49, 32, 52, 48, 52, 32, 110, 111]⟩ : ByteArray)] from rfl) (Reps.one (show Kd.M Kd.string _ _ _ (⟨#[80, 79, 83, 84, 32, 47, 97, 32, 72, 84, 84, 80, 47, 49, 46, 49]⟩ : ByteArray) [.string (⟨#[80, 79, 83, 84, 32, 47, 97, 32, 72, 84, 84, 80, 47, 49, 46, 49]⟩ : ByteArray)] from rfl) (Reps.one (show Kd.M Kd.string _ _ _ (⟨#[120]⟩ : ByteArray) [.string (⟨#[120]⟩ : ByteArray)] from rfl) (Reps.none _ _)))))))); intro v487 w4 ho5 hb hg_ hnew_; clear hg_ hnew_; (rw [← Ny486.out] at ho5); have n0_ := Aside0.mk (Kd.R_lower ho5 (keep_size (w := w) (g := g) (row := none) (by repeat ((with_reducible exact HK.out))))); have n1_ := Aside0.mk (IsS93.below (by repeat ((with_reducible exact HI0.out))) hb); have n2_ := Aside0.mk (blk_below (g := gb485) (o := .cells #[.string (⟨#[]⟩ : ByteArray), .slice none 0 0] 48 (0, 0)) (by (with_reducible repeat (first | refine blk_drewN ?_ _ | refine blk_drew ?_ | refine blk_alloc ?_ _ )); exact BK485.out) hb); have n3_ := Aside0.mk (KeepBut.trans (by repeat ((with_reducible exact HK.out))) (KeepBut.of_below hb g none) (.inl rfl)); have n4_ := Aside0.mk (below_step (by repeat ((with_reducible exact HB.out))) hb); clear HI0; clear BK485; clear HK; clear HB; have HO488 := n0_; have HI0 := n1_; have BK485 := n2_; have HK := n3_; have HB := n4_; clear n0_ n1_ n2_ n3_ n4_; clear hb ho5; obtain ⟨Ao6, co6, eo6⟩ := Kd.R_slice HO488.out; subst eo6) | ((with_reducible refine gate_callee (f := 67) rfl ?_); refine goesL_ (some 7) rfl rfl Try.func67 (by kernel_rfl) rfl #[.pointer (some ⟨g, 0, none⟩), .slice Ao6 y486.length co6] rfl (by (try simp only [List.map_toArray, List.map_cons, List.map_nil]); rfl) ?_; (with_reducible refine (spec_l01Pick.calls g s0_0 s0_1 s0_2 _ _ y486 t489 t490 t491 w0 _ ?side1 ?side2 ?side3 ?side4 ?side5 A2.out).mono ?_); (case side1 => repeat ((with_reducible exact HI0.out))); (case side2 => repeat ((with_reducible exact HB.out))); (case side3 => repeat (exact (Kd.R_reads' HO488.out).2.2)); (case side4 => exact (Kd.R_reads' HO488.out).2.1); (case side5 => exact far_slice (IsS93.own_ne HI0.out HO488.out (by decide))); rintro e w7 ⟨rfl, hi, hb, hk⟩; refine ⟨_, rfl, ?_⟩; have n0_ := Aside0.mk (KeepBut.blk hk (g' := gb485) (o := .cells #[.string (⟨#[]⟩ : ByteArray), .slice none 0 0] 48 (0, 0)) (by (with_reducible repeat (first | refine blk_drewN ?_ _ | refine blk_drew ?_ | refine blk_alloc ?_ _ )); exact BK485.out) NB485_0.out (by simp)); have n1_ := Aside0.mk (Kd.R_mono (Kd.R_keep (IsS93.apart (show IsS93 w0 _ g s0_0 s0_1 s0_2 from by repeat ((with_reducible exact HI0.out))) (by (with_reducible repeat (first | apply Kd.R_alloc | apply Kd.R_drewN | apply Kd.R_drew )); exact HO488.out) (by decide)) hk (fun _ h => h.2)) (fun _ h => h.1)); have n2_ := Aside0.mk (KeepBut.trans (by repeat ((with_reducible exact HK.out))) hk (.inl rfl)); have n3_ := Aside0.mk (hb); have n4_ := Aside0.mk (hi); clear BK485; clear HO488; clear HK; clear HB; clear HI0; have BK485 := n0_; have HO488 := n1_; have HK := n2_; have HB := n3_; have HI0 := n4_; clear n0_ n1_ n2_ n3_ n4_; (try clear hb); (try clear hb2); (try clear hk); (try clear hi)) | ((with_reducible refine gate_dst (N := 3) rfl ?_); refine box_event ?hg (N := 3) ?hd (cs := #[.string (⟨#[]⟩ : ByteArray), .slice none 0 0]) (t := 48) ?hr ?_; (case hd => rfl); (case hg => rfl); (case hr => (go_simp; done)); intro gb492 hg w8 hbox hb; have n0_ := Aside0.mk (Kd.R_below (by (with_reducible repeat (first | apply Kd.R_alloc | apply Kd.R_drewN | apply Kd.R_drew )); exact HO488.out) hb); have n1_ := Aside0.mk (IsS93.below (by repeat ((with_reducible exact HI0.out))) hb); have n2_ := Aside0.mk (blk_below (g := gb485) (o := .cells #[.string (⟨#[]⟩ : ByteArray), .slice none 0 0] 48 (0, 0)) (by (with_reducible repeat (first | refine blk_drewN ?_ _ | refine blk_drew ?_ | refine blk_alloc ?_ _ )); exact BK485.out) hb); have n3_ := Aside0.mk (KeepBut.trans (by repeat ((with_reducible exact HK.out))) (KeepBut.of_below hb g none) (.inl rfl)); have n4_ := Aside0.mk (below_step (by repeat ((with_reducible exact HB.out))) hb); have n5_ := Aside0.mk (hbox); have n6_ := Aside0.mk ((by rw [hg]; exact (keep_size (w := w) (g := g) (row := none) (by repeat ((with_reducible exact HK.out)))) : w.heap.size ≤ gb492)); have n7_ := Aside0.mk ((Nat.le_trans HW0.out (by rw [hg]; exact (keep_size (w := w) (g := g) (row := none) (by repeat ((with_reducible exact HK.out)))) : w.heap.size ≤ gb492) : w0.heap.size ≤ gb492)); have n8_ := Aside0.mk ((by rw [hg]; exact Nat.ne_of_lt (blk_lt (g := gb485) (o := .cells #[.string (⟨#[]⟩ : ByteArray), .slice none 0 0] 48 (0, 0)) (by (with_reducible repeat (first | refine blk_drewN ?_ _ | refine blk_drew ?_ | refine blk_alloc ?_ _ )); exact BK485.out)) : gb485 ≠ gb492)); have n9_ := Aside0.mk ((by rw [hg]; exact Nat.ne_of_gt (blk_lt (g := gb485) (o := .cells #[.string (⟨#[]⟩ : ByteArray), .slice none 0 0] 48 (0, 0)) (by (with_reducible repeat (first | refine blk_drewN ?_ _ | refine blk_drew ?_ | refine blk_alloc ?_ _ )); exact BK485.out)) : gb492 ≠ gb485)); have n10_ := Aside0.mk ((by rw [hg]; exact Nat.ne_of_lt (IsS93.lt (show IsS93 w0 _ g s0_0 t490 t491 from by repeat ((with_reducible exact HI0.out)))) : g ≠ gb492)); have n11_ := Aside0.mk ((by rw [hg]; exact Nat.ne_of_gt (IsS93.lt (show IsS93 w0 _ g s0_0 t490 t491 from by repeat ((with_reducible exact HI0.out)))) : gb492 ≠ g)); clear HO488; clear HI0; clear BK485; clear HK; clear HB; have HO488 := n0_; have HI0 := n1_; have BK485 := n2_; have HK := n3_; have HB := n4_; have BK492 := n5_; have GW492 := n6_; have GE492 := n7_; have NB485_492 := n8_; have NB492_485 := n9_; have NB0_492 := n10_; have NB492_0 := n11_; clear n0_ n1_ n2_ n3_ n4_ n5_ n6_ n7_ n8_ n9_ n10_ n11_; clear hb hbox hg; have hnb9 := NB492_485.out; have hnc9 := NB485_492.out; have hnb10 := NB492_0.out; have hnc10 := NB0_492.out; have hcz11_0 : w8.cell? ⟨gb492, 0, none⟩ = some (.string (⟨#[]⟩ : ByteArray)) := (blk_cell BK492.out 0).trans rfl; have hcz11_1 : w8.cell? ⟨gb492, 1, none⟩ = some (.slice none 0 0) := (blk_cell BK492.out 1).trans rfl; have hfz11_0 := blk_frozen BK492.out 0; have hfz11_1 := blk_frozen BK492.out 1))
  go_loopg [4] k (fun kq v4 w' => ∃ (x4_1 : Int) (x1001_1 : Int) (x1002_1 : Int) (x493001_1 : List (S45)) (u493001 : Value), v4 = .int .i64 x4_1 ∧ Aside0 (spec_l09Head.l0 kq x4_1 s0_0 x1001_1 x1002_1 t489 x493001_1 = some (r1, r2, r3, r4)) ∧ Aside0 (kq ≤ k) ∧ Aside0 (Kd.R k45 45 w' w.heap.size (fun _ => True) u493001 x493001_1) ∧ Aside0 (w'.heap[gb485]? = some (.cells #[.string (⟨#[]⟩ : ByteArray), (.slice none 0 0)] 48 (0, 0))) ∧ Aside0 (w'.heap[gb492]? = some (.cells #[.string t489, u493001] 48 (0, 0))) ∧ Aside0 (IsS93 w0 w' g s0_0 x1001_1 x1002_1) ∧ Aside0 (KeepBut w w' g none) ∧ Aside0 (Below w0.heap.size w0 w'))
  case atStart => exact ⟨(0), (t490), (t491), (([] : List (S45))), (.slice none 0 0), (by rfl), H', ⟨Nat.le_refl _⟩, ⟨by exact Kd.R_nil _ _ _ _ _⟩, ⟨by (with_reducible repeat (first | refine blk_drewN ?_ _ | refine blk_drew ?_ | refine blk_alloc ?_ _ )); refine blk_far ?_ NB485_492.out _; (with_reducible repeat (first | refine blk_drewN ?_ _ | refine blk_drew ?_ | refine blk_alloc ?_ _ )); refine blk_far ?_ NB485_492.out _; (with_reducible repeat (first | refine blk_drewN ?_ _ | refine blk_drew ?_ | refine blk_alloc ?_ _ )); exact BK485.out⟩, ⟨by (with_reducible repeat (first | refine blk_drewN ?_ _ | refine blk_drew ?_ | refine blk_alloc ?_ _ )); refine blk_put (cs := #[.string t489, .slice none 0 0]) ?_ 1 _ rfl; (with_reducible repeat (first | refine blk_drewN ?_ _ | refine blk_drew ?_ | refine blk_alloc ?_ _ )); refine blk_put (cs := #[.string (⟨#[]⟩ : ByteArray), .slice none 0 0]) ?_ 0 _ rfl; (with_reducible repeat (first | refine blk_drewN ?_ _ | refine blk_drew ?_ | refine blk_alloc ?_ _ )); exact BK492.out⟩, ⟨by repeat ((with_reducible first | exact HI0.out | refine IsS93.far ?_ NB0_492.out _))⟩, ⟨by repeat ((with_reducible first | exact HK.out | refine keep_far ?_ GW492.out _))⟩, ⟨by repeat ((with_reducible first | exact HB.out | refine below_set ?_ GE492.out))⟩⟩
  case round =>
    clear H'
    clear hcz11_0
    clear hcz11_1
    clear hfz11_0
    clear hfz11_1
    obtain ⟨x4_1, x1001_1, x1002_1, x493001_1, u493001, rfl, HA, HK1, HO_493001, BK485, BK492, HI0, HK, HB⟩ := hrel
    cases gk with
    | zero => exact absurd HA.out (by simp [spec_l09Head.l0])
    | succ k1 =>
      have H := HA.out
      clear HA
      simp only [spec_l09Head.l0] at H
      replace H := Option.bind_eq_some_iff.mp H
      obtain ⟨⟨t493, t494, t495⟩, A120, H⟩ := H
      replace H : (if x4_1 < t493 then ((spec_l09FieldOf.f s0_0 t494 t495).bind fun bt496 => (if x493001_1.length < 4398046511104 then (spec_l09Head.l0 k1 (wrap64 (x4_1 + 1)) s0_0 bt496.2.2.1 bt496.2.2.2 t489 (x493001_1 ++ [(⟨bt496.1, bt496.2.1⟩ : S45)])) else (none))) else (some (t489, x493001_1, t494, t495))) = some (r1, r2, r3, r4) := H
      have A12 := Aside0.mk A120
      clear A120
      have HS13 := Aside0.mk H
      clear H
      go_upto_if 12 with (((with_reducible refine gate_callee (f := 44) rfl ?_); refine goesL_ (some 11) rfl rfl Try.func44 (by kernel_rfl) rfl #[.pointer (some ⟨g, 0, none⟩), .int .i64 4] rfl (by (try simp only [List.map_toArray, List.map_cons, List.map_nil]); rfl) ?_; (with_reducible refine (spec_l01Below.calls g s0_0 x1001_1 x1002_1 4 t493 t494 t495 w0 _ ?side1 ?side2 A12.out).mono ?_); (case side1 => repeat ((with_reducible exact HI0.out))); (case side2 => repeat ((with_reducible exact HB.out))); rintro e w14 ⟨rfl, hi, hb, hk⟩; refine ⟨_, rfl, ?_⟩; have n0_ := Aside0.mk (Kd.R_mono (Kd.R_keep (IsS93.apart (show IsS93 w0 _ g s0_0 x1001_1 x1002_1 from by repeat ((with_reducible exact HI0.out))) (by (with_reducible repeat (first | apply Kd.R_alloc | apply Kd.R_drewN | apply Kd.R_drew )); exact HO_493001.out) (by decide)) hk (fun _ h => h.2)) (fun _ h => h.1)); have n1_ := Aside0.mk (KeepBut.blk hk (g' := gb485) (o := .cells #[.string (⟨#[]⟩ : ByteArray), .slice none 0 0] 48 (0, 0)) (by (with_reducible repeat (first | refine blk_drewN ?_ _ | refine blk_drew ?_ | refine blk_alloc ?_ _ )); exact BK485.out) NB485_0.out (by simp)); have n2_ := Aside0.mk (KeepBut.blk hk (g' := gb492) (o := .cells #[.string t489, u493001] 48 (0, 0)) (by (with_reducible repeat (first | refine blk_drewN ?_ _ | refine blk_drew ?_ | refine blk_alloc ?_ _ )); exact BK492.out) NB492_0.out (by simp)); have n3_ := Aside0.mk (KeepBut.trans (by repeat ((with_reducible exact HK.out))) hk (.inl rfl)); have n4_ := Aside0.mk (hb); have n5_ := Aside0.mk (hi); clear HO_493001; clear BK485; clear BK492; clear HK; clear HB; clear HI0; have HO_493001 := n0_; have BK485 := n1_; have BK492 := n2_; have HK := n3_; have HB := n4_; have HI0 := n5_; clear n0_ n1_ n2_ n3_ n4_ n5_; (try clear hb); (try clear hb2); (try clear hk); (try clear hi)))
      (try simp only [Act.put, List.setIfInBounds_toArray, List.set_cons_zero, List.set_cons_succ])
      have H := HS13.out
      clear HS13
      by_cases c15 : x4_1 < t493
      · rw [if_pos c15] at H
        have c15b0 : decide (x4_1 < t493) = true := decide_eq_true c15
        clear c15
        (rw [c15b0])
        replace H := Option.bind_eq_some_iff.mp H
        obtain ⟨⟨t496, t497, t498, t499⟩, A160, H⟩ := H
        replace H : (if x493001_1.length < 4398046511104 then (spec_l09Head.l0 k1 (wrap64 (x4_1 + 1)) s0_0 t498 t499 t489 (x493001_1 ++ [(⟨t496, t497⟩ : S45)])) else (none)) = some (r1, r2, r3, r4) := H
        have A16 := Aside0.mk A160
        clear A160
        by_cases c17 : x493001_1.length < 4398046511104
        · rw [if_pos c17] at H
          have LMc17 := Aside0.mk c17
          clear c17
          obtain ⟨y500, hy500⟩ : ∃ y_ : List (S45), y_ = (x493001_1 ++ [(⟨t496, t497⟩ : S45)]) := ⟨_, rfl⟩
          replace H : (spec_l09Head.l0 k1 (wrap64 (x4_1 + 1)) s0_0 t498 t499 t489 y500) = some (r1, r2, r3, r4) := by (rw [hy500]; with_reducible exact H)
          have Ny500 := Aside0.mk hy500
          clear hy500
          have H' := Aside0.mk H
          clear H
          go_wp2
          have n0_ := Aside0.mk (Kd.R_drew HO_493001.out)
          have n1_ := Aside0.mk (blk_drew BK485.out)
          have n2_ := Aside0.mk (blk_drew BK492.out)
          have n3_ := Aside0.mk (IsS93.drew HI0.out)
          have n4_ := Aside0.mk (keep_drew HK.out)
          have n5_ := Aside0.mk (below_drew1 HB.out)
          clear HO_493001
          clear BK485
          clear BK492
          clear HI0
          clear HK
          clear HB
          have HO_493001 := n0_
          have BK485 := n1_
          have BK492 := n2_
          have HI0 := n3_
          have HK := n4_
          have HB := n5_
          clear n0_ n1_ n2_ n3_ n4_ n5_
          refine start_ (n := 8) (S := fun w' => w'.cell? ⟨gb492, 0, none⟩ = some (.string t489) ∧ w'.cell? ⟨gb492, 1, none⟩ = some (u493001)) (ds := [7]) #[false, false, false, false, false, false, false, false] (by kernel_rfl) rfl rfl ⟨(blk_cell BK492.out 0).trans rfl, (blk_cell BK492.out 1).trans rfl⟩ (fun hHeld => ?_); refine with_tabW spec_l09Head.tab5 spec_l09Head.bits5 (fun HT_ HW_ => ?_)
          generalize w14.drew = w18 at HO_493001 BK485 BK492 HI0 HK HB hHeld ⊢
          refine pure_ (i := 0) (N := some 15) (v := ?_) (a' := ?_) #[true, false, false, false, false, false, false, false] rfl rfl (any_of HT_.out (by kernel_rfl)) (fun _ _ _ h => h) (Or.inl ⟨by rfl, ?_⟩) ?_ ?_
          rotate_left
          · intro w'
            go_simp
            with_reducible rfl
          rotate_left
          · simp only [Act.put, List.setIfInBounds_toArray, List.set_cons_zero, List.set_cons_succ, i64_w, i32_w]
            rfl
          refine pure_ (i := 2) (N := some 17) (v := ?_) (a' := ?_) #[true, false, true, false, false, false, false, false] rfl rfl (any_of HT_.out (by kernel_rfl)) (fun _ _ _ h => h) (Or.inl ⟨by rfl, ?_⟩) ?_ ?_
          rotate_left
          · intro w'
            go_simp
            with_reducible rfl
          rotate_left
          · simp only [Act.put, List.setIfInBounds_toArray, List.set_cons_zero, List.set_cons_succ, i64_w, i32_w]
            rfl
          refine take_ (i := 1) (N := some 16) (v := ?_) (a' := ?_) #[true, true, true, false, false, false, false, false] rfl rfl (take_ofW HT_.out HW_.out (by kernel_rfl)) (fun _ _ _ h => h) (Or.inl ⟨by rfl, ?_⟩) hHeld ?_ ?_
          rotate_left
          · rintro w' ⟨s0, s1⟩
            go_simp
            with_reducible rfl
          rotate_left
          · simp only [Act.put, List.setIfInBounds_toArray, List.set_cons_zero, List.set_cons_succ, i64_w, i32_w]
            rfl
          refine one_ (i := 3) (N := some 18) #[true, true, true, true, false, false, false, false] rfl rfl (one_of HT_.out (by kernel_rfl)) (by decide) (fun K hK => ?_)
          refine goes_ Try.func68 (by kernel_rfl) rfl #[.pointer (some ⟨g, 0, none⟩)] (by rfl) rfl rfl (by (try simp only [List.map_toArray, List.map_cons, List.map_nil]); rfl) ?_
          with_reducible refine (spec_l09FieldOf.calls g s0_0 t494 t495 t496 t497 t498 t499 w0 _ ?side1 ?side2 A16.out).mono ?_
          (case side1 => repeat ((with_reducible exact HI0.out)))
          (case side2 => repeat ((with_reducible exact HB.out)))
          rintro e w19 ⟨rfl, hi, hb, hk⟩
          refine ⟨_, rfl, ?_⟩
          have n0_ := Aside0.mk (Kd.R_mono (Kd.R_keep (IsS93.apart (show IsS93 w0 _ g s0_0 t494 t495 from by repeat ((with_reducible exact HI0.out))) (by (with_reducible repeat (first | apply Kd.R_alloc | apply Kd.R_drewN | apply Kd.R_drew )); exact HO_493001.out) (by decide)) hk (fun _ h => h.2)) (fun _ h => h.1))
          have n1_ := Aside0.mk (KeepBut.blk hk (g' := gb485) (o := .cells #[.string (⟨#[]⟩ : ByteArray), .slice none 0 0] 48 (0, 0)) (by (with_reducible repeat (first | refine blk_drewN ?_ _ | refine blk_drew ?_ | refine blk_alloc ?_ _ )); exact BK485.out) NB485_0.out (by simp))
          have n2_ := Aside0.mk (KeepBut.blk hk (g' := gb492) (o := .cells #[.string t489, u493001] 48 (0, 0)) (by (with_reducible repeat (first | refine blk_drewN ?_ _ | refine blk_drew ?_ | refine blk_alloc ?_ _ )); exact BK492.out) NB492_0.out (by simp))
          have n3_ := Aside0.mk (KeepBut.trans (by repeat ((with_reducible exact HK.out))) hk (.inl rfl))
          have n4_ := Aside0.mk (hb)
          have n5_ := Aside0.mk (hi)
          clear HO_493001
          clear BK485
          clear BK492
          clear HK
          clear HB
          clear HI0
          have HO_493001 := n0_
          have BK485 := n1_
          have BK492 := n2_
          have HK := n3_
          have HB := n4_
          have HI0 := n5_
          clear n0_ n1_ n2_ n3_ n4_ n5_
          (try clear hb)
          (try clear hb2)
          (try clear hk)
          (try clear hi)
          refine hK.out _ _ ⟨(blk_cell BK492.out 0).trans rfl, (blk_cell BK492.out 1).trans rfl⟩ (fun hHeld => ?_)
          clear hK K
          refine norm_ (a' := ?_) ?_ ?_
          rotate_left
          · show Act.put _ (some 18) _ = _
            simp only [Act.put, List.setIfInBounds_toArray, List.set_cons_zero, List.set_cons_succ, i64_w, i32_w]
            rfl
          refine one_ (i := 4) (N := some 19) #[true, true, true, true, true, false, false, false] rfl rfl (one_of HT_.out (by kernel_rfl)) (by decide) (fun K hK => ?_)
          refine value_ (w1 := ?_) (v := ?_) (by rfl) rfl ?_ ?_
          rotate_left 2
          · go_simp
            constructor
            · rfl
            · rfl
          refine hK.out _ _ ⟨(blk_cell (blk_alloc BK492.out _) 0).trans rfl, (blk_cell (blk_alloc BK492.out _) 1).trans rfl⟩ (fun hHeld => ?_)
          clear hK K
          refine norm_ (a' := ?_) ?_ ?_
          rotate_left
          · show Act.put _ (some 19) _ = _
            simp only [Act.put, List.setIfInBounds_toArray, List.set_cons_zero, List.set_cons_succ, i64_w, i32_w]
            rfl
          refine one_ (i := 5) (N := some 20) #[true, true, true, true, true, true, false, false] rfl rfl (one_of HT_.out (by kernel_rfl)) (by decide) (fun K hK => ?_)
          refine Kd.R_append_step k45 w.heap.size (by rfl) (.tmp 16) (.tmp 19) 46 45 (.agg #[(.string ⟨#[]⟩), (.string ⟨#[]⟩)]) 32 rfl Try.underlying46 info45 rfl (by decide) (by omega) u493001 x493001_1 (⟨t496, t497⟩ : S45) [.string t496, .string t497] (fun _ => True) (fun _ => False) rfl rfl ?aP (fun _ hk => hk.elim) ?aF ?aO (Below.refl _ _) ?aS ?aL ?_
          (case aP => exact k45_mkM _ _ _ (⟨t496, t497⟩ : S45))
          (case aF => exact (fun _ _ => trivial))
          (case aO => exact (by (with_reducible repeat (first | apply Kd.R_alloc | apply Kd.R_drewN | apply Kd.R_drew )); exact HO_493001.out))
          (case aS => exact (keep_size (w := w) (g := g) (row := none) (by repeat ((with_reducible exact HK.out)))))
          (case aL => have := LMc17.out; omega)
          intro v501 w20 ho hb hg hat
          rw [← Ny500.out] at ho
          have n0_ := Aside0.mk (blk_grown (g := gb485) (o := .cells #[.string (⟨#[]⟩ : ByteArray), .slice none 0 0] 48 (0, 0)) (by (with_reducible repeat (first | refine blk_drewN ?_ _ | refine blk_drew ?_ | refine blk_alloc ?_ _ )); exact BK485.out) hg (Kd.R_ne HO_493001.out BK485.out (by decide)))
          have n1_ := Aside0.mk (blk_grown (g := gb492) (o := .cells #[.string t489, u493001] 48 (0, 0)) (by (with_reducible repeat (first | refine blk_drewN ?_ _ | refine blk_drew ?_ | refine blk_alloc ?_ _ )); exact BK492.out) hg (Kd.R_ne HO_493001.out BK492.out (by decide)))
          have n2_ := Aside0.mk (IsS93.grown (w0 := w0) (g := g) (f0 := s0_0) (f1 := t498) (f2 := t499) (by repeat ((with_reducible exact HI0.out))) hg (IsS93.own_ne HI0.out HO_493001.out (by decide)))
          have n3_ := Aside0.mk (below_weaken (by repeat ((with_reducible exact HB.out))) HL.out hb)
          have n4_ := Aside0.mk (KeepBut.trans (by repeat ((with_reducible exact HK.out))) (KeepBut.of_grown hg g) (Kd.R_base2 HO_493001.out))
          have n5_ := Aside0.mk (ho)
          clear BK485
          clear BK492
          clear HI0
          clear HB
          clear HK
          clear HO_493001
          have BK485 := n0_
          have BK492 := n1_
          have HI0 := n2_
          have HB := n3_
          have HK := n4_
          have HO502 := n5_
          clear n0_ n1_ n2_ n3_ n4_ n5_
          clear ho hb hg hat
          obtain ⟨Ao21, co21, eo21⟩ := Kd.R_slice HO502.out
          (subst eo21)
          refine hK.out _ _ ⟨(blk_cell BK492.out 0).trans rfl, (blk_cell BK492.out 1).trans rfl⟩ (fun hHeld => ?_)
          clear hK K
          refine norm_ (a' := ?_) ?_ ?_
          rotate_left
          · show Act.put _ (some 20) _ = _
            simp only [Act.put, List.setIfInBounds_toArray, List.set_cons_zero, List.set_cons_succ, i64_w, i32_w]
            rfl
          refine pure_ (i := 6) (N := some 21) (v := ?_) (a' := ?_) #[true, true, true, true, true, true, true, false] rfl rfl (any_of HT_.out (by kernel_rfl)) (fun _ _ _ h => h) (Or.inl ⟨by rfl, ?_⟩) ?_ ?_
          rotate_left
          · intro w'
            go_simp
            with_reducible rfl
          rotate_left
          · simp only [Act.put, List.setIfInBounds_toArray, List.set_cons_zero, List.set_cons_succ, i64_w, i32_w]
            rfl
          refine last_ (i := 7) (N := none) #[true, true, true, true, true, true, true, true] rfl rfl (one_of HT_.out (by kernel_rfl)) (by decide) (fun K hK => ?_)
          have hs22 : w20.cell? ⟨gb492, 1, none⟩ = some (u493001) := (blk_cell BK492.out 1).trans rfl
          have hfs22 := blk_frozen BK492.out 1
          have hns22_0 := NB485_492.out
          have hms22_0 := NB492_485.out
          refine skip_ (w1 := ?_) (by rfl) rfl ?_ ?_
          rotate_left
          · go_simp
            rfl
          refine hK.out _ _ ?_
          clear hK K
          refine done_ (done_of HT_.out (by kernel_rfl)) ?_
          go_wp2
          go_roundg k1
          case measure => have := HK1.out; omega
          case rel => exact ⟨(wrap64 (x4_1 + 1)), (t498), (t499), (y500), (.slice Ao21 y500.length co21), (by rfl), H', ⟨by have := HK1.out; omega⟩, ⟨by (with_reducible repeat (first | apply Kd.R_alloc | apply Kd.R_drewN | apply Kd.R_drew )); exact Kd.R_mono (Kd.R_far (p := ⟨gb492, 1, none⟩) (Kd.R_types HO502.out BK492.out (by decide)) (fun _ hk => hk.2) (.slice Ao21 y500.length co21)) (fun _ hk => trivial)⟩, ⟨by (with_reducible repeat (first | refine blk_drewN ?_ _ | refine blk_drew ?_ | refine blk_alloc ?_ _ )); refine blk_far ?_ NB485_492.out _; (with_reducible repeat (first | refine blk_drewN ?_ _ | refine blk_drew ?_ | refine blk_alloc ?_ _ )); exact BK485.out⟩, ⟨by (with_reducible repeat (first | refine blk_drewN ?_ _ | refine blk_drew ?_ | refine blk_alloc ?_ _ )); refine blk_put (cs := #[.string t489, u493001]) ?_ 1 _ rfl; (with_reducible repeat (first | refine blk_drewN ?_ _ | refine blk_drew ?_ | refine blk_alloc ?_ _ )); exact BK492.out⟩, ⟨by repeat ((with_reducible first | exact HI0.out | refine IsS93.far ?_ NB0_492.out _))⟩, ⟨by repeat ((with_reducible first | exact HK.out | refine keep_far ?_ GW492.out _))⟩, ⟨by repeat ((with_reducible first | exact HB.out | refine below_set ?_ GE492.out))⟩⟩
        · rw [if_neg c17] at H
          exact absurd H (by simp)
      · rw [if_neg c15] at H
        have c15b0 : decide (x4_1 < t493) = false := decide_eq_false c15
        clear c15
        (rw [c15b0])
        simp only [Option.some.injEq, Prod.mk.injEq] at H
        obtain ⟨rfl, rfl, rfl, rfl⟩ := H
        have hnb23 := NB492_485.out
        have hnc23 := NB485_492.out
        have hnb24 := NB492_0.out
        have hnc24 := NB0_492.out
        have hcz25_0 : w14.cell? ⟨gb492, 0, none⟩ = some (.string t489) := (blk_cell BK492.out 0).trans rfl
        have hcz25_1 : w14.cell? ⟨gb492, 1, none⟩ = some (u493001) := (blk_cell BK492.out 1).trans rfl
        have hfz25_0 := blk_frozen BK492.out 0
        have hfz25_1 := blk_frozen BK492.out 1
        have hnb26 := NB485_0.out
        have hnc26 := NB0_485.out
        have hcz27_0 : w14.cell? ⟨gb485, 0, none⟩ = some (.string (⟨#[]⟩ : ByteArray)) := (blk_cell BK485.out 0).trans rfl
        have hcz27_1 : w14.cell? ⟨gb485, 1, none⟩ = some (.slice none 0 0) := (blk_cell BK485.out 1).trans rfl
        have hfz27_0 := blk_frozen BK485.out 0
        have hfz27_1 := blk_frozen BK485.out 1
        obtain ⟨Ao28, co28, eo28⟩ := Kd.R_slice HO_493001.out
        subst eo28
        go_wp2
        refine bodyPost_ret (results_cell_row rfl _ _ gb485 48 #[.string t489, .slice Ao28 x493001_1.length co28] (0, 0) _ rfl (by (with_reducible repeat (first | refine blk_drewN ?_ _ | refine blk_drew ?_ | refine blk_alloc ?_ _ )); refine blk_put (cs := #[.string t489, .slice none 0 0]) ?_ 1 _ rfl; (with_reducible repeat (first | refine blk_drewN ?_ _ | refine blk_drew ?_ | refine blk_alloc ?_ _ )); refine blk_put (cs := #[.string (⟨#[]⟩ : ByteArray), .slice none 0 0]) ?_ 0 _ rfl; (with_reducible repeat (first | refine blk_drewN ?_ _ | refine blk_drew ?_ | refine blk_alloc ?_ _ )); exact BK485.out) Try.underlying48 rfl (by kernel_rfl)) rfl ?_
        exact ⟨_, by rfl, by (with_reducible repeat (first | apply Kd.R_alloc | apply Kd.R_drewN | apply Kd.R_drew )); exact Kd.R_mono (Kd.R_far (p := ⟨gb485, 1, none⟩) (Kd.R_far (p := ⟨gb485, 0, none⟩) (Kd.R_types HO_493001.out BK485.out (by decide)) (fun _ hk => hk.2) (.string t489)) (fun _ hk => hk.2) (.slice Ao28 x493001_1.length co28)) (fun _ hk => trivial), by repeat ((with_reducible first | exact HI0.out | refine IsS93.far ?_ NB0_485.out _)), by repeat ((with_reducible first | exact HB.out | refine below_set ?_ GE485.out)), by repeat ((with_reducible first | exact HK.out | refine keep_far ?_ GW485.out _))⟩
mutual
def spec_DrawBodyOf.j0 : Nat → Int → ByteArray → Int → Bool → ByteArray → List (S45) → Option (ByteArray × (List (S45)) × ByteArray)
  | 0, _, _, _, _, _, _ => none
  | k + 1, x6, x7, x19, x20, x524000, x524001 => if x20 = true then (some (x524000, (([(⟨(⟨#[116, 114, 97, 110, 115, 102, 101, 114, 45, 101, 110, 99, 111, 100, 105, 110, 103]⟩ : ByteArray), (⟨#[99, 104, 117, 110, 107, 101, 100]⟩ : ByteArray)⟩ : S45)] : List (S45))), x7)) else (if x19 = 3 then (spec_DrawBodyOf.j1 k x6 x7 x19 (x19 == 3) x524000 x524001) else (spec_DrawBodyOf.j1 k x6 x7 x19 (x19 == 4) x524000 x524001))
def spec_DrawBodyOf.j1 : Nat → Int → ByteArray → Int → Bool → ByteArray → List (S45) → Option (ByteArray × (List (S45)) × ByteArray)
  | 0, _, _, _, _, _, _ => none
  | k + 1, x6, x7, x19, x27, x524000, x524001 => if x27 = true then ((spec_Decimal.f k x6).bind fun t527 => (some (x524000, (([(⟨(⟨#[99, 111, 110, 116, 101, 110, 116, 45, 108, 101, 110, 103, 116, 104]⟩ : ByteArray), t527⟩ : S45)] : List (S45))), x7))) else (if x19 = 5 then ((some (([(⟨#[53]⟩ : ByteArray), (⟨#[48, 53]⟩ : ByteArray), (⟨#[54]⟩ : ByteArray), (⟨#[120]⟩ : ByteArray)] : List ByteArray) : List ByteArray)).bind fun y531 => (if 0 ≤ (Int.tmod x6 4) then (if (Int.tmod x6 4) < (y531.length : Int) then (some (x524000, (([(⟨(⟨#[99, 111, 110, 116, 101, 110, 116, 45, 108, 101, 110, 103, 116, 104]⟩ : ByteArray), (⟨#[53]⟩ : ByteArray)⟩ : S45), (⟨(⟨#[99, 111, 110, 116, 101, 110, 116, 45, 108, 101, 110, 103, 116, 104]⟩ : ByteArray), rdOf ByteArray.empty y531 (Int.tmod x6 4)⟩ : S45)] : List (S45))), x7)) else (none)) else (none))) else (some (x524000, x524001, x7)))
end
def spec_DrawBodyOf.f (k : Nat) (l0 : List Int) : Option (ByteArray × (List (S45)) × ByteArray) := (spec_l01New.f k l0).bind fun bt504 => ((spec_l01Below.f bt504.1 bt504.2.1 bt504.2.2 10).bind fun bt508 => ((spec_l01Below.f bt504.1 bt508.2.1 bt508.2.2 60).bind fun bt511 => ((spec_l11Body.f k bt504.1 bt511.2.1 bt511.2.2).bind fun bt514 => ((spec_l09Head.f k bt504.1 bt514.2.1 bt514.2.2).bind fun bt517 => (if bt508.1 = 0 then (spec_DrawBodyOf.j0 k bt511.1 bt514.1 bt508.1 (bt508.1 == 0) bt517.1 bt517.2.1) else (if bt508.1 = 1 then (spec_DrawBodyOf.j0 k bt511.1 bt514.1 bt508.1 (bt508.1 == 1) bt517.1 bt517.2.1) else (spec_DrawBodyOf.j0 k bt511.1 bt514.1 bt508.1 (bt508.1 == 2) bt517.1 bt517.2.1)))))))
set_option maxHeartbeats 8000000 in
set_option maxRecDepth 100000 in
theorem spec_DrawBodyOf.calls (k : Nat) (A0 : Option Addr) (c0 : Nat) (l0 : List Int) (r1 : ByteArray) (r2 : List (S45)) (r3 : ByteArray) (w : World) (hr0 : Kd.C (Kd.int .u8) w A0 l0.length l0) (hc0 : l0.length ≤ c0) (h : spec_DrawBodyOf.f k l0 = some (r1, r2, r3)) :
    Calls Try.prog 32 #[.slice A0 l0.length c0] w fun e w' => ∃ v1_ : Value, e = .returned (.tuple #[.agg #[.string r1, v1_], .string r3]) ∧ Kd.R k45 45 w' w.heap.size (fun _ => True) v1_ r2 ∧ Below w.heap.size w w' := by
  have hu48 := Try.underlying48
  have hu45 := Try.underlying45
  have HR0 := Aside0.mk hr0
  have HC0 := Aside0.mk hc0
  clear hr0 hc0
  have HB := Aside0.mk (Below.refl w.heap.size w)
  have H : ((spec_l01New.f k l0).bind fun bt504 => ((spec_l01Below.f bt504.1 bt504.2.1 bt504.2.2 10).bind fun bt508 => ((spec_l01Below.f bt504.1 bt508.2.1 bt508.2.2 60).bind fun bt511 => ((spec_l11Body.f k bt504.1 bt511.2.1 bt511.2.2).bind fun bt514 => ((spec_l09Head.f k bt504.1 bt514.2.1 bt514.2.2).bind fun bt517 => (if bt508.1 = 0 then (spec_DrawBodyOf.j0 k bt511.1 bt514.1 bt508.1 (bt508.1 == 0) bt517.1 bt517.2.1) else (if bt508.1 = 1 then (spec_DrawBodyOf.j0 k bt511.1 bt514.1 bt508.1 (bt508.1 == 1) bt517.1 bt517.2.1) else (spec_DrawBodyOf.j0 k bt511.1 bt514.1 bt508.1 (bt508.1 == 2) bt517.1 bt517.2.1)))))))) = some (r1, r2, r3) := h
  clear h
  replace H := Option.bind_eq_some_iff.mp H
  obtain ⟨⟨t504, t505, t506⟩, A20, H⟩ := H
  replace H : ((spec_l01Below.f t504 t505 t506 10).bind fun bt508 => ((spec_l01Below.f t504 bt508.2.1 bt508.2.2 60).bind fun bt511 => ((spec_l11Body.f k t504 bt511.2.1 bt511.2.2).bind fun bt514 => ((spec_l09Head.f k t504 bt514.2.1 bt514.2.2).bind fun bt517 => (if bt508.1 = 0 then (spec_DrawBodyOf.j0 k bt511.1 bt514.1 bt508.1 (bt508.1 == 0) bt517.1 bt517.2.1) else (if bt508.1 = 1 then (spec_DrawBodyOf.j0 k bt511.1 bt514.1 bt508.1 (bt508.1 == 1) bt517.1 bt517.2.1) else (spec_DrawBodyOf.j0 k bt511.1 bt514.1 bt508.1 (bt508.1 == 2) bt517.1 bt517.2.1))))))) = some (r1, r2, r3) := H
  have A2 := Aside0.mk A20
  clear A20
  replace H := Option.bind_eq_some_iff.mp H
  obtain ⟨⟨t508, t509, t510⟩, A30, H⟩ := H
  replace H : ((spec_l01Below.f t504 t509 t510 60).bind fun bt511 => ((spec_l11Body.f k t504 bt511.2.1 bt511.2.2).bind fun bt514 => ((spec_l09Head.f k t504 bt514.2.1 bt514.2.2).bind fun bt517 => (if t508 = 0 then (spec_DrawBodyOf.j0 k bt511.1 bt514.1 t508 (t508 == 0) bt517.1 bt517.2.1) else (if t508 = 1 then (spec_DrawBodyOf.j0 k bt511.1 bt514.1 t508 (t508 == 1) bt517.1 bt517.2.1) else (spec_DrawBodyOf.j0 k bt511.1 bt514.1 t508 (t508 == 2) bt517.1 bt517.2.1)))))) = some (r1, r2, r3) := H
  have A3 := Aside0.mk A30
  clear A30
  replace H := Option.bind_eq_some_iff.mp H
  obtain ⟨⟨t511, t512, t513⟩, A40, H⟩ := H
  replace H : ((spec_l11Body.f k t504 t512 t513).bind fun bt514 => ((spec_l09Head.f k t504 bt514.2.1 bt514.2.2).bind fun bt517 => (if t508 = 0 then (spec_DrawBodyOf.j0 k t511 bt514.1 t508 (t508 == 0) bt517.1 bt517.2.1) else (if t508 = 1 then (spec_DrawBodyOf.j0 k t511 bt514.1 t508 (t508 == 1) bt517.1 bt517.2.1) else (spec_DrawBodyOf.j0 k t511 bt514.1 t508 (t508 == 2) bt517.1 bt517.2.1))))) = some (r1, r2, r3) := H
  have A4 := Aside0.mk A40
  clear A40
  replace H := Option.bind_eq_some_iff.mp H
  obtain ⟨⟨t514, t515, t516⟩, A50, H⟩ := H
  replace H : ((spec_l09Head.f k t504 t515 t516).bind fun bt517 => (if t508 = 0 then (spec_DrawBodyOf.j0 k t511 t514 t508 (t508 == 0) bt517.1 bt517.2.1) else (if t508 = 1 then (spec_DrawBodyOf.j0 k t511 t514 t508 (t508 == 1) bt517.1 bt517.2.1) else (spec_DrawBodyOf.j0 k t511 t514 t508 (t508 == 2) bt517.1 bt517.2.1)))) = some (r1, r2, r3) := H
  have A5 := Aside0.mk A50
  clear A50
  replace H := Option.bind_eq_some_iff.mp H
  obtain ⟨⟨t517, t518, t521, t522⟩, A60, H⟩ := H
  replace H : (if t508 = 0 then (spec_DrawBodyOf.j0 k t511 t514 t508 (t508 == 0) t517 t518) else (if t508 = 1 then (spec_DrawBodyOf.j0 k t511 t514 t508 (t508 == 1) t517 t518) else (spec_DrawBodyOf.j0 k t511 t514 t508 (t508 == 2) t517 t518))) = some (r1, r2, r3) := H
  have A6 := Aside0.mk A60
  clear A60
  have HC7 := Aside0.mk H
  clear H
  go_enter Try.func32, Try.ntmps32
  go_upto_if 20 with (first | ((with_reducible refine gate_dst (N := 2) rfl ?_); refine box_event ?hg (N := 2) ?hd (cs := #[.string (⟨#[]⟩ : ByteArray), .slice none 0 0]) (t := 48) ?hr ?_; (case hd => rfl); (case hg => rfl); (case hr => (go_simp; done)); intro gb503 hg w8 hbox hb; have n0_ := Aside0.mk (below_step (by repeat ((with_reducible exact HB.out))) hb); have n1_ := Aside0.mk (hbox); have n2_ := Aside0.mk ((by rw [hg]; exact (below_size (by repeat ((with_reducible exact HB.out)))) : w.heap.size ≤ gb503)); have n3_ := Aside0.mk ((by rw [hg]; exact (below_size (by repeat ((with_reducible exact HB.out)))) : w.heap.size ≤ gb503)); clear HB; have HB := n0_; have BK503 := n1_; have GW503 := n2_; have GE503 := n3_; clear n0_ n1_ n2_ n3_; clear hb hbox hg) | ((with_reducible refine gate_callee (f := 42) rfl ?_); refine goesL_ (some 10) rfl rfl Try.func42 (by kernel_rfl) rfl #[.slice A0 l0.length c0] rfl (by (try simp only [List.map_toArray, List.map_cons, List.map_nil]); rfl) ?_; (with_reducible refine (spec_l01New.calls k _ _ l0 t504 t505 t506 w _ ?side1 ?side2 ?side3 A2.out).mono ?_); (case side1 => repeat ((with_reducible exact HB.out))); (case side2 => exact HR0.out); (case side3 => exact HC0.out); rintro e w9 ⟨g507, rfl, hi, hb, hb2⟩; refine ⟨_, rfl, ?_⟩; have n0_ := Aside0.mk (blk_below (g := gb503) (o := .cells #[.string (⟨#[]⟩ : ByteArray), .slice none 0 0] 48 (0, 0)) (by (with_reducible repeat (first | refine blk_drewN ?_ _ | refine blk_drew ?_ | refine blk_alloc ?_ _ )); exact BK503.out) hb2); have n1_ := Aside0.mk (hb); have n2_ := Aside0.mk (hi); have n3_ := Aside0.mk (IsS93.ne_blk hi (blk_below (g := gb503) (o := .cells #[.string (⟨#[]⟩ : ByteArray), .slice none 0 0] 48 (0, 0)) (by (with_reducible repeat (first | refine blk_drewN ?_ _ | refine blk_drew ?_ | refine blk_alloc ?_ _ )); exact BK503.out) hb2) (by decide)); have n4_ := Aside0.mk (Ne.symm (IsS93.ne_blk hi (blk_below (g := gb503) (o := .cells #[.string (⟨#[]⟩ : ByteArray), .slice none 0 0] 48 (0, 0)) (by (with_reducible repeat (first | refine blk_drewN ?_ _ | refine blk_drew ?_ | refine blk_alloc ?_ _ )); exact BK503.out) hb2) (by decide))); clear BK503; clear HB; have BK503 := n0_; have HB := n1_; have HI507 := n2_; have NB507_503 := n3_; have NB503_507 := n4_; clear n0_ n1_ n2_ n3_ n4_; (try clear hb); (try clear hb2); (try clear hk); (try clear hi)) | ((with_reducible refine gate_callee (f := 44) rfl ?_); refine goesL_ (some 12) rfl rfl Try.func44 (by kernel_rfl) rfl #[.pointer (some ⟨g507, 0, none⟩), .int .i64 10] rfl (by (try simp only [List.map_toArray, List.map_cons, List.map_nil]); rfl) ?_; (with_reducible refine (spec_l01Below.calls g507 t504 t505 t506 10 t508 t509 t510 w _ ?side1 ?side2 A3.out).mono ?_); (case side1 => repeat ((with_reducible exact HI507.out))); (case side2 => repeat ((with_reducible exact HB.out))); rintro e w10 ⟨rfl, hi, hb, hk⟩; refine ⟨_, rfl, ?_⟩; have n0_ := Aside0.mk (KeepBut.blk hk (g' := gb503) (o := .cells #[.string (⟨#[]⟩ : ByteArray), .slice none 0 0] 48 (0, 0)) (by (with_reducible repeat (first | refine blk_drewN ?_ _ | refine blk_drew ?_ | refine blk_alloc ?_ _ )); exact BK503.out) NB503_507.out (by simp)); have n1_ := Aside0.mk (hb); have n2_ := Aside0.mk (hi); clear BK503; clear HB; clear HI507; have BK503 := n0_; have HB := n1_; have HI507 := n2_; clear n0_ n1_ n2_; (try clear hb); (try clear hb2); (try clear hk); (try clear hi)) | ((with_reducible refine gate_callee (f := 44) rfl ?_); refine goesL_ (some 14) rfl rfl Try.func44 (by kernel_rfl) rfl #[.pointer (some ⟨g507, 0, none⟩), .int .i64 60] rfl (by (try simp only [List.map_toArray, List.map_cons, List.map_nil]); rfl) ?_; (with_reducible refine (spec_l01Below.calls g507 t504 t509 t510 60 t511 t512 t513 w _ ?side1 ?side2 A4.out).mono ?_); (case side1 => repeat ((with_reducible exact HI507.out))); (case side2 => repeat ((with_reducible exact HB.out))); rintro e w11 ⟨rfl, hi, hb, hk⟩; refine ⟨_, rfl, ?_⟩; have n0_ := Aside0.mk (KeepBut.blk hk (g' := gb503) (o := .cells #[.string (⟨#[]⟩ : ByteArray), .slice none 0 0] 48 (0, 0)) (by (with_reducible repeat (first | refine blk_drewN ?_ _ | refine blk_drew ?_ | refine blk_alloc ?_ _ )); exact BK503.out) NB503_507.out (by simp)); have n1_ := Aside0.mk (hb); have n2_ := Aside0.mk (hi); clear BK503; clear HB; clear HI507; have BK503 := n0_; have HB := n1_; have HI507 := n2_; clear n0_ n1_ n2_; (try clear hb); (try clear hb2); (try clear hk); (try clear hi)) | ((with_reducible refine gate_callee (f := 53) rfl ?_); refine goesL_ (some 16) rfl rfl Try.func53 (by kernel_rfl) rfl #[.pointer (some ⟨g507, 0, none⟩)] rfl (by (try simp only [List.map_toArray, List.map_cons, List.map_nil]); rfl) ?_; (with_reducible refine (spec_l11Body.calls k g507 t504 t512 t513 t514 t515 t516 w _ ?side1 ?side2 A5.out).mono ?_); (case side1 => repeat ((with_reducible exact HI507.out))); (case side2 => repeat ((with_reducible exact HB.out))); rintro e w12 ⟨rfl, hi, hb, hk⟩; refine ⟨_, rfl, ?_⟩; have n0_ := Aside0.mk (KeepBut.blk hk (g' := gb503) (o := .cells #[.string (⟨#[]⟩ : ByteArray), .slice none 0 0] 48 (0, 0)) (by (with_reducible repeat (first | refine blk_drewN ?_ _ | refine blk_drew ?_ | refine blk_alloc ?_ _ )); exact BK503.out) NB503_507.out (by simp)); have n1_ := Aside0.mk (hb); have n2_ := Aside0.mk (hi); clear BK503; clear HB; clear HI507; have BK503 := n0_; have HB := n1_; have HI507 := n2_; clear n0_ n1_ n2_; (try clear hb); (try clear hb2); (try clear hk); (try clear hi)) | ((with_reducible refine gate_callee (f := 55) rfl ?_); refine goesL_ (some 18) rfl rfl Try.func55 (by kernel_rfl) rfl #[.pointer (some ⟨g507, 0, none⟩)] rfl (by (try simp only [List.map_toArray, List.map_cons, List.map_nil]); rfl) ?_; (with_reducible refine (spec_l09Head.calls k g507 t504 t515 t516 t517 t518 t521 t522 w _ ?side1 ?side2 A6.out).mono ?_); (case side1 => repeat ((with_reducible exact HI507.out))); (case side2 => repeat ((with_reducible exact HB.out))); rintro e w13 ⟨v519, rfl, ho0, hi, hb, hk⟩; refine ⟨_, rfl, ?_⟩; have n0_ := Aside0.mk (KeepBut.blk hk (g' := gb503) (o := .cells #[.string (⟨#[]⟩ : ByteArray), .slice none 0 0] 48 (0, 0)) (by (with_reducible repeat (first | refine blk_drewN ?_ _ | refine blk_drew ?_ | refine blk_alloc ?_ _ )); exact BK503.out) NB503_507.out (by simp)); have n1_ := Aside0.mk (Kd.R_lower ho0 (below_size (by repeat ((with_reducible exact HB.out))))); have n2_ := Aside0.mk (hb); have n3_ := Aside0.mk (hi); clear BK503; clear HB; clear HI507; have BK503 := n0_; have HO520 := n1_; have HB := n2_; have HI507 := n3_; clear n0_ n1_ n2_ n3_; (try clear hb); (try clear hb2); (try clear hk); (try clear hi); (try clear ho0)) | ((with_reducible refine gate_dst (N := 8) rfl ?_); refine box_event ?hg (N := 8) ?hd (cs := #[.string (⟨#[]⟩ : ByteArray), .slice none 0 0]) (t := 48) ?hr ?_; (case hd => rfl); (case hg => rfl); (case hr => (go_simp; done)); intro gb523 hg w14 hbox hb; have n0_ := Aside0.mk (Kd.R_below (by (with_reducible repeat (first | apply Kd.R_alloc | apply Kd.R_drewN | apply Kd.R_drew )); exact HO520.out) hb); have n1_ := Aside0.mk (blk_below (g := gb503) (o := .cells #[.string (⟨#[]⟩ : ByteArray), .slice none 0 0] 48 (0, 0)) (by (with_reducible repeat (first | refine blk_drewN ?_ _ | refine blk_drew ?_ | refine blk_alloc ?_ _ )); exact BK503.out) hb); have n2_ := Aside0.mk (IsS93.below (by repeat ((with_reducible exact HI507.out))) hb); have n3_ := Aside0.mk (below_step (by repeat ((with_reducible exact HB.out))) hb); have n4_ := Aside0.mk (hbox); have n5_ := Aside0.mk ((by rw [hg]; exact (below_size (by repeat ((with_reducible exact HB.out)))) : w.heap.size ≤ gb523)); have n6_ := Aside0.mk ((by rw [hg]; exact (below_size (by repeat ((with_reducible exact HB.out)))) : w.heap.size ≤ gb523)); have n7_ := Aside0.mk ((by rw [hg]; exact Nat.ne_of_lt (blk_lt (g := gb503) (o := .cells #[.string (⟨#[]⟩ : ByteArray), .slice none 0 0] 48 (0, 0)) (by (with_reducible repeat (first | refine blk_drewN ?_ _ | refine blk_drew ?_ | refine blk_alloc ?_ _ )); exact BK503.out)) : gb503 ≠ gb523)); have n8_ := Aside0.mk ((by rw [hg]; exact Nat.ne_of_gt (blk_lt (g := gb503) (o := .cells #[.string (⟨#[]⟩ : ByteArray), .slice none 0 0] 48 (0, 0)) (by (with_reducible repeat (first | refine blk_drewN ?_ _ | refine blk_drew ?_ | refine blk_alloc ?_ _ )); exact BK503.out)) : gb523 ≠ gb503)); have n9_ := Aside0.mk ((by rw [hg]; exact Nat.ne_of_lt (IsS93.lt (show IsS93 w _ g507 t504 t521 t522 from by repeat ((with_reducible exact HI507.out)))) : g507 ≠ gb523)); have n10_ := Aside0.mk ((by rw [hg]; exact Nat.ne_of_gt (IsS93.lt (show IsS93 w _ g507 t504 t521 t522 from by repeat ((with_reducible exact HI507.out)))) : gb523 ≠ g507)); clear HO520; clear BK503; clear HI507; clear HB; have HO520 := n0_; have BK503 := n1_; have HI507 := n2_; have HB := n3_; have BK523 := n4_; have GW523 := n5_; have GE523 := n6_; have NB503_523 := n7_; have NB523_503 := n8_; have NB507_523 := n9_; have NB523_507 := n10_; clear n0_ n1_ n2_ n3_ n4_ n5_ n6_ n7_ n8_ n9_ n10_; clear hb hbox hg; have hnb15 := NB523_503.out; have hnc15 := NB503_523.out; have hnb16 := NB523_507.out; have hnc16 := NB507_523.out; have hcz17_0 : w14.cell? ⟨gb523, 0, none⟩ = some (.string (⟨#[]⟩ : ByteArray)) := (blk_cell BK523.out 0).trans rfl; have hcz17_1 : w14.cell? ⟨gb523, 1, none⟩ = some (.slice none 0 0) := (blk_cell BK523.out 1).trans rfl; have hfz17_0 := blk_frozen BK523.out 0; have hfz17_1 := blk_frozen BK523.out 1; obtain ⟨Ao18, co18, eo18⟩ := Kd.R_slice HO520.out; subst eo18))
  (try simp only [Act.put, List.setIfInBounds_toArray, List.set_cons_zero, List.set_cons_succ])
  go_cut [20] (fun v20 wc => ∃ (kq : Nat) (x20_6 : Bool), v20 = .bool x20_6 ∧ Aside0 (spec_DrawBodyOf.j0 kq t511 t514 t508 x20_6 t517 t518 = some (r1, r2, r3)) ∧ Aside0 (kq ≤ k) ∧ Aside0 (Kd.R k45 45 wc w.heap.size (fun _ => True) (.slice Ao18 t518.length co18) t518) ∧ Aside0 (wc.heap[gb503]? = some (.cells #[.string (⟨#[]⟩ : ByteArray), (.slice none 0 0)] 48 (0, 0))) ∧ Aside0 (wc.heap[gb523]? = some (.cells #[.string t517, (.slice Ao18 t518.length co18)] 48 (0, 0))) ∧ Aside0 (Below w.heap.size w wc))
  case first =>
    have H := HC7.out
    clear HC7
    by_cases c19 : t508 = 0
    · rw [if_pos c19] at H
      have c19b0 : (t508 == 0) = true := beq_iff_eq.mpr c19
      have c19b1 : (t508 != 0) = false := bne_eq_false_iff_eq.mpr c19
      clear c19
      (rw [c19b0])
      have H' := Aside0.mk H
      clear H
      go_wp2
      go_meet
      case rel => exact ⟨_, ((t508 == 0)), (by (simp [*]; done)), H', ⟨by omega⟩, ⟨by (with_reducible repeat (first | apply Kd.R_alloc | apply Kd.R_drewN | apply Kd.R_drew )); exact Kd.R_mono (Kd.R_far (p := ⟨gb523, 1, none⟩) (Kd.R_far (p := ⟨gb523, 0, none⟩) (Kd.R_types HO520.out BK523.out (by decide)) (fun _ hk => hk.2) (.string t517)) (fun _ hk => hk.2) (.slice Ao18 t518.length co18)) (fun _ hk => trivial)⟩, ⟨by (with_reducible repeat (first | refine blk_drewN ?_ _ | refine blk_drew ?_ | refine blk_alloc ?_ _ )); refine blk_far ?_ NB503_523.out _; (with_reducible repeat (first | refine blk_drewN ?_ _ | refine blk_drew ?_ | refine blk_alloc ?_ _ )); refine blk_far ?_ NB503_523.out _; (with_reducible repeat (first | refine blk_drewN ?_ _ | refine blk_drew ?_ | refine blk_alloc ?_ _ )); exact BK503.out⟩, ⟨by (with_reducible repeat (first | refine blk_drewN ?_ _ | refine blk_drew ?_ | refine blk_alloc ?_ _ )); refine blk_put (cs := #[.string t517, .slice none 0 0]) ?_ 1 _ rfl; (with_reducible repeat (first | refine blk_drewN ?_ _ | refine blk_drew ?_ | refine blk_alloc ?_ _ )); refine blk_put (cs := #[.string (⟨#[]⟩ : ByteArray), .slice none 0 0]) ?_ 0 _ rfl; (with_reducible repeat (first | refine blk_drewN ?_ _ | refine blk_drew ?_ | refine blk_alloc ?_ _ )); exact BK523.out⟩, ⟨by repeat ((with_reducible first | exact HB.out | refine below_set ?_ GE523.out))⟩⟩
    · rw [if_neg c19] at H
      have c19b0 : (t508 == 0) = false := beq_eq_false_iff_ne.mpr c19
      have c19b1 : (t508 != 0) = true := bne_iff_ne.mpr c19
      (rw [c19b0])
      by_cases c20 : t508 = 1
      · rw [if_pos c20] at H
        have c20b0 : (t508 == 1) = true := beq_iff_eq.mpr c20
        have c20b1 : (t508 != 1) = false := bne_eq_false_iff_eq.mpr c20
        clear c20
        have H' := Aside0.mk H
        clear H
        go_wp2
        go_meet
        case rel => exact ⟨_, ((t508 == 1)), (by (simp [*]; done)), H', ⟨by omega⟩, ⟨by (with_reducible repeat (first | apply Kd.R_alloc | apply Kd.R_drewN | apply Kd.R_drew )); exact Kd.R_mono (Kd.R_far (p := ⟨gb523, 1, none⟩) (Kd.R_far (p := ⟨gb523, 0, none⟩) (Kd.R_types HO520.out BK523.out (by decide)) (fun _ hk => hk.2) (.string t517)) (fun _ hk => hk.2) (.slice Ao18 t518.length co18)) (fun _ hk => trivial)⟩, ⟨by (with_reducible repeat (first | refine blk_drewN ?_ _ | refine blk_drew ?_ | refine blk_alloc ?_ _ )); refine blk_far ?_ NB503_523.out _; (with_reducible repeat (first | refine blk_drewN ?_ _ | refine blk_drew ?_ | refine blk_alloc ?_ _ )); refine blk_far ?_ NB503_523.out _; (with_reducible repeat (first | refine blk_drewN ?_ _ | refine blk_drew ?_ | refine blk_alloc ?_ _ )); exact BK503.out⟩, ⟨by (with_reducible repeat (first | refine blk_drewN ?_ _ | refine blk_drew ?_ | refine blk_alloc ?_ _ )); refine blk_put (cs := #[.string t517, .slice none 0 0]) ?_ 1 _ rfl; (with_reducible repeat (first | refine blk_drewN ?_ _ | refine blk_drew ?_ | refine blk_alloc ?_ _ )); refine blk_put (cs := #[.string (⟨#[]⟩ : ByteArray), .slice none 0 0]) ?_ 0 _ rfl; (with_reducible repeat (first | refine blk_drewN ?_ _ | refine blk_drew ?_ | refine blk_alloc ?_ _ )); exact BK523.out⟩, ⟨by repeat ((with_reducible first | exact HB.out | refine below_set ?_ GE523.out))⟩⟩
      · rw [if_neg c20] at H
        have c20b0 : (t508 == 1) = false := beq_eq_false_iff_ne.mpr c20
        have c20b1 : (t508 != 1) = true := bne_iff_ne.mpr c20
        have H' := Aside0.mk H
        clear H
        go_wp2
        go_meet
        case rel => exact ⟨_, ((t508 == 2)), (by rfl), H', ⟨by omega⟩, ⟨by (with_reducible repeat (first | apply Kd.R_alloc | apply Kd.R_drewN | apply Kd.R_drew )); exact Kd.R_mono (Kd.R_far (p := ⟨gb523, 1, none⟩) (Kd.R_far (p := ⟨gb523, 0, none⟩) (Kd.R_types HO520.out BK523.out (by decide)) (fun _ hk => hk.2) (.string t517)) (fun _ hk => hk.2) (.slice Ao18 t518.length co18)) (fun _ hk => trivial)⟩, ⟨by (with_reducible repeat (first | refine blk_drewN ?_ _ | refine blk_drew ?_ | refine blk_alloc ?_ _ )); refine blk_far ?_ NB503_523.out _; (with_reducible repeat (first | refine blk_drewN ?_ _ | refine blk_drew ?_ | refine blk_alloc ?_ _ )); refine blk_far ?_ NB503_523.out _; (with_reducible repeat (first | refine blk_drewN ?_ _ | refine blk_drew ?_ | refine blk_alloc ?_ _ )); exact BK503.out⟩, ⟨by (with_reducible repeat (first | refine blk_drewN ?_ _ | refine blk_drew ?_ | refine blk_alloc ?_ _ )); refine blk_put (cs := #[.string t517, .slice none 0 0]) ?_ 1 _ rfl; (with_reducible repeat (first | refine blk_drewN ?_ _ | refine blk_drew ?_ | refine blk_alloc ?_ _ )); refine blk_put (cs := #[.string (⟨#[]⟩ : ByteArray), .slice none 0 0]) ?_ 0 _ rfl; (with_reducible repeat (first | refine blk_drewN ?_ _ | refine blk_drew ?_ | refine blk_alloc ?_ _ )); exact BK523.out⟩, ⟨by repeat ((with_reducible first | exact HB.out | refine below_set ?_ GE523.out))⟩⟩
  case rest =>
    clear HC7
    clear hcz17_0
    clear hcz17_1
    clear hfz17_0
    clear hfz17_1
    obtain ⟨kq, x20_6, rfl, HA, HJ6, HO_524001, BK503, BK523, HB⟩ := hcut
    cases kq with
    | zero => exact absurd HA.out (by simp [spec_DrawBodyOf.j0])
    | succ kj6 =>
      have H := HA.out
      clear HA
      simp only [spec_DrawBodyOf.j0] at H
      by_cases c21 : x20_6 = true
      · subst c21
        have H1 : (some (t517, (([(⟨(⟨#[116, 114, 97, 110, 115, 102, 101, 114, 45, 101, 110, 99, 111, 100, 105, 110, 103]⟩ : ByteArray), (⟨#[99, 104, 117, 110, 107, 101, 100]⟩ : ByteArray)⟩ : S45)] : List (S45))), t514)) = some (r1, r2, r3) := by rw [if_pos rfl] at H; exact H
        clear H
        have H := H1
        clear H1
        obtain ⟨y524, hy524⟩ : ∃ y_ : List (S45), y_ = (([(⟨(⟨#[116, 114, 97, 110, 115, 102, 101, 114, 45, 101, 110, 99, 111, 100, 105, 110, 103]⟩ : ByteArray), (⟨#[99, 104, 117, 110, 107, 101, 100]⟩ : ByteArray)⟩ : S45)] : List (S45))) := ⟨_, rfl⟩
        replace H : (some (t517, y524, t514)) = some (r1, r2, r3) := by (rw [hy524]; with_reducible exact H)
        have Ny524 := Aside0.mk hy524
        clear hy524
        simp only [Option.some.injEq, Prod.mk.injEq] at H
        obtain ⟨rfl, rfl, rfl⟩ := H
        go_wp2_with (((with_reducible refine gate_dst (N := 25) rfl ?_); refine Kd.R_lit k45 _ 45 ?hg (N := 25) ?hd (xs := ([(⟨(⟨#[116, 114, 97, 110, 115, 102, 101, 114, 45, 101, 110, 99, 111, 100, 105, 110, 103]⟩ : ByteArray), (⟨#[99, 104, 117, 110, 107, 101, 100]⟩ : ByteArray)⟩ : S45)] : List (S45))) (inner := [.string (⟨#[116, 114, 97, 110, 115, 102, 101, 114, 45, 101, 110, 99, 111, 100, 105, 110, 103]⟩ : ByteArray), .string (⟨#[99, 104, 117, 110, 107, 101, 100]⟩ : ByteArray)]) (ok := fun _ => True) (okp := fun _ => True) ?hr ?hp (fun _ hk => hk) trivial (Below.refl _ _) (Nat.le_refl _) (by simp) ?_; (case hd => rfl); (case hg => rfl); (case hr => (go_simp; done)); (case hp => exact (Reps.c2 (show Kd.M k45 _ _ _ (⟨(⟨#[116, 114, 97, 110, 115, 102, 101, 114, 45, 101, 110, 99, 111, 100, 105, 110, 103]⟩ : ByteArray), (⟨#[99, 104, 117, 110, 107, 101, 100]⟩ : ByteArray)⟩ : S45) [.string (⟨#[116, 114, 97, 110, 115, 102, 101, 114, 45, 101, 110, 99, 111, 100, 105, 110, 103]⟩ : ByteArray), .string (⟨#[99, 104, 117, 110, 107, 101, 100]⟩ : ByteArray)] from (k45_mkM _ _ _ (⟨(⟨#[116, 114, 97, 110, 115, 102, 101, 114, 45, 101, 110, 99, 111, 100, 105, 110, 103]⟩ : ByteArray), (⟨#[99, 104, 117, 110, 107, 101, 100]⟩ : ByteArray)⟩ : S45) )) (Reps.none _ _))); intro v525 w22 ho23 hb hg_ hnew_; clear hg_ hnew_; (rw [← Ny524.out] at ho23); have n0_ := Aside0.mk (Kd.R_elder' (by (with_reducible repeat (first | apply Kd.R_alloc | apply Kd.R_drewN | apply Kd.R_drew )); exact HO_524001.out) (Kd.R_base ho23) hb); have n1_ := Aside0.mk (Kd.R_lower (Kd.R_new' ho23 (Kd.R_lt (by (with_reducible repeat (first | apply Kd.R_alloc | apply Kd.R_drewN | apply Kd.R_drew )); exact HO_524001.out))) (below_size (by repeat ((with_reducible exact HB.out))))); have n2_ := Aside0.mk (blk_below (g := gb503) (o := .cells #[.string (⟨#[]⟩ : ByteArray), .slice none 0 0] 48 (0, 0)) (by (with_reducible repeat (first | refine blk_drewN ?_ _ | refine blk_drew ?_ | refine blk_alloc ?_ _ )); exact BK503.out) hb); have n3_ := Aside0.mk (blk_below (g := gb523) (o := .cells #[.string t517, .slice Ao18 t518.length co18] 48 (0, 0)) (by (with_reducible repeat (first | refine blk_drewN ?_ _ | refine blk_drew ?_ | refine blk_alloc ?_ _ )); exact BK523.out) hb); have n4_ := Aside0.mk (below_step (by repeat ((with_reducible exact HB.out))) hb); clear HO_524001; clear BK503; clear BK523; clear HB; have HO_524001 := n0_; have HO526 := n1_; have BK503 := n2_; have BK523 := n3_; have HB := n4_; clear n0_ n1_ n2_ n3_ n4_; clear hb ho23; obtain ⟨Ao24, co24, eo24⟩ := Kd.R_slice HO526.out; subst eo24; have hnb25 := NB523_503.out; have hnc25 := NB503_523.out; have hcz26_0 : w22.cell? ⟨gb523, 0, none⟩ = some (.string t517) := (blk_cell BK523.out 0).trans rfl; have hcz26_1 : w22.cell? ⟨gb523, 1, none⟩ = some (.slice Ao18 t518.length co18) := (blk_cell BK523.out 1).trans rfl; have hfz26_0 := blk_frozen BK523.out 0; have hfz26_1 := blk_frozen BK523.out 1; have hcz27_0 : w22.cell? ⟨gb503, 0, none⟩ = some (.string (⟨#[]⟩ : ByteArray)) := (blk_cell BK503.out 0).trans rfl; have hcz27_1 : w22.cell? ⟨gb503, 1, none⟩ = some (.slice none 0 0) := (blk_cell BK503.out 1).trans rfl; have hfz27_0 := blk_frozen BK503.out 0; have hfz27_1 := blk_frozen BK503.out 1))
        refine bodyPost_ret (results_ct rfl _ _ gb503 48 #[.string t517, .slice Ao24 y524.length co24] (0, 0) _ rfl (by (with_reducible repeat (first | refine blk_drewN ?_ _ | refine blk_drew ?_ | refine blk_alloc ?_ _ )); refine blk_put (cs := #[.string t517, .slice none 0 0]) ?_ 1 _ rfl; (with_reducible repeat (first | refine blk_drewN ?_ _ | refine blk_drew ?_ | refine blk_alloc ?_ _ )); refine blk_put (cs := #[.string (⟨#[]⟩ : ByteArray), .slice none 0 0]) ?_ 0 _ rfl; (with_reducible repeat (first | refine blk_drewN ?_ _ | refine blk_drew ?_ | refine blk_alloc ?_ _ )); refine blk_far ?_ NB503_523.out _; (with_reducible repeat (first | refine blk_drewN ?_ _ | refine blk_drew ?_ | refine blk_alloc ?_ _ )); exact BK503.out) Try.underlying48 rfl (by kernel_rfl)) rfl ?_
        exact ⟨_, by rfl, by (with_reducible repeat (first | apply Kd.R_alloc | apply Kd.R_drewN | apply Kd.R_drew )); exact Kd.R_mono (Kd.R_far (p := ⟨gb503, 1, none⟩) (Kd.R_far (p := ⟨gb503, 0, none⟩) (Kd.R_far (p := ⟨gb523, 1, none⟩) (Kd.R_types (Kd.R_types HO526.out BK523.out (by decide)) BK503.out (by decide)) (fun _ hk => hk.1.2) (.slice Ao24 y524.length co24)) (fun _ hk => hk.2) (.string t517)) (fun _ hk => hk.2) (.slice Ao24 y524.length co24)) (fun _ hk => trivial), by repeat ((with_reducible first | exact HB.out | refine below_set ?_ GE503.out | refine below_set ?_ GE523.out))⟩
      · replace c21 := Bool.eq_false_iff.mpr c21
        subst c21
        have H1 : (if t508 = 3 then (spec_DrawBodyOf.j1 kj6 t511 t514 t508 (t508 == 3) t517 t518) else (spec_DrawBodyOf.j1 kj6 t511 t514 t508 (t508 == 4) t517 t518)) = some (r1, r2, r3) := by rw [if_neg (show ¬ (false = true) by decide)] at H; exact H
        clear H
        have H := H1
        clear H1
        have HC28 := Aside0.mk H
        clear H
        go_upto_if 27 with (fail)
        go_cut [27] (fun v27 wc => ∃ (kq : Nat) (x27_27 : Bool), v27 = .bool x27_27 ∧ Aside0 (spec_DrawBodyOf.j1 kq t511 t514 t508 x27_27 t517 t518 = some (r1, r2, r3)) ∧ Aside0 (kq ≤ kj6) ∧ Aside0 (Kd.R k45 45 wc w.heap.size (fun _ => True) (.slice Ao18 t518.length co18) t518) ∧ Aside0 (wc.heap[gb503]? = some (.cells #[.string (⟨#[]⟩ : ByteArray), (.slice none 0 0)] 48 (0, 0))) ∧ Aside0 (wc.heap[gb523]? = some (.cells #[.string t517, (.slice Ao18 t518.length co18)] 48 (0, 0))) ∧ Aside0 (Below w.heap.size w wc))
        case first =>
          have H := HC28.out
          clear HC28
          by_cases c29 : t508 = 3
          · rw [if_pos c29] at H
            have c29b0 : (t508 == 3) = true := beq_iff_eq.mpr c29
            have c29b1 : (t508 != 3) = false := bne_eq_false_iff_eq.mpr c29
            clear c29
            (rw [c29b0])
            have H' := Aside0.mk H
            clear H
            go_wp2
            go_meet
            case rel => exact ⟨_, ((t508 == 3)), (by (simp [*]; done)), H', ⟨by have := HJ6.out; omega⟩, ⟨by (with_reducible repeat (first | apply Kd.R_alloc | apply Kd.R_drewN | apply Kd.R_drew )); exact HO_524001.out⟩, ⟨by (with_reducible repeat (first | refine blk_drewN ?_ _ | refine blk_drew ?_ | refine blk_alloc ?_ _ )); exact BK503.out⟩, ⟨by (with_reducible repeat (first | refine blk_drewN ?_ _ | refine blk_drew ?_ | refine blk_alloc ?_ _ )); exact BK523.out⟩, ⟨by repeat ((with_reducible exact HB.out))⟩⟩
          · rw [if_neg c29] at H
            have c29b0 : (t508 == 3) = false := beq_eq_false_iff_ne.mpr c29
            have c29b1 : (t508 != 3) = true := bne_iff_ne.mpr c29
            (rw [c29b0])
            have H' := Aside0.mk H
            clear H
            go_wp2
            go_meet
            case rel => exact ⟨_, ((t508 == 4)), (by rfl), H', ⟨by have := HJ6.out; omega⟩, ⟨by (with_reducible repeat (first | apply Kd.R_alloc | apply Kd.R_drewN | apply Kd.R_drew )); exact HO_524001.out⟩, ⟨by (with_reducible repeat (first | refine blk_drewN ?_ _ | refine blk_drew ?_ | refine blk_alloc ?_ _ )); exact BK503.out⟩, ⟨by (with_reducible repeat (first | refine blk_drewN ?_ _ | refine blk_drew ?_ | refine blk_alloc ?_ _ )); exact BK523.out⟩, ⟨by repeat ((with_reducible exact HB.out))⟩⟩
        case rest =>
          clear HC28
          obtain ⟨kq, x27_27, rfl, HA, HJ27, HO_524001, BK503, BK523, HB⟩ := hcut
          cases kq with
          | zero => exact absurd HA.out (by simp [spec_DrawBodyOf.j1])
          | succ kj27 =>
            have H := HA.out
            clear HA
            simp only [spec_DrawBodyOf.j1] at H
            by_cases c30 : x27_27 = true
            · subst c30
              have H1 : ((spec_Decimal.f kj27 t511).bind fun t527 => (some (t517, (([(⟨(⟨#[99, 111, 110, 116, 101, 110, 116, 45, 108, 101, 110, 103, 116, 104]⟩ : ByteArray), t527⟩ : S45)] : List (S45))), t514))) = some (r1, r2, r3) := by rw [if_pos rfl] at H; exact H
              clear H
              have H := H1
              clear H1
              replace H := Option.bind_eq_some_iff.mp H
              obtain ⟨t527, A310, H⟩ := H
              replace H : (some (t517, (([(⟨(⟨#[99, 111, 110, 116, 101, 110, 116, 45, 108, 101, 110, 103, 116, 104]⟩ : ByteArray), t527⟩ : S45)] : List (S45))), t514)) = some (r1, r2, r3) := H
              have A31 := Aside0.mk A310
              clear A310
              obtain ⟨y528, hy528⟩ : ∃ y_ : List (S45), y_ = (([(⟨(⟨#[99, 111, 110, 116, 101, 110, 116, 45, 108, 101, 110, 103, 116, 104]⟩ : ByteArray), t527⟩ : S45)] : List (S45))) := ⟨_, rfl⟩
              replace H : (some (t517, y528, t514)) = some (r1, r2, r3) := by (rw [hy528]; with_reducible exact H)
              have Ny528 := Aside0.mk hy528
              clear hy528
              simp only [Option.some.injEq, Prod.mk.injEq] at H
              obtain ⟨rfl, rfl, rfl⟩ := H
              go_wp2_with (first | ((with_reducible refine gate_callee (f := 23) rfl ?_); refine goesL_ (some 31) rfl rfl Try.func23 (by kernel_rfl) rfl #[.int .i64 t511] rfl (by (try simp only [List.map_toArray, List.map_cons, List.map_nil]); rfl) ?_; (with_reducible refine (spec_Decimal.calls kj27 t511 t527 _ A31.out).mono ?_); rintro e w32 ⟨rfl, hb⟩; refine ⟨_, rfl, ?_⟩; have n0_ := Aside0.mk (Kd.R_below (by (with_reducible repeat (first | apply Kd.R_alloc | apply Kd.R_drewN | apply Kd.R_drew )); exact HO_524001.out) hb); have n1_ := Aside0.mk (blk_below (g := gb503) (o := .cells #[.string (⟨#[]⟩ : ByteArray), .slice none 0 0] 48 (0, 0)) (by (with_reducible repeat (first | refine blk_drewN ?_ _ | refine blk_drew ?_ | refine blk_alloc ?_ _ )); exact BK503.out) hb); have n2_ := Aside0.mk (blk_below (g := gb523) (o := .cells #[.string t517, .slice Ao18 t518.length co18] 48 (0, 0)) (by (with_reducible repeat (first | refine blk_drewN ?_ _ | refine blk_drew ?_ | refine blk_alloc ?_ _ )); exact BK523.out) hb); have n3_ := Aside0.mk (below_step (by repeat ((with_reducible exact HB.out))) hb); clear HO_524001; clear BK503; clear BK523; clear HB; have HO_524001 := n0_; have BK503 := n1_; have BK523 := n2_; have HB := n3_; clear n0_ n1_ n2_ n3_; (try clear hb); (try clear hb2); (try clear hk); (try clear hi)) | ((with_reducible refine gate_dst (N := 33) rfl ?_); refine Kd.R_lit k45 _ 45 ?hg (N := 33) ?hd (xs := ([(⟨(⟨#[99, 111, 110, 116, 101, 110, 116, 45, 108, 101, 110, 103, 116, 104]⟩ : ByteArray), t527⟩ : S45)] : List (S45))) (inner := [.string (⟨#[99, 111, 110, 116, 101, 110, 116, 45, 108, 101, 110, 103, 116, 104]⟩ : ByteArray), .string t527]) (ok := fun _ => True) (okp := fun _ => True) ?hr ?hp (fun _ hk => hk) trivial (Below.refl _ _) (Nat.le_refl _) (by simp) ?_; (case hd => rfl); (case hg => rfl); (case hr => (go_simp; done)); (case hp => exact (Reps.c2 (show Kd.M k45 _ _ _ (⟨(⟨#[99, 111, 110, 116, 101, 110, 116, 45, 108, 101, 110, 103, 116, 104]⟩ : ByteArray), t527⟩ : S45) [.string (⟨#[99, 111, 110, 116, 101, 110, 116, 45, 108, 101, 110, 103, 116, 104]⟩ : ByteArray), .string t527] from (k45_mkM _ _ _ (⟨(⟨#[99, 111, 110, 116, 101, 110, 116, 45, 108, 101, 110, 103, 116, 104]⟩ : ByteArray), t527⟩ : S45) )) (Reps.none _ _))); intro v529 w33 ho34 hb hg_ hnew_; clear hg_ hnew_; (rw [← Ny528.out] at ho34); have n0_ := Aside0.mk (Kd.R_elder' (by (with_reducible repeat (first | apply Kd.R_alloc | apply Kd.R_drewN | apply Kd.R_drew )); exact HO_524001.out) (Kd.R_base ho34) hb); have n1_ := Aside0.mk (Kd.R_lower (Kd.R_new' ho34 (Kd.R_lt (by (with_reducible repeat (first | apply Kd.R_alloc | apply Kd.R_drewN | apply Kd.R_drew )); exact HO_524001.out))) (below_size (by repeat ((with_reducible exact HB.out))))); have n2_ := Aside0.mk (blk_below (g := gb503) (o := .cells #[.string (⟨#[]⟩ : ByteArray), .slice none 0 0] 48 (0, 0)) (by (with_reducible repeat (first | refine blk_drewN ?_ _ | refine blk_drew ?_ | refine blk_alloc ?_ _ )); exact BK503.out) hb); have n3_ := Aside0.mk (blk_below (g := gb523) (o := .cells #[.string t517, .slice Ao18 t518.length co18] 48 (0, 0)) (by (with_reducible repeat (first | refine blk_drewN ?_ _ | refine blk_drew ?_ | refine blk_alloc ?_ _ )); exact BK523.out) hb); have n4_ := Aside0.mk (below_step (by repeat ((with_reducible exact HB.out))) hb); clear HO_524001; clear BK503; clear BK523; clear HB; have HO_524001 := n0_; have HO530 := n1_; have BK503 := n2_; have BK523 := n3_; have HB := n4_; clear n0_ n1_ n2_ n3_ n4_; clear hb ho34; obtain ⟨Ao35, co35, eo35⟩ := Kd.R_slice HO530.out; subst eo35; have hnb36 := NB523_503.out; have hnc36 := NB503_523.out; have hcz37_0 : w33.cell? ⟨gb523, 0, none⟩ = some (.string t517) := (blk_cell BK523.out 0).trans rfl; have hcz37_1 : w33.cell? ⟨gb523, 1, none⟩ = some (.slice Ao18 t518.length co18) := (blk_cell BK523.out 1).trans rfl; have hfz37_0 := blk_frozen BK523.out 0; have hfz37_1 := blk_frozen BK523.out 1; have hcz38_0 : w33.cell? ⟨gb503, 0, none⟩ = some (.string (⟨#[]⟩ : ByteArray)) := (blk_cell BK503.out 0).trans rfl; have hcz38_1 : w33.cell? ⟨gb503, 1, none⟩ = some (.slice none 0 0) := (blk_cell BK503.out 1).trans rfl; have hfz38_0 := blk_frozen BK503.out 0; have hfz38_1 := blk_frozen BK503.out 1))
              refine bodyPost_ret (results_ct rfl _ _ gb503 48 #[.string t517, .slice Ao35 y528.length co35] (0, 0) _ rfl (by (with_reducible repeat (first | refine blk_drewN ?_ _ | refine blk_drew ?_ | refine blk_alloc ?_ _ )); refine blk_put (cs := #[.string t517, .slice none 0 0]) ?_ 1 _ rfl; (with_reducible repeat (first | refine blk_drewN ?_ _ | refine blk_drew ?_ | refine blk_alloc ?_ _ )); refine blk_put (cs := #[.string (⟨#[]⟩ : ByteArray), .slice none 0 0]) ?_ 0 _ rfl; (with_reducible repeat (first | refine blk_drewN ?_ _ | refine blk_drew ?_ | refine blk_alloc ?_ _ )); refine blk_far ?_ NB503_523.out _; (with_reducible repeat (first | refine blk_drewN ?_ _ | refine blk_drew ?_ | refine blk_alloc ?_ _ )); exact BK503.out) Try.underlying48 rfl (by kernel_rfl)) rfl ?_
              exact ⟨_, by rfl, by (with_reducible repeat (first | apply Kd.R_alloc | apply Kd.R_drewN | apply Kd.R_drew )); exact Kd.R_mono (Kd.R_far (p := ⟨gb503, 1, none⟩) (Kd.R_far (p := ⟨gb503, 0, none⟩) (Kd.R_far (p := ⟨gb523, 1, none⟩) (Kd.R_types (Kd.R_types HO530.out BK523.out (by decide)) BK503.out (by decide)) (fun _ hk => hk.1.2) (.slice Ao35 y528.length co35)) (fun _ hk => hk.2) (.string t517)) (fun _ hk => hk.2) (.slice Ao35 y528.length co35)) (fun _ hk => trivial), by repeat ((with_reducible first | exact HB.out | refine below_set ?_ GE503.out | refine below_set ?_ GE523.out))⟩
            · replace c30 := Bool.eq_false_iff.mpr c30
              subst c30
              have H1 : (if t508 = 5 then ((some (([(⟨#[53]⟩ : ByteArray), (⟨#[48, 53]⟩ : ByteArray), (⟨#[54]⟩ : ByteArray), (⟨#[120]⟩ : ByteArray)] : List ByteArray) : List ByteArray)).bind fun y531 => (if 0 ≤ (Int.tmod t511 4) then (if (Int.tmod t511 4) < (y531.length : Int) then (some (t517, (([(⟨(⟨#[99, 111, 110, 116, 101, 110, 116, 45, 108, 101, 110, 103, 116, 104]⟩ : ByteArray), (⟨#[53]⟩ : ByteArray)⟩ : S45), (⟨(⟨#[99, 111, 110, 116, 101, 110, 116, 45, 108, 101, 110, 103, 116, 104]⟩ : ByteArray), rdOf ByteArray.empty y531 (Int.tmod t511 4)⟩ : S45)] : List (S45))), t514)) else (none)) else (none))) else (some (t517, t518, t514))) = some (r1, r2, r3) := by rw [if_neg (show ¬ (false = true) by decide)] at H; exact H
              clear H
              have H := H1
              clear H1
              by_cases c39 : t508 = 5
              · rw [if_pos c39] at H
                have c39b0 : (t508 == 5) = true := beq_iff_eq.mpr c39
                have c39b1 : (t508 != 5) = false := bne_eq_false_iff_eq.mpr c39
                clear c39
                obtain ⟨y531, hy531⟩ : ∃ y_ : List ByteArray, y_ = (([(⟨#[53]⟩ : ByteArray), (⟨#[48, 53]⟩ : ByteArray), (⟨#[54]⟩ : ByteArray), (⟨#[120]⟩ : ByteArray)] : List ByteArray)) := ⟨_, rfl⟩
                replace H : (if 0 ≤ (Int.tmod t511 4) then (if (Int.tmod t511 4) < (y531.length : Int) then (some (t517, (([(⟨(⟨#[99, 111, 110, 116, 101, 110, 116, 45, 108, 101, 110, 103, 116, 104]⟩ : ByteArray), (⟨#[53]⟩ : ByteArray)⟩ : S45), (⟨(⟨#[99, 111, 110, 116, 101, 110, 116, 45, 108, 101, 110, 103, 116, 104]⟩ : ByteArray), rdOf ByteArray.empty y531 (Int.tmod t511 4)⟩ : S45)] : List (S45))), t514)) else (none)) else (none)) = some (r1, r2, r3) := by (have H2_ := (Option.bind_some _ _).symm.trans H; rw [hy531]; with_reducible exact H2_)
                have Ny531 := Aside0.mk hy531
                clear hy531
                obtain ⟨ji40, hji40⟩ : ∃ j_ : Int, (Int.tmod t511 4) = j_ := ⟨_, rfl⟩
                replace H : (if 0 ≤ (ji40) then (if (ji40) < (y531.length : Int) then (some (t517, (([(⟨(⟨#[99, 111, 110, 116, 101, 110, 116, 45, 108, 101, 110, 103, 116, 104]⟩ : ByteArray), (⟨#[53]⟩ : ByteArray)⟩ : S45), (⟨(⟨#[99, 111, 110, 116, 101, 110, 116, 45, 108, 101, 110, 103, 116, 104]⟩ : ByteArray), rdOf ByteArray.empty y531 (ji40)⟩ : S45)] : List (S45))), t514)) else (none)) else (none)) = some (r1, r2, r3) := by (rw [hji40] at H; exact H)
                by_cases c41 : 0 ≤ (ji40)
                · rw [if_pos c41] at H
                  have c41b0 : decide (0 ≤ (ji40)) = true := decide_eq_true c41
                  clear c41
                  by_cases c42 : (ji40) < (y531.length : Int)
                  · rw [if_pos c42] at H
                    have c42b0 : decide ((ji40) < (y531.length : Int)) = true := decide_eq_true c42
                    clear c42
                    obtain ⟨y535, hy535⟩ : ∃ y_ : List (S45), y_ = (([(⟨(⟨#[99, 111, 110, 116, 101, 110, 116, 45, 108, 101, 110, 103, 116, 104]⟩ : ByteArray), (⟨#[53]⟩ : ByteArray)⟩ : S45), (⟨(⟨#[99, 111, 110, 116, 101, 110, 116, 45, 108, 101, 110, 103, 116, 104]⟩ : ByteArray), rdOf ByteArray.empty y531 (ji40)⟩ : S45)] : List (S45))) := ⟨_, rfl⟩
                    replace H : (some (t517, y535, t514)) = some (r1, r2, r3) := by (rw [hy535]; with_reducible exact H)
                    have Ny535 := Aside0.mk hy535
                    clear hy535
                    simp only [Option.some.injEq, Prod.mk.injEq] at H
                    obtain ⟨rfl, rfl, rfl⟩ := H
                    go_wp2_with (first | ((with_reducible refine gate_dst (N := 38) rfl ?_); refine Kd.R_lit Kd.string _ 9 ?hg (N := 38) ?hd (xs := ([(⟨#[53]⟩ : ByteArray), (⟨#[48, 53]⟩ : ByteArray), (⟨#[54]⟩ : ByteArray), (⟨#[120]⟩ : ByteArray)] : List ByteArray)) (inner := [.string (⟨#[53]⟩ : ByteArray), .string (⟨#[48, 53]⟩ : ByteArray), .string (⟨#[54]⟩ : ByteArray), .string (⟨#[120]⟩ : ByteArray)]) (ok := fun _ => True) (okp := fun _ => True) ?hr ?hp (fun _ hk => hk) trivial (Below.refl _ _) (Nat.le_refl _) (by simp) ?_; (case hd => rfl); (case hg => rfl); (case hr => (go_simp; done)); (case hp => exact (Reps.one (show Kd.M Kd.string _ _ _ (⟨#[53]⟩ : ByteArray) [.string (⟨#[53]⟩ : ByteArray)] from rfl) (Reps.one (show Kd.M Kd.string _ _ _ (⟨#[48, 53]⟩ : ByteArray) [.string (⟨#[48, 53]⟩ : ByteArray)] from rfl) (Reps.one (show Kd.M Kd.string _ _ _ (⟨#[54]⟩ : ByteArray) [.string (⟨#[54]⟩ : ByteArray)] from rfl) (Reps.one (show Kd.M Kd.string _ _ _ (⟨#[120]⟩ : ByteArray) [.string (⟨#[120]⟩ : ByteArray)] from rfl) (Reps.none _ _)))))); intro v532 w43 ho44 hb hg_ hnew_; clear hg_ hnew_; (rw [← Ny531.out] at ho44); have n0_ := Aside0.mk (Kd.R_below (by (with_reducible repeat (first | apply Kd.R_alloc | apply Kd.R_drewN | apply Kd.R_drew )); exact HO_524001.out) hb); have n1_ := Aside0.mk (Kd.R_lower ho44 (below_size (by repeat ((with_reducible exact HB.out))))); have n2_ := Aside0.mk (blk_below (g := gb503) (o := .cells #[.string (⟨#[]⟩ : ByteArray), .slice none 0 0] 48 (0, 0)) (by (with_reducible repeat (first | refine blk_drewN ?_ _ | refine blk_drew ?_ | refine blk_alloc ?_ _ )); exact BK503.out) hb); have n3_ := Aside0.mk (blk_below (g := gb523) (o := .cells #[.string t517, .slice Ao18 t518.length co18] 48 (0, 0)) (by (with_reducible repeat (first | refine blk_drewN ?_ _ | refine blk_drew ?_ | refine blk_alloc ?_ _ )); exact BK523.out) hb); have n4_ := Aside0.mk (below_step (by repeat ((with_reducible exact HB.out))) hb); clear HO_524001; clear BK503; clear BK523; clear HB; have HO_524001 := n0_; have HO533 := n1_; have BK503 := n2_; have BK523 := n3_; have HB := n4_; clear n0_ n1_ n2_ n3_ n4_; clear hb ho44; obtain ⟨Ao45, co45, eo45⟩ := Kd.R_slice HO533.out; subst eo45; have p534 : 0 ≤ ((ji40) : Int) := of_decide_eq_true (by (with_reducible assumption)); have q534 : (ji40) < (y531.length : Int) := of_decide_eq_true (by (with_reducible assumption)); obtain ⟨ad534, e534, hx534_0⟩ := Kd.at_string (Kd.R_reads' HO533.out).2.2 (ji40) p534 q534; cases e534; replace p534 := eq_true p534; replace q534 := eq_true q534) | ((with_reducible refine gate_dst (N := 44) rfl ?_); refine Kd.R_lit k45 _ 45 ?hg (N := 44) ?hd (xs := ([(⟨(⟨#[99, 111, 110, 116, 101, 110, 116, 45, 108, 101, 110, 103, 116, 104]⟩ : ByteArray), (⟨#[53]⟩ : ByteArray)⟩ : S45), (⟨(⟨#[99, 111, 110, 116, 101, 110, 116, 45, 108, 101, 110, 103, 116, 104]⟩ : ByteArray), rdOf ByteArray.empty y531 (ji40)⟩ : S45)] : List (S45))) (inner := [.string (⟨#[99, 111, 110, 116, 101, 110, 116, 45, 108, 101, 110, 103, 116, 104]⟩ : ByteArray), .string (⟨#[53]⟩ : ByteArray), .string (⟨#[99, 111, 110, 116, 101, 110, 116, 45, 108, 101, 110, 103, 116, 104]⟩ : ByteArray), .string (rdOf ByteArray.empty y531 (ji40))]) (ok := fun _ => True) (okp := fun _ => True) ?hr ?hp (fun _ hk => hk) trivial (Below.refl _ _) (Nat.le_refl _) (by simp) ?_; (case hd => rfl); (case hg => rfl); (case hr => (go_simp; done)); (case hp => exact (Reps.c2 (show Kd.M k45 _ _ _ (⟨(⟨#[99, 111, 110, 116, 101, 110, 116, 45, 108, 101, 110, 103, 116, 104]⟩ : ByteArray), (⟨#[53]⟩ : ByteArray)⟩ : S45) [.string (⟨#[99, 111, 110, 116, 101, 110, 116, 45, 108, 101, 110, 103, 116, 104]⟩ : ByteArray), .string (⟨#[53]⟩ : ByteArray)] from (k45_mkM _ _ _ (⟨(⟨#[99, 111, 110, 116, 101, 110, 116, 45, 108, 101, 110, 103, 116, 104]⟩ : ByteArray), (⟨#[53]⟩ : ByteArray)⟩ : S45) )) (Reps.c2 (show Kd.M k45 _ _ _ (⟨(⟨#[99, 111, 110, 116, 101, 110, 116, 45, 108, 101, 110, 103, 116, 104]⟩ : ByteArray), rdOf ByteArray.empty y531 (ji40)⟩ : S45) [.string (⟨#[99, 111, 110, 116, 101, 110, 116, 45, 108, 101, 110, 103, 116, 104]⟩ : ByteArray), .string (rdOf ByteArray.empty y531 (ji40))] from (k45_mkM _ _ _ (⟨(⟨#[99, 111, 110, 116, 101, 110, 116, 45, 108, 101, 110, 103, 116, 104]⟩ : ByteArray), rdOf ByteArray.empty y531 (ji40)⟩ : S45) )) (Reps.none _ _)))); intro v536 w46 ho47 hb hg_ hnew_; clear hg_ hnew_; (rw [← Ny535.out] at ho47); have n0_ := Aside0.mk (Kd.R_elder' (by (with_reducible repeat (first | apply Kd.R_alloc | apply Kd.R_drewN | apply Kd.R_drew )); exact HO_524001.out) (Kd.R_base ho47) hb); have n1_ := Aside0.mk (Kd.R_below (by (with_reducible repeat (first | apply Kd.R_alloc | apply Kd.R_drewN | apply Kd.R_drew )); exact HO533.out) hb); have n2_ := Aside0.mk (Kd.R_lower (Kd.R_new' ho47 (Kd.R_lt (by (with_reducible repeat (first | apply Kd.R_alloc | apply Kd.R_drewN | apply Kd.R_drew )); exact HO_524001.out))) (below_size (by repeat ((with_reducible exact HB.out))))); have n3_ := Aside0.mk (blk_below (g := gb503) (o := .cells #[.string (⟨#[]⟩ : ByteArray), .slice none 0 0] 48 (0, 0)) (by (with_reducible repeat (first | refine blk_drewN ?_ _ | refine blk_drew ?_ | refine blk_alloc ?_ _ )); exact BK503.out) hb); have n4_ := Aside0.mk (blk_below (g := gb523) (o := .cells #[.string t517, .slice Ao18 t518.length co18] 48 (0, 0)) (by (with_reducible repeat (first | refine blk_drewN ?_ _ | refine blk_drew ?_ | refine blk_alloc ?_ _ )); exact BK523.out) hb); have n5_ := Aside0.mk (below_step (by repeat ((with_reducible exact HB.out))) hb); clear HO_524001; clear HO533; clear BK503; clear BK523; clear HB; have HO_524001 := n0_; have HO533 := n1_; have HO537 := n2_; have BK503 := n3_; have BK523 := n4_; have HB := n5_; clear n0_ n1_ n2_ n3_ n4_ n5_; clear hb ho47; obtain ⟨Ao48, co48, eo48⟩ := Kd.R_slice HO537.out; subst eo48; have hnb49 := NB523_503.out; have hnc49 := NB503_523.out; have hcz50_0 : w46.cell? ⟨gb523, 0, none⟩ = some (.string t517) := (blk_cell BK523.out 0).trans rfl; have hcz50_1 : w46.cell? ⟨gb523, 1, none⟩ = some (.slice Ao18 t518.length co18) := (blk_cell BK523.out 1).trans rfl; have hfz50_0 := blk_frozen BK523.out 0; have hfz50_1 := blk_frozen BK523.out 1; have hcz51_0 : w46.cell? ⟨gb503, 0, none⟩ = some (.string (⟨#[]⟩ : ByteArray)) := (blk_cell BK503.out 0).trans rfl; have hcz51_1 : w46.cell? ⟨gb503, 1, none⟩ = some (.slice none 0 0) := (blk_cell BK503.out 1).trans rfl; have hfz51_0 := blk_frozen BK503.out 0; have hfz51_1 := blk_frozen BK503.out 1))
                    refine bodyPost_ret (results_ct rfl _ _ gb503 48 #[.string t517, .slice Ao48 y535.length co48] (0, 0) _ rfl (by (with_reducible repeat (first | refine blk_drewN ?_ _ | refine blk_drew ?_ | refine blk_alloc ?_ _ )); refine blk_put (cs := #[.string t517, .slice none 0 0]) ?_ 1 _ rfl; (with_reducible repeat (first | refine blk_drewN ?_ _ | refine blk_drew ?_ | refine blk_alloc ?_ _ )); refine blk_put (cs := #[.string (⟨#[]⟩ : ByteArray), .slice none 0 0]) ?_ 0 _ rfl; (with_reducible repeat (first | refine blk_drewN ?_ _ | refine blk_drew ?_ | refine blk_alloc ?_ _ )); refine blk_far ?_ NB503_523.out _; (with_reducible repeat (first | refine blk_drewN ?_ _ | refine blk_drew ?_ | refine blk_alloc ?_ _ )); exact BK503.out) Try.underlying48 rfl (by kernel_rfl)) rfl ?_
                    exact ⟨_, by rfl, by (with_reducible repeat (first | apply Kd.R_alloc | apply Kd.R_drewN | apply Kd.R_drew )); exact Kd.R_mono (Kd.R_far (p := ⟨gb503, 1, none⟩) (Kd.R_far (p := ⟨gb503, 0, none⟩) (Kd.R_far (p := ⟨gb523, 1, none⟩) (Kd.R_types (Kd.R_types HO537.out BK523.out (by decide)) BK503.out (by decide)) (fun _ hk => hk.1.2) (.slice Ao48 y535.length co48)) (fun _ hk => hk.2) (.string t517)) (fun _ hk => hk.2) (.slice Ao48 y535.length co48)) (fun _ hk => trivial), by repeat ((with_reducible first | exact HB.out | refine below_set ?_ GE503.out | refine below_set ?_ GE523.out))⟩
                  · rw [if_neg c42] at H
                    exact absurd H (by simp)
                · rw [if_neg c41] at H
                  exact absurd H (by simp)
              · rw [if_neg c39] at H
                have c39b0 : (t508 == 5) = false := beq_eq_false_iff_ne.mpr c39
                have c39b1 : (t508 != 5) = true := bne_iff_ne.mpr c39
                simp only [Option.some.injEq, Prod.mk.injEq] at H
                obtain ⟨rfl, rfl, rfl⟩ := H
                have hnb52 := NB523_503.out
                have hnc52 := NB503_523.out
                have hcz53_0 : wc.cell? ⟨gb523, 0, none⟩ = some (.string t517) := (blk_cell BK523.out 0).trans rfl
                have hcz53_1 : wc.cell? ⟨gb523, 1, none⟩ = some (.slice Ao18 t518.length co18) := (blk_cell BK523.out 1).trans rfl
                have hfz53_0 := blk_frozen BK523.out 0
                have hfz53_1 := blk_frozen BK523.out 1
                have hcz54_0 : wc.cell? ⟨gb503, 0, none⟩ = some (.string (⟨#[]⟩ : ByteArray)) := (blk_cell BK503.out 0).trans rfl
                have hcz54_1 : wc.cell? ⟨gb503, 1, none⟩ = some (.slice none 0 0) := (blk_cell BK503.out 1).trans rfl
                have hfz54_0 := blk_frozen BK503.out 0
                have hfz54_1 := blk_frozen BK503.out 1
                go_wp2
                refine bodyPost_ret (results_ct rfl _ _ gb503 48 #[.string t517, .slice Ao18 t518.length co18] (0, 0) _ rfl (by (with_reducible repeat (first | refine blk_drewN ?_ _ | refine blk_drew ?_ | refine blk_alloc ?_ _ )); refine blk_put (cs := #[.string t517, .slice none 0 0]) ?_ 1 _ rfl; (with_reducible repeat (first | refine blk_drewN ?_ _ | refine blk_drew ?_ | refine blk_alloc ?_ _ )); refine blk_put (cs := #[.string (⟨#[]⟩ : ByteArray), .slice none 0 0]) ?_ 0 _ rfl; (with_reducible repeat (first | refine blk_drewN ?_ _ | refine blk_drew ?_ | refine blk_alloc ?_ _ )); exact BK503.out) Try.underlying48 rfl (by kernel_rfl)) rfl ?_
                exact ⟨_, by rfl, by (with_reducible repeat (first | apply Kd.R_alloc | apply Kd.R_drewN | apply Kd.R_drew )); exact Kd.R_mono (Kd.R_far (p := ⟨gb503, 1, none⟩) (Kd.R_far (p := ⟨gb503, 0, none⟩) (Kd.R_types HO_524001.out BK503.out (by decide)) (fun _ hk => hk.2) (.string t517)) (fun _ hk => hk.2) (.slice Ao18 t518.length co18)) (fun _ hk => trivial), by repeat ((with_reducible first | exact HB.out | refine below_set ?_ GE503.out))⟩
def laws_FnBodiesTold.f (k : Nat) (l0 : List Int) : Option (Bool) := (laws_big.f l0).bind fun t538 => (if t538 = true then (some true) else ((spec_DrawReadChunks.f k l0).bind fun t539 => ((impl_ReadChunks.f k t539).bind fun bt540 => ((spec_ReadChunks.f k t539).bind fun bt543 => ((spec_DrawChunkText.f k l0).bind fun t546 => ((impl_ChunkText.f k t546).bind fun bt549 => ((spec_ChunkText.f k t546).bind fun bt551 => ((spec_DrawBodyOf.f k l0).bind fun bt553 => ((impl_BodyOf.f k bt553.1 bt553.2.1 bt553.2.2).bind fun bt559 => ((spec_BodyOf.f k bt553.1 bt553.2.1 bt553.2.2).bind fun bt562 => (if bt540.2.2 = bt543.2.2 then (if bt540.2.1 = bt543.2.1 then (if bt540.1.toList = bt543.1.toList then (if (bt540.1.size : Int) ≤ 400 then (if (bt549.2 == bt551.2) = true then (if bt549.1.toList = bt551.1.toList then (if bt559.2.2 = bt562.2.2 then (if bt559.2.1 = bt562.2.1 then (some (bt559.1.toList == bt562.1.toList)) else (none)) else (none)) else (none)) else (none)) else (none)) else (none)) else (none)) else (none))))))))))))
set_option maxHeartbeats 8000000 in
set_option maxRecDepth 100000 in
theorem laws_FnBodiesTold.calls (k : Nat) (A0 : Option Addr) (c0 : Nat) (l0 : List Int) (r : Bool) (w : World) (hr0 : Kd.C (Kd.int .u8) w A0 l0.length l0) (hc0 : l0.length ≤ c0) (h : laws_FnBodiesTold.f k l0 = some r) :
    Calls Try.prog 9 #[.slice A0 l0.length c0] w fun e w' => e = .returned (.bool r) ∧ Below w.heap.size w w' := by
  have hu48 := Try.underlying48
  have HR0 := Aside0.mk hr0
  have HC0 := Aside0.mk hc0
  clear hr0 hc0
  have HB := Aside0.mk (Below.refl w.heap.size w)
  have H : ((laws_big.f l0).bind fun t538 => (if t538 = true then (some true) else ((spec_DrawReadChunks.f k l0).bind fun t539 => ((impl_ReadChunks.f k t539).bind fun bt540 => ((spec_ReadChunks.f k t539).bind fun bt543 => ((spec_DrawChunkText.f k l0).bind fun t546 => ((impl_ChunkText.f k t546).bind fun bt549 => ((spec_ChunkText.f k t546).bind fun bt551 => ((spec_DrawBodyOf.f k l0).bind fun bt553 => ((impl_BodyOf.f k bt553.1 bt553.2.1 bt553.2.2).bind fun bt559 => ((spec_BodyOf.f k bt553.1 bt553.2.1 bt553.2.2).bind fun bt562 => (if bt540.2.2 = bt543.2.2 then (if bt540.2.1 = bt543.2.1 then (if bt540.1.toList = bt543.1.toList then (if (bt540.1.size : Int) ≤ 400 then (if (bt549.2 == bt551.2) = true then (if bt549.1.toList = bt551.1.toList then (if bt559.2.2 = bt562.2.2 then (if bt559.2.1 = bt562.2.1 then (some (bt559.1.toList == bt562.1.toList)) else (none)) else (none)) else (none)) else (none)) else (none)) else (none)) else (none)) else (none))))))))))))) = some r := h
  clear h
  replace H := Option.bind_eq_some_iff.mp H
  obtain ⟨t538, A20, H⟩ := H
  replace H : (if t538 = true then (some true) else ((spec_DrawReadChunks.f k l0).bind fun t539 => ((impl_ReadChunks.f k t539).bind fun bt540 => ((spec_ReadChunks.f k t539).bind fun bt543 => ((spec_DrawChunkText.f k l0).bind fun t546 => ((impl_ChunkText.f k t546).bind fun bt549 => ((spec_ChunkText.f k t546).bind fun bt551 => ((spec_DrawBodyOf.f k l0).bind fun bt553 => ((impl_BodyOf.f k bt553.1 bt553.2.1 bt553.2.2).bind fun bt559 => ((spec_BodyOf.f k bt553.1 bt553.2.1 bt553.2.2).bind fun bt562 => (if bt540.2.2 = bt543.2.2 then (if bt540.2.1 = bt543.2.1 then (if bt540.1.toList = bt543.1.toList then (if (bt540.1.size : Int) ≤ 400 then (if (bt549.2 == bt551.2) = true then (if bt549.1.toList = bt551.1.toList then (if bt559.2.2 = bt562.2.2 then (if bt559.2.1 = bt562.2.1 then (some (bt559.1.toList == bt562.1.toList)) else (none)) else (none)) else (none)) else (none)) else (none)) else (none)) else (none)) else (none)))))))))))) = some r := H
  have A2 := Aside0.mk A20
  clear A20
  have HS3 := Aside0.mk H
  clear H
  go_enter Try.func9, Try.ntmps9
  go_upto_if 24 with (((with_reducible refine gate_callee (f := 20) rfl ?_); refine goesL_ (some 24) rfl rfl Try.func20 (by kernel_rfl) rfl #[.slice A0 l0.length c0] rfl (by (try simp only [List.map_toArray, List.map_cons, List.map_nil]); rfl) ?_; (with_reducible refine (laws_big.calls _ _ l0 t538 _ ?side1 ?side2 A2.out).mono ?_); (case side1 => repeat (exact HR0.out)); (case side2 => exact HC0.out); rintro e w' ⟨rfl, rfl⟩; refine ⟨_, rfl, ?_⟩))
  (try simp only [Act.put, List.setIfInBounds_toArray, List.set_cons_zero, List.set_cons_succ])
  have H := HS3.out
  clear HS3
  by_cases c4 : t538 = true
  · subst c4
    have H1 : (some true) = some r := by rw [if_pos rfl] at H; exact H
    clear H
    have H := H1
    clear H1
    obtain rfl := Option.some.inj H
    go_wp2
    go_ret
    exact ⟨by rfl, by repeat ((with_reducible exact HB.out))⟩
  · replace c4 := Bool.eq_false_iff.mpr c4
    subst c4
    have H1 : ((spec_DrawReadChunks.f k l0).bind fun t539 => ((impl_ReadChunks.f k t539).bind fun bt540 => ((spec_ReadChunks.f k t539).bind fun bt543 => ((spec_DrawChunkText.f k l0).bind fun t546 => ((impl_ChunkText.f k t546).bind fun bt549 => ((spec_ChunkText.f k t546).bind fun bt551 => ((spec_DrawBodyOf.f k l0).bind fun bt553 => ((impl_BodyOf.f k bt553.1 bt553.2.1 bt553.2.2).bind fun bt559 => ((spec_BodyOf.f k bt553.1 bt553.2.1 bt553.2.2).bind fun bt562 => (if bt540.2.2 = bt543.2.2 then (if bt540.2.1 = bt543.2.1 then (if bt540.1.toList = bt543.1.toList then (if (bt540.1.size : Int) ≤ 400 then (if (bt549.2 == bt551.2) = true then (if bt549.1.toList = bt551.1.toList then (if bt559.2.2 = bt562.2.2 then (if bt559.2.1 = bt562.2.1 then (some (bt559.1.toList == bt562.1.toList)) else (none)) else (none)) else (none)) else (none)) else (none)) else (none)) else (none)) else (none))))))))))) = some r := by rw [if_neg (show ¬ (false = true) by decide)] at H; exact H
    clear H
    have H := H1
    clear H1
    replace H := Option.bind_eq_some_iff.mp H
    obtain ⟨t539, A50, H⟩ := H
    replace H : ((impl_ReadChunks.f k t539).bind fun bt540 => ((spec_ReadChunks.f k t539).bind fun bt543 => ((spec_DrawChunkText.f k l0).bind fun t546 => ((impl_ChunkText.f k t546).bind fun bt549 => ((spec_ChunkText.f k t546).bind fun bt551 => ((spec_DrawBodyOf.f k l0).bind fun bt553 => ((impl_BodyOf.f k bt553.1 bt553.2.1 bt553.2.2).bind fun bt559 => ((spec_BodyOf.f k bt553.1 bt553.2.1 bt553.2.2).bind fun bt562 => (if bt540.2.2 = bt543.2.2 then (if bt540.2.1 = bt543.2.1 then (if bt540.1.toList = bt543.1.toList then (if (bt540.1.size : Int) ≤ 400 then (if (bt549.2 == bt551.2) = true then (if bt549.1.toList = bt551.1.toList then (if bt559.2.2 = bt562.2.2 then (if bt559.2.1 = bt562.2.1 then (some (bt559.1.toList == bt562.1.toList)) else (none)) else (none)) else (none)) else (none)) else (none)) else (none)) else (none)) else (none)))))))))) = some r := H
    have A5 := Aside0.mk A50
    clear A50
    replace H := Option.bind_eq_some_iff.mp H
    obtain ⟨⟨t540, t541, t542⟩, A60, H⟩ := H
    replace H : ((spec_ReadChunks.f k t539).bind fun bt543 => ((spec_DrawChunkText.f k l0).bind fun t546 => ((impl_ChunkText.f k t546).bind fun bt549 => ((spec_ChunkText.f k t546).bind fun bt551 => ((spec_DrawBodyOf.f k l0).bind fun bt553 => ((impl_BodyOf.f k bt553.1 bt553.2.1 bt553.2.2).bind fun bt559 => ((spec_BodyOf.f k bt553.1 bt553.2.1 bt553.2.2).bind fun bt562 => (if t542 = bt543.2.2 then (if t541 = bt543.2.1 then (if t540.toList = bt543.1.toList then (if (t540.size : Int) ≤ 400 then (if (bt549.2 == bt551.2) = true then (if bt549.1.toList = bt551.1.toList then (if bt559.2.2 = bt562.2.2 then (if bt559.2.1 = bt562.2.1 then (some (bt559.1.toList == bt562.1.toList)) else (none)) else (none)) else (none)) else (none)) else (none)) else (none)) else (none)) else (none))))))))) = some r := H
    have A6 := Aside0.mk A60
    clear A60
    replace H := Option.bind_eq_some_iff.mp H
    obtain ⟨⟨t543, t544, t545⟩, A70, H⟩ := H
    replace H : ((spec_DrawChunkText.f k l0).bind fun t546 => ((impl_ChunkText.f k t546).bind fun bt549 => ((spec_ChunkText.f k t546).bind fun bt551 => ((spec_DrawBodyOf.f k l0).bind fun bt553 => ((impl_BodyOf.f k bt553.1 bt553.2.1 bt553.2.2).bind fun bt559 => ((spec_BodyOf.f k bt553.1 bt553.2.1 bt553.2.2).bind fun bt562 => (if t542 = t545 then (if t541 = t544 then (if t540.toList = t543.toList then (if (t540.size : Int) ≤ 400 then (if (bt549.2 == bt551.2) = true then (if bt549.1.toList = bt551.1.toList then (if bt559.2.2 = bt562.2.2 then (if bt559.2.1 = bt562.2.1 then (some (bt559.1.toList == bt562.1.toList)) else (none)) else (none)) else (none)) else (none)) else (none)) else (none)) else (none)) else (none)))))))) = some r := H
    have A7 := Aside0.mk A70
    clear A70
    replace H := Option.bind_eq_some_iff.mp H
    obtain ⟨t546, A80, H⟩ := H
    replace H : ((impl_ChunkText.f k t546).bind fun bt549 => ((spec_ChunkText.f k t546).bind fun bt551 => ((spec_DrawBodyOf.f k l0).bind fun bt553 => ((impl_BodyOf.f k bt553.1 bt553.2.1 bt553.2.2).bind fun bt559 => ((spec_BodyOf.f k bt553.1 bt553.2.1 bt553.2.2).bind fun bt562 => (if t542 = t545 then (if t541 = t544 then (if t540.toList = t543.toList then (if (t540.size : Int) ≤ 400 then (if (bt549.2 == bt551.2) = true then (if bt549.1.toList = bt551.1.toList then (if bt559.2.2 = bt562.2.2 then (if bt559.2.1 = bt562.2.1 then (some (bt559.1.toList == bt562.1.toList)) else (none)) else (none)) else (none)) else (none)) else (none)) else (none)) else (none)) else (none))))))) = some r := H
    have A8 := Aside0.mk A80
    clear A80
    replace H := Option.bind_eq_some_iff.mp H
    obtain ⟨⟨t549, t550⟩, A90, H⟩ := H
    replace H : ((spec_ChunkText.f k t546).bind fun bt551 => ((spec_DrawBodyOf.f k l0).bind fun bt553 => ((impl_BodyOf.f k bt553.1 bt553.2.1 bt553.2.2).bind fun bt559 => ((spec_BodyOf.f k bt553.1 bt553.2.1 bt553.2.2).bind fun bt562 => (if t542 = t545 then (if t541 = t544 then (if t540.toList = t543.toList then (if (t540.size : Int) ≤ 400 then (if (t550 == bt551.2) = true then (if t549.toList = bt551.1.toList then (if bt559.2.2 = bt562.2.2 then (if bt559.2.1 = bt562.2.1 then (some (bt559.1.toList == bt562.1.toList)) else (none)) else (none)) else (none)) else (none)) else (none)) else (none)) else (none)) else (none)))))) = some r := H
    have A9 := Aside0.mk A90
    clear A90
    replace H := Option.bind_eq_some_iff.mp H
    obtain ⟨⟨t551, t552⟩, A100, H⟩ := H
    replace H : ((spec_DrawBodyOf.f k l0).bind fun bt553 => ((impl_BodyOf.f k bt553.1 bt553.2.1 bt553.2.2).bind fun bt559 => ((spec_BodyOf.f k bt553.1 bt553.2.1 bt553.2.2).bind fun bt562 => (if t542 = t545 then (if t541 = t544 then (if t540.toList = t543.toList then (if (t540.size : Int) ≤ 400 then (if (t550 == t552) = true then (if t549.toList = t551.toList then (if bt559.2.2 = bt562.2.2 then (if bt559.2.1 = bt562.2.1 then (some (bt559.1.toList == bt562.1.toList)) else (none)) else (none)) else (none)) else (none)) else (none)) else (none)) else (none)) else (none))))) = some r := H
    have A10 := Aside0.mk A100
    clear A100
    replace H := Option.bind_eq_some_iff.mp H
    obtain ⟨⟨t553, t554, t557⟩, A110, H⟩ := H
    replace H : ((impl_BodyOf.f k t553 t554 t557).bind fun bt559 => ((spec_BodyOf.f k t553 t554 t557).bind fun bt562 => (if t542 = t545 then (if t541 = t544 then (if t540.toList = t543.toList then (if (t540.size : Int) ≤ 400 then (if (t550 == t552) = true then (if t549.toList = t551.toList then (if bt559.2.2 = bt562.2.2 then (if bt559.2.1 = bt562.2.1 then (some (bt559.1.toList == bt562.1.toList)) else (none)) else (none)) else (none)) else (none)) else (none)) else (none)) else (none)) else (none)))) = some r := H
    have A11 := Aside0.mk A110
    clear A110
    replace H := Option.bind_eq_some_iff.mp H
    obtain ⟨⟨t559, t560, t561⟩, A120, H⟩ := H
    replace H : ((spec_BodyOf.f k t553 t554 t557).bind fun bt562 => (if t542 = t545 then (if t541 = t544 then (if t540.toList = t543.toList then (if (t540.size : Int) ≤ 400 then (if (t550 == t552) = true then (if t549.toList = t551.toList then (if t561 = bt562.2.2 then (if t560 = bt562.2.1 then (some (t559.toList == bt562.1.toList)) else (none)) else (none)) else (none)) else (none)) else (none)) else (none)) else (none)) else (none))) = some r := H
    have A12 := Aside0.mk A120
    clear A120
    replace H := Option.bind_eq_some_iff.mp H
    obtain ⟨⟨t562, t563, t564⟩, A130, H⟩ := H
    replace H : (if t542 = t545 then (if t541 = t544 then (if t540.toList = t543.toList then (if (t540.size : Int) ≤ 400 then (if (t550 == t552) = true then (if t549.toList = t551.toList then (if t561 = t564 then (if t560 = t563 then (some (t559.toList == t562.toList)) else (none)) else (none)) else (none)) else (none)) else (none)) else (none)) else (none)) else (none)) = some r := H
    have A13 := Aside0.mk A130
    clear A130
    by_cases c14 : t542 = t545
    · rw [if_pos c14] at H
      have c14b0 : (t542 == t545) = true := beq_iff_eq.mpr c14
      have c14b1 : (t542 != t545) = false := bne_eq_false_iff_eq.mpr c14
      clear c14
      (skip)
      by_cases c15 : t541 = t544
      · rw [if_pos c15] at H
        have c15b0 : (t541 == t544) = true := beq_iff_eq.mpr c15
        have c15b1 : (t541 != t544) = false := bne_eq_false_iff_eq.mpr c15
        clear c15
        by_cases c16 : t540.toList = t543.toList
        · rw [if_pos c16] at H
          have c16b0 : (t540.toList == t543.toList) = true := beq_iff_eq.mpr c16
          have c16b1 : (t540.toList != t543.toList) = false := bne_eq_false_iff_eq.mpr c16
          clear c16
          by_cases c17 : (t540.size : Int) ≤ 400
          · rw [if_pos c17] at H
            have c17b0 : decide ((t540.size : Int) ≤ 400) = true := decide_eq_true c17
            have c17b1 : decide (t540.size ≤ 400) = true := decide_eq_true (by omega)
            clear c17
            by_cases c18 : (t550 == t552) = true
            · rw [if_pos c18] at H
              have c18b0 : (t550 == t552) = true := c18
              (try (have c18b1 : decide (t550 = t552) = true := by simpa using c18))
              (try (have c18b2 : (t550 == t552) = true := by simpa using c18))
              clear c18
              by_cases c19 : t549.toList = t551.toList
              · rw [if_pos c19] at H
                have c19b0 : (t549.toList == t551.toList) = true := beq_iff_eq.mpr c19
                have c19b1 : (t549.toList != t551.toList) = false := bne_eq_false_iff_eq.mpr c19
                clear c19
                by_cases c20 : t561 = t564
                · rw [if_pos c20] at H
                  have c20b0 : (t561 == t564) = true := beq_iff_eq.mpr c20
                  have c20b1 : (t561 != t564) = false := bne_eq_false_iff_eq.mpr c20
                  clear c20
                  by_cases c21 : t560 = t563
                  · rw [if_pos c21] at H
                    have c21b0 : (t560 == t563) = true := beq_iff_eq.mpr c21
                    have c21b1 : (t560 != t563) = false := bne_eq_false_iff_eq.mpr c21
                    clear c21
                    obtain rfl := Option.some.inj H
                    go_wp2_with (first | ((with_reducible refine gate_callee (f := 30) rfl ?_); refine goesL_ (some 26) rfl rfl Try.func30 (by kernel_rfl) rfl #[.slice A0 l0.length c0] rfl (by (try simp only [List.map_toArray, List.map_cons, List.map_nil]); rfl) ?_; (with_reducible refine (spec_DrawReadChunks.calls k _ _ l0 t539 _ ?side1 ?side2 A5.out).mono ?_); (case side1 => repeat (exact (Kd.C_below HR0.out HB.out))); (case side2 => exact HC0.out); rintro e w22 ⟨rfl, hb⟩; refine ⟨_, rfl, ?_⟩; have n0_ := Aside0.mk (below_step (by repeat ((with_reducible exact HB.out))) hb); clear HB; have HB := n0_; clear n0_; (try clear hb); (try clear hb2); (try clear hk); (try clear hi)) | ((with_reducible refine gate_callee (f := 19) rfl ?_); refine goesL_ (some 29) rfl rfl Try.func19 (by kernel_rfl) rfl #[.string t539] rfl (by (try simp only [List.map_toArray, List.map_cons, List.map_nil]); rfl) ?_; (with_reducible refine (impl_ReadChunks.calls k t539 t540 t541 t542 _ A6.out).mono ?_); rintro e w23 ⟨rfl, hb⟩; refine ⟨_, rfl, ?_⟩; have n0_ := Aside0.mk (below_step (by repeat ((with_reducible exact HB.out))) hb); clear HB; have HB := n0_; clear n0_; (try clear hb); (try clear hb2); (try clear hk); (try clear hi)) | ((with_reducible refine gate_callee (f := 18) rfl ?_); refine goesL_ (some 35) rfl rfl Try.func18 (by kernel_rfl) rfl #[.string t539] rfl (by (try simp only [List.map_toArray, List.map_cons, List.map_nil]); rfl) ?_; (with_reducible refine (spec_ReadChunks.calls k t539 t543 t544 t545 _ A7.out).mono ?_); rintro e w' ⟨rfl, ⟨nd, rfl⟩⟩; refine ⟨_, rfl, ?_⟩; (try (rw [drewN_self w23]; generalize hq_ : World.drewN w23 _ = w23; have n0_ : Aside0 (Below w.heap.size w w23) := ⟨by rw [← hq_]; exact (by repeat ((with_reducible first | exact HB.out | apply pw_below_drewN)))⟩; clear HB hq_; have HB := n0_; clear n0_))) | ((with_reducible refine gate_callee (f := 31) rfl ?_); refine goesL_ (some 40) rfl rfl Try.func31 (by kernel_rfl) rfl #[.slice A0 l0.length c0] rfl (by (try simp only [List.map_toArray, List.map_cons, List.map_nil]); rfl) ?_; (with_reducible refine (spec_DrawChunkText.calls k _ _ l0 t546 _ ?side1 ?side2 A8.out).mono ?_); (case side1 => repeat (exact (Kd.C_below HR0.out HB.out))); (case side2 => exact HC0.out); rintro e w24 ⟨v547, rfl, ho0, hb⟩; refine ⟨_, rfl, ?_⟩; have n0_ := Aside0.mk (Kd.R_lower ho0 (below_size (by repeat ((with_reducible exact HB.out))))); have n1_ := Aside0.mk (below_step (by repeat ((with_reducible exact HB.out))) hb); clear HB; have HO548 := n0_; have HB := n1_; clear n0_ n1_; (try clear hb); (try clear hb2); (try clear hk); (try clear hi); (try clear ho0); obtain ⟨Ao25, co25, eo25⟩ := Kd.R_slice HO548.out; subst eo25) | ((with_reducible refine gate_callee (f := 16) rfl ?_); refine goesL_ (some 43) rfl rfl Try.func16 (by kernel_rfl) rfl #[.slice Ao25 t546.length co25] rfl (by (try simp only [List.map_toArray, List.map_cons, List.map_nil]); rfl) ?_; (with_reducible refine (impl_ChunkText.calls k _ _ t546 t549 t550 _ ?side1 ?side2 A9.out).mono ?_); (case side1 => repeat (exact (Kd.R_reads' HO548.out).2.2)); (case side2 => exact (Kd.R_reads' HO548.out).2.1); rintro e w' ⟨rfl, ⟨nd, rfl⟩⟩; refine ⟨_, rfl, ?_⟩; (try (rw [drewN_self w24]; generalize hq_ : World.drewN w24 _ = w24; have n0_ : Aside0 (Kd.R Kd.string 9 w24 w.heap.size (fun _ => True) (.slice Ao25 t546.length co25) t546) := ⟨by rw [← hq_]; exact (by (with_reducible repeat (apply Kd.R_drewN)); exact HO548.out)⟩; have n1_ : Aside0 (Below w.heap.size w w24) := ⟨by rw [← hq_]; exact (by repeat ((with_reducible first | exact HB.out | apply pw_below_drewN)))⟩; clear HO548 HB hq_; have HO548 := n0_; have HB := n1_; clear n0_ n1_))) | ((with_reducible refine gate_callee (f := 14) rfl ?_); refine goesL_ (some 48) rfl rfl Try.func14 (by kernel_rfl) rfl #[.slice Ao25 t546.length co25] rfl (by (try simp only [List.map_toArray, List.map_cons, List.map_nil]); rfl) ?_; (with_reducible refine (spec_ChunkText.calls k _ _ t546 t551 t552 _ ?side1 ?side2 A10.out).mono ?_); (case side1 => repeat (exact (Kd.R_reads' HO548.out).2.2)); (case side2 => exact (Kd.R_reads' HO548.out).2.1); rintro e w' ⟨rfl, ⟨nd, rfl⟩⟩; refine ⟨_, rfl, ?_⟩; (try (rw [drewN_self w24]; generalize hq_ : World.drewN w24 _ = w24; have n0_ : Aside0 (Kd.R Kd.string 9 w24 w.heap.size (fun _ => True) (.slice Ao25 t546.length co25) t546) := ⟨by rw [← hq_]; exact (by (with_reducible repeat (apply Kd.R_drewN)); exact HO548.out)⟩; have n1_ : Aside0 (Below w.heap.size w w24) := ⟨by rw [← hq_]; exact (by repeat ((with_reducible first | exact HB.out | apply pw_below_drewN)))⟩; clear HO548 HB hq_; have HO548 := n0_; have HB := n1_; clear n0_ n1_))) | ((with_reducible refine gate_callee (f := 32) rfl ?_); refine goesL_ (some 53) rfl rfl Try.func32 (by kernel_rfl) rfl #[.slice A0 l0.length c0] rfl (by (try simp only [List.map_toArray, List.map_cons, List.map_nil]); rfl) ?_; (with_reducible refine (spec_DrawBodyOf.calls k _ _ l0 t553 t554 t557 _ ?side1 ?side2 A11.out).mono ?_); (case side1 => repeat (exact (Kd.C_below HR0.out HB.out))); (case side2 => exact HC0.out); rintro e w26 ⟨v555, rfl, ho0, hb⟩; refine ⟨_, rfl, ?_⟩; have n0_ := Aside0.mk (Kd.R_below (by (with_reducible repeat (first | apply Kd.R_alloc | apply Kd.R_drewN | apply Kd.R_drew )); exact HO548.out) hb); have n1_ := Aside0.mk (Kd.R_lower ho0 (below_size (by repeat ((with_reducible exact HB.out))))); have n2_ := Aside0.mk (below_step (by repeat ((with_reducible exact HB.out))) hb); clear HO548; clear HB; have HO548 := n0_; have HO556 := n1_; have HB := n2_; clear n0_ n1_ n2_; (try clear hb); (try clear hb2); (try clear hk); (try clear hi); (try clear ho0)) | ((with_reducible refine gate_dst (N := 15) rfl ?_); (try (refine gate_guard (by rfl) ?_; dsimp only)); refine box_event ?hg (N := 15) ?hd (cs := #[.string (⟨#[]⟩ : ByteArray), .slice none 0 0]) (t := 48) ?hr ?_; (case hd => rfl); (case hg => rfl); (case hr => (go_simp; done)); intro gb558 hg w27 hbox hb; have n0_ := Aside0.mk (Kd.R_below (by (with_reducible repeat (first | apply Kd.R_alloc | apply Kd.R_drewN | apply Kd.R_drew )); exact HO548.out) hb); have n1_ := Aside0.mk (Kd.R_below (by (with_reducible repeat (first | apply Kd.R_alloc | apply Kd.R_drewN | apply Kd.R_drew )); exact HO556.out) hb); have n2_ := Aside0.mk (below_step (by repeat ((with_reducible exact HB.out))) hb); have n3_ := Aside0.mk (hbox); have n4_ := Aside0.mk ((by rw [hg]; exact (below_size (by repeat ((with_reducible exact HB.out)))) : w.heap.size ≤ gb558)); have n5_ := Aside0.mk ((by rw [hg]; exact (below_size (by repeat ((with_reducible exact HB.out)))) : w.heap.size ≤ gb558)); clear HO548; clear HO556; clear HB; have HO548 := n0_; have HO556 := n1_; have HB := n2_; have BK558 := n3_; have GW558 := n4_; have GE558 := n5_; clear n0_ n1_ n2_ n3_ n4_ n5_; clear hb hbox hg; have hcz28_0 : w27.cell? ⟨gb558, 0, none⟩ = some (.string (⟨#[]⟩ : ByteArray)) := (blk_cell BK558.out 0).trans rfl; have hcz28_1 : w27.cell? ⟨gb558, 1, none⟩ = some (.slice none 0 0) := (blk_cell BK558.out 1).trans rfl; have hfz28_0 := blk_frozen BK558.out 0; have hfz28_1 := blk_frozen BK558.out 1; obtain ⟨Ao29, co29, eo29⟩ := Kd.R_slice HO556.out; subst eo29) | ((with_reducible refine gate_callee (f := 24) rfl ?_); refine goesL_ (some 59) rfl rfl Try.func24 (by kernel_rfl) rfl #[.agg #[.string t553, .slice Ao29 t554.length co29], .string t557] rfl (by (try simp only [List.map_toArray, List.map_cons, List.map_nil]); rfl) ?_; (with_reducible refine (impl_BodyOf.calls k t553 _ _ t554 t557 t559 t560 t561 _ ?side1 ?side2 A12.out).mono ?_); (case side1 => refine (Kd.R_reads' (e := 45) (base := w.heap.size) (ok := fun k_ => True) (n := t554.length) (c := co29) ?_).2.2; exact (by (with_reducible repeat (first | apply Kd.R_alloc | apply Kd.R_drewN | apply Kd.R_drew )); exact (Kd.R_mono (Kd.R_far (p := ⟨gb558, 1, none⟩) (Kd.R_far (p := ⟨gb558, 0, none⟩) (Kd.R_types HO556.out BK558.out (by decide)) (fun _ hk => hk.2) (.string t553)) (fun _ hk => hk.2) (.slice Ao29 t554.length co29)) (fun _ h_ => by exact h_.1)))); (case side2 => exact (Kd.R_reads' HO556.out).2.1); rintro e w30 ⟨rfl, hb⟩; refine ⟨_, rfl, ?_⟩; have n0_ := Aside0.mk (Kd.R_below (by (with_reducible repeat (first | apply Kd.R_alloc | apply Kd.R_drewN | apply Kd.R_drew )); exact (Kd.R_mono (Kd.R_far (p := ⟨gb558, 1, none⟩) (Kd.R_far (p := ⟨gb558, 0, none⟩) (Kd.R_types HO548.out BK558.out (by decide)) (fun _ hk => hk.2) (.string t553)) (fun _ hk => hk.2) (.slice Ao29 t554.length co29)) (fun _ h_ => by exact h_.1))) hb); have n1_ := Aside0.mk (Kd.R_below (by (with_reducible repeat (first | apply Kd.R_alloc | apply Kd.R_drewN | apply Kd.R_drew )); exact (Kd.R_mono (Kd.R_far (p := ⟨gb558, 1, none⟩) (Kd.R_far (p := ⟨gb558, 0, none⟩) (Kd.R_types HO556.out BK558.out (by decide)) (fun _ hk => hk.2) (.string t553)) (fun _ hk => hk.2) (.slice Ao29 t554.length co29)) (fun _ h_ => by exact h_.1))) hb); have n2_ := Aside0.mk (blk_below (g := gb558) (o := .cells #[.string t553, .slice Ao29 t554.length co29] 48 (0, 0)) (by (with_reducible repeat (first | refine blk_drewN ?_ _ | refine blk_drew ?_ | refine blk_alloc ?_ _ )); refine blk_put (cs := #[.string t553, .slice none 0 0]) ?_ 1 _ rfl; (with_reducible repeat (first | refine blk_drewN ?_ _ | refine blk_drew ?_ | refine blk_alloc ?_ _ )); refine blk_put (cs := #[.string (⟨#[]⟩ : ByteArray), .slice none 0 0]) ?_ 0 _ rfl; (with_reducible repeat (first | refine blk_drewN ?_ _ | refine blk_drew ?_ | refine blk_alloc ?_ _ )); exact BK558.out) hb); have n3_ := Aside0.mk (below_step (by repeat ((with_reducible first | exact HB.out | refine below_set ?_ GE558.out))) hb); clear HO548; clear HO556; clear BK558; clear HB; have HO548 := n0_; have HO556 := n1_; have BK558 := n2_; have HB := n3_; clear n0_ n1_ n2_ n3_; (try clear hb); (try clear hb2); (try clear hk); (try clear hi); have hcz31_0 : w30.cell? ⟨gb558, 0, none⟩ = some (.string t553) := (blk_cell BK558.out 0).trans rfl; have hcz31_1 : w30.cell? ⟨gb558, 1, none⟩ = some (.slice Ao29 t554.length co29) := (blk_cell BK558.out 1).trans rfl; have hfz31_0 := blk_frozen BK558.out 0; have hfz31_1 := blk_frozen BK558.out 1) | ((with_reducible refine gate_callee (f := 27) rfl ?_); refine goesL_ (some 66) rfl rfl Try.func27 (by kernel_rfl) rfl #[.agg #[.string t553, .slice Ao29 t554.length co29], .string t557] rfl (by (try simp only [List.map_toArray, List.map_cons, List.map_nil]); rfl) ?_; (with_reducible refine (spec_BodyOf.calls k t553 _ _ t554 t557 t562 t563 t564 _ ?side1 ?side2 A13.out).mono ?_); (case side1 => repeat (exact (Kd.R_reads' HO556.out).2.2)); (case side2 => exact (Kd.R_reads' HO556.out).2.1); rintro e w32 ⟨rfl, hb⟩; refine ⟨_, rfl, ?_⟩; have n0_ := Aside0.mk (Kd.R_below (by (with_reducible repeat (first | apply Kd.R_alloc | apply Kd.R_drewN | apply Kd.R_drew )); exact HO548.out) hb); have n1_ := Aside0.mk (Kd.R_below (by (with_reducible repeat (first | apply Kd.R_alloc | apply Kd.R_drewN | apply Kd.R_drew )); exact HO556.out) hb); have n2_ := Aside0.mk (blk_below (g := gb558) (o := .cells #[.string t553, .slice Ao29 t554.length co29] 48 (0, 0)) (by (with_reducible repeat (first | refine blk_drewN ?_ _ | refine blk_drew ?_ | refine blk_alloc ?_ _ )); exact BK558.out) hb); have n3_ := Aside0.mk (below_step (by repeat ((with_reducible exact HB.out))) hb); clear HO548; clear HO556; clear BK558; clear HB; have HO548 := n0_; have HO556 := n1_; have BK558 := n2_; have HB := n3_; clear n0_ n1_ n2_ n3_; (try clear hb); (try clear hb2); (try clear hk); (try clear hi)))
                    go_ret
                    exact ⟨by rfl, by repeat ((with_reducible exact HB.out))⟩
                  · rw [if_neg c21] at H
                    exact absurd H (by simp)
                · rw [if_neg c20] at H
                  exact absurd H (by simp)
              · rw [if_neg c19] at H
                exact absurd H (by simp)
            · rw [if_neg c18] at H
              exact absurd H (by simp)
          · rw [if_neg c17] at H
            exact absurd H (by simp)
        · rw [if_neg c16] at H
          exact absurd H (by simp)
      · rw [if_neg c15] at H
        exact absurd H (by simp)
    · rw [if_neg c14] at H
      exact absurd H (by simp)
end Go.Proofs.Ythjigecaojaalaa.Q
