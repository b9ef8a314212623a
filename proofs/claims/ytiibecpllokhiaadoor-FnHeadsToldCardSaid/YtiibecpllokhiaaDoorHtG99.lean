import Derived.Test.YtiibecpllokhiaaDoorHtB0
import Derived.Test.YtiibecpllokhiaaDoorHtG13
import Derived.Test.YtiibecpllokhiaaDoorHtG28
import Derived.Test.YtiibecpllokhiaaDoorHtG77
import Derived.Test.YtiibecpllokhiaaDoorHtG79
import Derived.Test.YtiibecpllokhiaaDoorHtWords
namespace Go.Proofs.YtiibecpllokhiaaDoor.Q
open Go.RowKit Go.Proofs.YtiibecpllokhiaaDoorW.PrintWords Go.Proofs.YtiibecpllokhiaaDoorW.PrintLast Go.Proofs.YtiibecpllokhiaaDoorW.PrintMore
attribute [local go_sem] max2_int min2_int max_two min_two max_three min_three max_four min_four   -- for this text's walks alone
set_option linter.unusedVariables false
set_option linter.unusedSimpArgs false
mutual
def spec_l01Text.j0 : Nat → Int → List Int → Int → Int → Option (ByteArray × Int × Int)
  | 0, _, _, _, _ => none
  | k + 1, x1, x1000, x1001, x1002 => spec_l01Text.l0 k x1 (([] : List Int)) 0 x1000 x1001 x1002
def spec_l01Text.l0 : Nat → Int → List Int → Int → List Int → Int → Int → Option (ByteArray × Int × Int)
  | 0, _, _, _, _, _, _ => none
  | k + 1, x1, x5, x6, x1000, x1001, x1002 => if x6 < x1 then ((spec_l01Byte.f x1000 x1001 x1002).bind fun bt621 => (if x5.length < 140737488355328 then (spec_l01Text.l0 k x1 (x5 ++ [(bt621.1) % 256]) (wrap64 (x6 + 1)) x1000 bt621.2.1 bt621.2.2) else (none))) else (some (strOfNums x5, x1001, x1002))
end
def spec_l01Text.f (k : Nat) (s0_0 : List Int) (s0_1 : Int) (s0_2 : Int) (a1 : Int) : Option (ByteArray × Int × Int) := if a1 > 5000 then (spec_l01Text.j0 k 5000 s0_0 s0_1 s0_2) else (spec_l01Text.j0 k a1 s0_0 s0_1 s0_2)
set_option maxHeartbeats 8000000 in
set_option maxRecDepth 100000 in
theorem spec_l01Text.calls (k : Nat) (g : Nat) (s0_0 : List Int) (s0_1 : Int) (s0_2 : Int) (a1 : Int) (r1 : ByteArray) (r2 : Int) (r3 : Int) (w0 w : World) (hI : IsS91 w0 w g s0_0 s0_1 s0_2) (hB : Below w0.heap.size w0 w) (h : spec_l01Text.f k s0_0 s0_1 s0_2 a1 = some (r1, r2, r3)) :
    Calls Tryd.prog 99 #[.pointer (some ⟨g, 0, none⟩), .int .i64 a1] w fun e w' => e = .returned (.string r1) ∧ IsS91 w0 w' g s0_0 r2 r3 ∧ Below w0.heap.size w0 w' ∧ KeepBut w w' g none := by
  have HI0 := Aside0.mk hI
  have HK := Aside0.mk (KeepBut.refl w g none)
  have HL := Aside0.mk hB.size
  clear hI
  have HW0 := Aside0.mk hB.size
  have HB := Aside0.mk hB
  clear hB
  have H : (if a1 > 5000 then (spec_l01Text.j0 k 5000 s0_0 s0_1 s0_2) else (spec_l01Text.j0 k a1 s0_0 s0_1 s0_2)) = some (r1, r2, r3) := h
  clear h
  have HC3 := Aside0.mk H
  clear H
  go_enter Tryd.func99, Tryd.ntmps99
  go_upto_if 8 with (fail)
  go_cut [1] (fun v1 wc => ∃ (kq : Nat) (x1_2 : Int), v1 = .int .i64 x1_2 ∧ Aside0 (spec_l01Text.j0 kq x1_2 s0_0 s0_1 s0_2 = some (r1, r2, r3)) ∧ Aside0 (kq ≤ k) ∧ Aside0 (IsS91 w0 wc g s0_0 s0_1 s0_2) ∧ Aside0 (KeepBut w wc g none) ∧ Aside0 (Below w0.heap.size w0 wc))
  case first =>
    have H := HC3.out
    clear HC3
    by_cases c4 : a1 > 5000
    · rw [if_pos c4] at H
      have c4b0 : decide (5000 < a1) = true := decide_eq_true c4
      clear c4
      (rw [c4b0])
      have H' := Aside0.mk H
      clear H
      go_wp2
      go_meet
      case rel => exact ⟨_, (5000), (by rfl), H', ⟨by omega⟩, ⟨by repeat ((with_reducible exact HI0.out))⟩, ⟨by repeat ((with_reducible exact HK.out))⟩, ⟨by repeat ((with_reducible exact HB.out))⟩⟩
    · rw [if_neg c4] at H
      have c4b0 : decide (5000 < a1) = false := decide_eq_false c4
      clear c4
      (rw [c4b0])
      have H' := Aside0.mk H
      clear H
      go_wp2
      go_meet
      case rel => exact ⟨_, (a1), (by rfl), H', ⟨by omega⟩, ⟨by repeat ((with_reducible exact HI0.out))⟩, ⟨by repeat ((with_reducible exact HK.out))⟩, ⟨by repeat ((with_reducible exact HB.out))⟩⟩
  case rest =>
    clear HC3
    obtain ⟨kq, x1_2, rfl, HA, HJ2, HI0, HK, HB⟩ := hcut
    cases kq with
    | zero => exact absurd HA.out (by simp [spec_l01Text.j0])
    | succ kj2 =>
      have H := HA.out
      clear HA
      simp only [spec_l01Text.j0] at H
      obtain ⟨y618, hy618⟩ : ∃ y_ : List Int, y_ = (([] : List Int)) := ⟨_, rfl⟩
      replace H : (spec_l01Text.l0 kj2 x1_2 y618 0 s0_0 s0_1 s0_2) = some (r1, r2, r3) := by (rw [hy618]; with_reducible exact H)
      have Ny618 := Aside0.mk hy618
      clear hy618
      have H' := Aside0.mk H
      clear H
      go_wp2_with (((with_reducible refine gate_dst (N := 9) rfl ?_); refine Kd.R_lit (Kd.int .u8) _ 5 ?hg (N := 9) ?hd (xs := ([] : List Int)) (inner := []) (ok := fun _ => True) (okp := fun _ => True) ?hr ?hp (fun _ hk => hk) trivial (Below.refl _ _) (Nat.le_refl _) (by simp) ?_; (case hd => rfl); (case hg => rfl); (case hr => (go_simp; done)); (case hp => exact (Reps.none _ _)); intro v619 w5 ho6 hb hg_ hnew_; clear hg_ hnew_; (rw [← Ny618.out] at ho6); have n0_ := Aside0.mk (Kd.R_lower ho6 (keep_size (w := w) (g := g) (row := none) (by repeat ((with_reducible exact HK.out))))); have n1_ := Aside0.mk (IsS91.below (by repeat ((with_reducible exact HI0.out))) hb); have n2_ := Aside0.mk (KeepBut.trans (by repeat ((with_reducible exact HK.out))) (KeepBut.of_below hb g none) (.inl rfl)); have n3_ := Aside0.mk (below_step (by repeat ((with_reducible exact HB.out))) hb); clear HI0; clear HK; clear HB; have HO620 := n0_; have HI0 := n1_; have HK := n2_; have HB := n3_; clear n0_ n1_ n2_ n3_; clear hb ho6))
      go_loopg [5, 6] kj2 (fun kq v5 v6 w' => ∃ (x5_2 : List Int) (x6_2 : Int) (x1001_2 : Int) (x1002_2 : Int), v6 = .int .i64 x6_2 ∧ Aside0 (spec_l01Text.l0 kq x1_2 x5_2 x6_2 s0_0 x1001_2 x1002_2 = some (r1, r2, r3)) ∧ Aside0 (kq ≤ kj2) ∧ Aside0 (Kd.R (Kd.int .u8) 5 w' w.heap.size (fun _ => True) v5 x5_2) ∧ Aside0 (IsS91 w0 w' g s0_0 x1001_2 x1002_2) ∧ Aside0 (KeepBut w w' g none) ∧ Aside0 (Below w0.heap.size w0 w'))
      case atStart => exact ⟨(y618), (0), (s0_1), (s0_2), (by rfl), H', ⟨Nat.le_refl _⟩, ⟨by (with_reducible repeat (first | apply Kd.R_alloc | apply Kd.R_drewN | apply Kd.R_drew )); exact HO620.out⟩, ⟨by repeat ((with_reducible exact HI0.out))⟩, ⟨by repeat ((with_reducible exact HK.out))⟩, ⟨by repeat ((with_reducible exact HB.out))⟩⟩
      case round =>
        clear H'
        obtain ⟨x5_2, x6_2, x1001_2, x1002_2, rfl, HA, HK2, HO_5, HI0, HK, HB⟩ := hrel
        cases gk with
        | zero => exact absurd HA.out (by simp [spec_l01Text.l0])
        | succ k2 =>
          have H := HA.out
          clear HA
          simp only [spec_l01Text.l0] at H
          by_cases c7 : x6_2 < x1_2
          · rw [if_pos c7] at H
            have c7b0 : decide (x6_2 < x1_2) = true := decide_eq_true c7
            clear c7
            replace H := Option.bind_eq_some_iff.mp H
            obtain ⟨⟨t621, t622, t623⟩, A80, H⟩ := H
            replace H : (if x5_2.length < 140737488355328 then (spec_l01Text.l0 k2 x1_2 (x5_2 ++ [(t621) % 256]) (wrap64 (x6_2 + 1)) s0_0 t622 t623) else (none)) = some (r1, r2, r3) := H
            have A8 := Aside0.mk A80
            clear A80
            by_cases c9 : x5_2.length < 140737488355328
            · rw [if_pos c9] at H
              have LMc9 := Aside0.mk c9
              clear c9
              obtain ⟨y624, hy624⟩ : ∃ y_ : List Int, y_ = (x5_2 ++ [(t621) % 256]) := ⟨_, rfl⟩
              replace H : (spec_l01Text.l0 k2 x1_2 y624 (wrap64 (x6_2 + 1)) s0_0 t622 t623) = some (r1, r2, r3) := by (rw [hy624]; with_reducible exact H)
              have Ny624 := Aside0.mk hy624
              clear hy624
              have H' := Aside0.mk H
              clear H
              go_wp2_with (first | ((with_reducible refine gate_callee (f := 54) rfl ?_); refine goesL_ (some 17) rfl rfl Tryd.func54 (by kernel_rfl) rfl #[.pointer (some ⟨g, 0, none⟩)] rfl (by (try simp only [List.map_toArray, List.map_cons, List.map_nil]); rfl) ?_; (with_reducible refine (spec_l01Byte.calls g s0_0 x1001_2 x1002_2 t621 t622 t623 w0 _ ?side1 ?side2 A8.out).mono ?_); (case side1 => repeat ((with_reducible exact HI0.out))); (case side2 => repeat ((with_reducible exact HB.out))); rintro e w10 ⟨rfl, hi, hb, hk⟩; refine ⟨_, rfl, ?_⟩; have n0_ := Aside0.mk (Kd.R_mono (Kd.R_keep (IsS91.apart (show IsS91 w0 _ g s0_0 x1001_2 x1002_2 from by repeat ((with_reducible exact HI0.out))) (by (with_reducible repeat (first | apply Kd.R_alloc | apply Kd.R_drewN | apply Kd.R_drew )); exact HO_5.out) (by decide)) hk (fun _ h => h.2)) (fun _ h => h.1)); have n1_ := Aside0.mk (KeepBut.trans (by repeat ((with_reducible exact HK.out))) hk (.inl rfl)); have n2_ := Aside0.mk (hb); have n3_ := Aside0.mk (hi); clear HO_5; clear HK; clear HB; clear HI0; have HO_5 := n0_; have HK := n1_; have HB := n2_; have HI0 := n3_; clear n0_ n1_ n2_ n3_; (try clear hb); (try clear hb2); (try clear hk); (try clear hi)) | ((with_reducible refine gate_builtin (b := .append) (xs := #[.tmp 15, .tmp 19]) rfl ?_); at_builtin; refine Kd.R_append (Kd.int .u8) w.heap.size rfl (.tmp 15) (.tmp 19) 22 5 (.int .u8 0) 1 rfl Tryd.underlying22 info5 rfl (by decide) (by omega) u5 x5_2 ((t621) % 256) [.int .u8 ((t621) % 256)] (fun _ => True) (fun _ => False) rfl rfl ?aP (fun _ hk => hk.elim) ?aF ?aO (Below.refl _ _) ?aS ?aL ?_; (case aP => exact rfl); (case aF => exact (fun _ _ => trivial)); (case aO => exact (by (with_reducible repeat (first | apply Kd.R_alloc | apply Kd.R_drewN | apply Kd.R_drew )); exact HO_5.out)); (case aS => exact (keep_size (w := w) (g := g) (row := none) (by repeat ((with_reducible exact HK.out))))); (case aL => have := LMc9.out; omega); intro v625 w11 ho hb hg hat; rw [← Ny624.out] at ho; have n0_ := Aside0.mk (IsS91.grown (w0 := w0) (g := g) (f0 := s0_0) (f1 := t622) (f2 := t623) (by repeat ((with_reducible exact HI0.out))) hg (IsS91.own_ne HI0.out HO_5.out (by decide))); have n1_ := Aside0.mk (below_weaken (by repeat ((with_reducible exact HB.out))) HL.out hb); have n2_ := Aside0.mk (KeepBut.trans (by repeat ((with_reducible exact HK.out))) (KeepBut.of_grown hg g) (Kd.R_base2 HO_5.out)); have n3_ := Aside0.mk (ho); clear HI0; clear HB; clear HK; clear HO_5; have HI0 := n0_; have HB := n1_; have HK := n2_; have HO626 := n3_; clear n0_ n1_ n2_ n3_; clear ho hb hg hat))
              go_roundg k2
              case measure => have := HJ2.out; have := HK2.out; omega
              case rel => exact ⟨(y624), (wrap64 (x6_2 + 1)), (t622), (t623), (by rfl), H', ⟨by have := HJ2.out; have := HK2.out; omega⟩, ⟨by (with_reducible repeat (first | apply Kd.R_alloc | apply Kd.R_drewN | apply Kd.R_drew )); exact HO626.out⟩, ⟨by repeat ((with_reducible exact HI0.out))⟩, ⟨by repeat ((with_reducible exact HK.out))⟩, ⟨by repeat ((with_reducible exact HB.out))⟩⟩
            · rw [if_neg c9] at H
              exact absurd H (by simp)
          · rw [if_neg c7] at H
            have c7b0 : decide (x6_2 < x1_2) = false := decide_eq_false c7
            clear c7
            simp only [Option.some.injEq, Prod.mk.injEq] at H
            obtain ⟨rfl, rfl, rfl⟩ := H
            have hcv12 := own_string (P := Tryd.prog) Tryd.underlying22 Tryd.underlying5 Tryd.underlying9 (Kd.own_of_R HO_5.out)
            go_wp2
            go_ret
            exact ⟨by rfl, by repeat ((with_reducible exact HI0.out)), by repeat ((with_reducible exact HB.out)), by repeat ((with_reducible exact HK.out))⟩
def spec_l02Spoilt.j0 : Nat → ByteArray → Bool → List Int → Int → Int → Option (ByteArray × Int × Int)
  | 0, _, _, _, _, _ => none
  | k + 1, x1, x23, x1000, x1001, x1002 => if x23 = true then (if (x1.size : Int) > 0 then ((spec_l01Below.f x1000 x1001 x1002 (x1.size : Int)).bind fun bt636 => (if 0 ≤ bt636.1 then (if bt636.1 ≤ (x1.size : Int) then ((spec_l01Text.f k x1000 bt636.2.1 bt636.2.2 1).bind fun bt639 => (if (x1.extract 0 (bt636.1 : Int).toNat).size + bt639.1.size ≤ 9223372036854775807 then (if 0 ≤ (wrap64 (bt636.1 + 1)) then (if (wrap64 (bt636.1 + 1)) ≤ (x1.size : Int) then (if ((x1.extract 0 (bt636.1 : Int).toNat) ++ bt639.1).size + (x1.extract ((wrap64 (bt636.1 + 1)) : Int).toNat x1.size).size ≤ 9223372036854775807 then (some (((x1.extract 0 (bt636.1 : Int).toNat) ++ bt639.1) ++ (x1.extract ((wrap64 (bt636.1 + 1)) : Int).toNat x1.size), bt639.2.1, bt639.2.2)) else (none)) else (none)) else (none)) else (none))) else (none)) else (none))) else (some (x1, x1001, x1002))) else (some (x1, x1001, x1002))
def spec_l02Spoilt.f (k : Nat) (s0_0 : List Int) (s0_1 : Int) (s0_2 : Int) (a1 : ByteArray) : Option (ByteArray × Int × Int) := (spec_l01Below.f s0_0 s0_1 s0_2 12).bind fun bt627 => (if bt627.1 = 0 then ((spec_l01Text.f k s0_0 bt627.2.1 bt627.2.2 1).bind fun bt630 => (if a1.size + bt630.1.size ≤ 9223372036854775807 then (some (a1 ++ bt630.1, bt630.2.1, bt630.2.2)) else (none))) else (if bt627.1 = 1 then ((spec_l01Below.f s0_0 bt627.2.1 bt627.2.2 (wrap64 ((a1.size : Int) + 1))).bind fun bt633 => (if 0 ≤ bt633.1 then (if bt633.1 ≤ (a1.size : Int) then (some (a1.extract 0 (bt633.1 : Int).toNat, bt633.2.1, bt633.2.2)) else (none)) else (none))) else (if bt627.1 = 2 then (spec_l02Spoilt.j0 k a1 (bt627.1 == 2) s0_0 bt627.2.1 bt627.2.2) else (spec_l02Spoilt.j0 k a1 (bt627.1 == 3) s0_0 bt627.2.1 bt627.2.2))))
def spec_l02Spoilt.T10 : Bool × List (List Nat × List Nat) := (true, [([], []), ([], []), ([0, 1], [0, 1]), ([], []), ([3], [3]), ([2, 4], [2, 4]), ([], []), ([], []), ([7], [7]), ([6, 8], [6, 8]), ([5, 9], [5, 9]), ([10, 4, 0, 1, 2, 3, 4, 5, 6, 7, 8, 9, 10], [10])])
def spec_l02Spoilt.B10 : List Nat := [0, 0, 3, 0, 8, 31, 0, 0, 128, 448, 1023, 2047]
theorem spec_l02Spoilt.tab10 : rtab .any (opsOf Tryd.f76 10) = spec_l02Spoilt.T10 := by kernel_rfl
theorem spec_l02Spoilt.bits10 : waitsOk spec_l02Spoilt.T10.2 spec_l02Spoilt.B10 = true := by kernel_rfl
set_option maxHeartbeats 8000000 in
set_option maxRecDepth 100000 in
theorem spec_l02Spoilt.calls (k : Nat) (g : Nat) (s0_0 : List Int) (s0_1 : Int) (s0_2 : Int) (a1 : ByteArray) (r1 : ByteArray) (r2 : Int) (r3 : Int) (w0 w : World) (hI : IsS91 w0 w g s0_0 s0_1 s0_2) (hB : Below w0.heap.size w0 w) (h : spec_l02Spoilt.f k s0_0 s0_1 s0_2 a1 = some (r1, r2, r3)) :
    Calls Tryd.prog 76 #[.pointer (some ⟨g, 0, none⟩), .string a1] w fun e w' => e = .returned (.string r1) ∧ IsS91 w0 w' g s0_0 r2 r3 ∧ Below w0.heap.size w0 w' ∧ KeepBut w w' g none := by
  have HI0 := Aside0.mk hI
  have HK := Aside0.mk (KeepBut.refl w g none)
  have HL := Aside0.mk hB.size
  clear hI
  have HW0 := Aside0.mk hB.size
  have HB := Aside0.mk hB
  clear hB
  have H : ((spec_l01Below.f s0_0 s0_1 s0_2 12).bind fun bt627 => (if bt627.1 = 0 then ((spec_l01Text.f k s0_0 bt627.2.1 bt627.2.2 1).bind fun bt630 => (if a1.size + bt630.1.size ≤ 9223372036854775807 then (some (a1 ++ bt630.1, bt630.2.1, bt630.2.2)) else (none))) else (if bt627.1 = 1 then ((spec_l01Below.f s0_0 bt627.2.1 bt627.2.2 (wrap64 ((a1.size : Int) + 1))).bind fun bt633 => (if 0 ≤ bt633.1 then (if bt633.1 ≤ (a1.size : Int) then (some (a1.extract 0 (bt633.1 : Int).toNat, bt633.2.1, bt633.2.2)) else (none)) else (none))) else (if bt627.1 = 2 then (spec_l02Spoilt.j0 k a1 (bt627.1 == 2) s0_0 bt627.2.1 bt627.2.2) else (spec_l02Spoilt.j0 k a1 (bt627.1 == 3) s0_0 bt627.2.1 bt627.2.2))))) = some (r1, r2, r3) := h
  clear h
  replace H := Option.bind_eq_some_iff.mp H
  obtain ⟨⟨t627, t628, t629⟩, A30, H⟩ := H
  replace H : (if t627 = 0 then ((spec_l01Text.f k s0_0 t628 t629 1).bind fun bt630 => (if a1.size + bt630.1.size ≤ 9223372036854775807 then (some (a1 ++ bt630.1, bt630.2.1, bt630.2.2)) else (none))) else (if t627 = 1 then ((spec_l01Below.f s0_0 t628 t629 (wrap64 ((a1.size : Int) + 1))).bind fun bt633 => (if 0 ≤ bt633.1 then (if bt633.1 ≤ (a1.size : Int) then (some (a1.extract 0 (bt633.1 : Int).toNat, bt633.2.1, bt633.2.2)) else (none)) else (none))) else (if t627 = 2 then (spec_l02Spoilt.j0 k a1 (t627 == 2) s0_0 t628 t629) else (spec_l02Spoilt.j0 k a1 (t627 == 3) s0_0 t628 t629)))) = some (r1, r2, r3) := H
  have A3 := Aside0.mk A30
  clear A30
  have HS4 := Aside0.mk H
  clear H
  go_enter Tryd.func76, Tryd.ntmps76
  go_upto_if 8 with (((with_reducible refine gate_callee (f := 55) rfl ?_); refine goesL_ (some 7) rfl rfl Tryd.func55 (by kernel_rfl) rfl #[.pointer (some ⟨g, 0, none⟩), .int .i64 12] rfl (by (try simp only [List.map_toArray, List.map_cons, List.map_nil]); rfl) ?_; (with_reducible refine (spec_l01Below.calls g s0_0 s0_1 s0_2 12 t627 t628 t629 w0 _ ?side1 ?side2 A3.out).mono ?_); (case side1 => repeat ((with_reducible exact HI0.out))); (case side2 => repeat ((with_reducible exact HB.out))); rintro e w5 ⟨rfl, hi, hb, hk⟩; refine ⟨_, rfl, ?_⟩; have n0_ := Aside0.mk (KeepBut.trans (by repeat ((with_reducible exact HK.out))) hk (.inl rfl)); have n1_ := Aside0.mk (hb); have n2_ := Aside0.mk (hi); clear HK; clear HB; clear HI0; have HK := n0_; have HB := n1_; have HI0 := n2_; clear n0_ n1_ n2_; (try clear hb); (try clear hb2); (try clear hk); (try clear hi)))
  (try simp only [Act.put, List.setIfInBounds_toArray, List.set_cons_zero, List.set_cons_succ])
  have H := HS4.out
  clear HS4
  by_cases c6 : t627 = 0
  · rw [if_pos c6] at H
    have c6b0 : (t627 == 0) = true := beq_iff_eq.mpr c6
    have c6b1 : (t627 != 0) = false := bne_eq_false_iff_eq.mpr c6
    clear c6
    (rw [c6b0])
    replace H := Option.bind_eq_some_iff.mp H
    obtain ⟨⟨t630, t631, t632⟩, A70, H⟩ := H
    replace H : (if a1.size + t630.size ≤ 9223372036854775807 then (some (a1 ++ t630, t631, t632)) else (none)) = some (r1, r2, r3) := H
    have A7 := Aside0.mk A70
    clear A70
    by_cases c8 : a1.size + t630.size ≤ 9223372036854775807
    · rw [if_pos c8] at H
      have c8b0 := eq_true c8
      have c8b1 : decide (a1.size + t630.size ≤ 9223372036854775807) = true := decide_eq_true c8
      have c8b2 : (9223372036854775807 < a1.size + t630.size) = False := eq_false (Nat.not_lt.2 c8)
      simp only [Option.some.injEq, Prod.mk.injEq] at H
      obtain ⟨rfl, rfl, rfl⟩ := H
      go_wp2_with (((with_reducible refine gate_callee (f := 99) rfl ?_); refine goesL_ (some 12) rfl rfl Tryd.func99 (by kernel_rfl) rfl #[.pointer (some ⟨g, 0, none⟩), .int .i64 1] rfl (by (try simp only [List.map_toArray, List.map_cons, List.map_nil]); rfl) ?_; (with_reducible refine (spec_l01Text.calls k g s0_0 t628 t629 1 t630 t631 t632 w0 _ ?side1 ?side2 A7.out).mono ?_); (case side1 => repeat ((with_reducible exact HI0.out))); (case side2 => repeat ((with_reducible exact HB.out))); rintro e w9 ⟨rfl, hi, hb, hk⟩; refine ⟨_, rfl, ?_⟩; have n0_ := Aside0.mk (KeepBut.trans (by repeat ((with_reducible exact HK.out))) hk (.inl rfl)); have n1_ := Aside0.mk (hb); have n2_ := Aside0.mk (hi); clear HK; clear HB; clear HI0; have HK := n0_; have HB := n1_; have HI0 := n2_; clear n0_ n1_ n2_; (try clear hb); (try clear hb2); (try clear hk); (try clear hi)))
      go_ret
      exact ⟨by rfl, by repeat ((with_reducible exact HI0.out)), by repeat ((with_reducible exact HB.out)), by repeat ((with_reducible exact HK.out))⟩
    · rw [if_neg c8] at H
      exact absurd H (by simp)
  · rw [if_neg c6] at H
    have c6b0 : (t627 == 0) = false := beq_eq_false_iff_ne.mpr c6
    have c6b1 : (t627 != 0) = true := bne_iff_ne.mpr c6
    (rw [c6b0])
    by_cases c10 : t627 = 1
    · rw [if_pos c10] at H
      have c10b0 : (t627 == 1) = true := beq_iff_eq.mpr c10
      have c10b1 : (t627 != 1) = false := bne_eq_false_iff_eq.mpr c10
      clear c10
      replace H := Option.bind_eq_some_iff.mp H
      obtain ⟨⟨t633, t634, t635⟩, A110, H⟩ := H
      replace H : (if 0 ≤ t633 then (if t633 ≤ (a1.size : Int) then (some (a1.extract 0 (t633 : Int).toNat, t634, t635)) else (none)) else (none)) = some (r1, r2, r3) := H
      have A11 := Aside0.mk A110
      clear A110
      by_cases c12 : 0 ≤ t633
      · rw [if_pos c12] at H
        have c12b0 := eq_true c12
        have c12b1 : decide (0 ≤ t633) = true := decide_eq_true c12
        clear c12
        by_cases c13 : t633 ≤ (a1.size : Int)
        · rw [if_pos c13] at H
          have c13b0 := eq_true c13
          have c13b1 : decide (t633 ≤ (a1.size : Int)) = true := decide_eq_true c13
          clear c13
          simp only [Option.some.injEq, Prod.mk.injEq] at H
          obtain ⟨rfl, rfl, rfl⟩ := H
          go_wp2_with (((with_reducible refine gate_callee (f := 55) rfl ?_); refine goesL_ (some 21) rfl rfl Tryd.func55 (by kernel_rfl) rfl #[.pointer (some ⟨g, 0, none⟩), .int .i64 (wrap64 ((a1.size : Int) + 1))] rfl (by (try simp only [List.map_toArray, List.map_cons, List.map_nil]); rfl) ?_; (with_reducible refine (spec_l01Below.calls g s0_0 t628 t629 (wrap64 ((a1.size : Int) + 1)) t633 t634 t635 w0 _ ?side1 ?side2 A11.out).mono ?_); (case side1 => repeat ((with_reducible exact HI0.out))); (case side2 => repeat ((with_reducible exact HB.out))); rintro e w14 ⟨rfl, hi, hb, hk⟩; refine ⟨_, rfl, ?_⟩; have n0_ := Aside0.mk (KeepBut.trans (by repeat ((with_reducible exact HK.out))) hk (.inl rfl)); have n1_ := Aside0.mk (hb); have n2_ := Aside0.mk (hi); clear HK; clear HB; clear HI0; have HK := n0_; have HB := n1_; have HI0 := n2_; clear n0_ n1_ n2_; (try clear hb); (try clear hb2); (try clear hk); (try clear hi)))
          go_ret
          exact ⟨by rfl, by repeat ((with_reducible exact HI0.out)), by repeat ((with_reducible exact HB.out)), by repeat ((with_reducible exact HK.out))⟩
        · rw [if_neg c13] at H
          exact absurd H (by simp)
      · rw [if_neg c12] at H
        exact absurd H (by simp)
    · rw [if_neg c10] at H
      have c10b0 : (t627 == 1) = false := beq_eq_false_iff_ne.mpr c10
      have c10b1 : (t627 != 1) = true := bne_iff_ne.mpr c10
      have HC15 := Aside0.mk H
      clear H
      go_upto_if 23 with (fail)
      go_cut [23] (fun v23 wc => ∃ (kq : Nat) (x23_14 : Bool), v23 = .bool x23_14 ∧ Aside0 (spec_l02Spoilt.j0 kq a1 x23_14 s0_0 t628 t629 = some (r1, r2, r3)) ∧ Aside0 (kq ≤ k) ∧ Aside0 (IsS91 w0 wc g s0_0 t628 t629) ∧ Aside0 (KeepBut w wc g none) ∧ Aside0 (Below w0.heap.size w0 wc))
      case first =>
        have H := HC15.out
        clear HC15
        by_cases c16 : t627 = 2
        · rw [if_pos c16] at H
          have c16b0 : (t627 == 2) = true := beq_iff_eq.mpr c16
          have c16b1 : (t627 != 2) = false := bne_eq_false_iff_eq.mpr c16
          clear c16
          (rw [c16b0])
          have H' := Aside0.mk H
          clear H
          go_wp2
          go_meet
          case rel => exact ⟨_, ((t627 == 2)), (by (simp [*]; done)), H', ⟨by omega⟩, ⟨by repeat ((with_reducible exact HI0.out))⟩, ⟨by repeat ((with_reducible exact HK.out))⟩, ⟨by repeat ((with_reducible exact HB.out))⟩⟩
        · rw [if_neg c16] at H
          have c16b0 : (t627 == 2) = false := beq_eq_false_iff_ne.mpr c16
          have c16b1 : (t627 != 2) = true := bne_iff_ne.mpr c16
          (rw [c16b0])
          have H' := Aside0.mk H
          clear H
          go_wp2
          go_meet
          case rel => exact ⟨_, ((t627 == 3)), (by rfl), H', ⟨by omega⟩, ⟨by repeat ((with_reducible exact HI0.out))⟩, ⟨by repeat ((with_reducible exact HK.out))⟩, ⟨by repeat ((with_reducible exact HB.out))⟩⟩
      case rest =>
        clear HC15
        clear c6
        clear c6b0
        clear c6b1
        clear c10
        clear c10b0
        clear c10b1
        obtain ⟨kq, x23_14, rfl, HA, HJ14, HI0, HK, HB⟩ := hcut
        cases kq with
        | zero => exact absurd HA.out (by simp [spec_l02Spoilt.j0])
        | succ kj14 =>
          have H := HA.out
          clear HA
          simp only [spec_l02Spoilt.j0] at H
          by_cases c17 : x23_14 = true
          · subst c17
            have H1 : (if (a1.size : Int) > 0 then ((spec_l01Below.f s0_0 t628 t629 (a1.size : Int)).bind fun bt636 => (if 0 ≤ bt636.1 then (if bt636.1 ≤ (a1.size : Int) then ((spec_l01Text.f kj14 s0_0 bt636.2.1 bt636.2.2 1).bind fun bt639 => (if (a1.extract 0 (bt636.1 : Int).toNat).size + bt639.1.size ≤ 9223372036854775807 then (if 0 ≤ (wrap64 (bt636.1 + 1)) then (if (wrap64 (bt636.1 + 1)) ≤ (a1.size : Int) then (if ((a1.extract 0 (bt636.1 : Int).toNat) ++ bt639.1).size + (a1.extract ((wrap64 (bt636.1 + 1)) : Int).toNat a1.size).size ≤ 9223372036854775807 then (some (((a1.extract 0 (bt636.1 : Int).toNat) ++ bt639.1) ++ (a1.extract ((wrap64 (bt636.1 + 1)) : Int).toNat a1.size), bt639.2.1, bt639.2.2)) else (none)) else (none)) else (none)) else (none))) else (none)) else (none))) else (some (a1, t628, t629))) = some (r1, r2, r3) := by rw [if_pos rfl] at H; exact H
            clear H
            have H := H1
            clear H1
            by_cases c18 : (a1.size : Int) > 0
            · rw [if_pos c18] at H
              have c18b0 : decide (0 < (a1.size : Int)) = true := decide_eq_true c18
              have c18b1 : decide (0 < a1.size) = true := decide_eq_true (by omega)
              clear c18
              replace H := Option.bind_eq_some_iff.mp H
              obtain ⟨⟨t636, t637, t638⟩, A190, H⟩ := H
              replace H : (if 0 ≤ t636 then (if t636 ≤ (a1.size : Int) then ((spec_l01Text.f kj14 s0_0 t637 t638 1).bind fun bt639 => (if (a1.extract 0 (t636 : Int).toNat).size + bt639.1.size ≤ 9223372036854775807 then (if 0 ≤ (wrap64 (t636 + 1)) then (if (wrap64 (t636 + 1)) ≤ (a1.size : Int) then (if ((a1.extract 0 (t636 : Int).toNat) ++ bt639.1).size + (a1.extract ((wrap64 (t636 + 1)) : Int).toNat a1.size).size ≤ 9223372036854775807 then (some (((a1.extract 0 (t636 : Int).toNat) ++ bt639.1) ++ (a1.extract ((wrap64 (t636 + 1)) : Int).toNat a1.size), bt639.2.1, bt639.2.2)) else (none)) else (none)) else (none)) else (none))) else (none)) else (none)) = some (r1, r2, r3) := H
              have A19 := Aside0.mk A190
              clear A190
              by_cases c20 : 0 ≤ t636
              · rw [if_pos c20] at H
                have c20b0 := eq_true c20
                have c20b1 : decide (0 ≤ t636) = true := decide_eq_true c20
                clear c20
                by_cases c21 : t636 ≤ (a1.size : Int)
                · rw [if_pos c21] at H
                  have c21b0 := eq_true c21
                  have c21b1 : decide (t636 ≤ (a1.size : Int)) = true := decide_eq_true c21
                  clear c21
                  replace H := Option.bind_eq_some_iff.mp H
                  obtain ⟨⟨t639, t640, t641⟩, A220, H⟩ := H
                  replace H : (if (a1.extract 0 (t636 : Int).toNat).size + t639.size ≤ 9223372036854775807 then (if 0 ≤ (wrap64 (t636 + 1)) then (if (wrap64 (t636 + 1)) ≤ (a1.size : Int) then (if ((a1.extract 0 (t636 : Int).toNat) ++ t639).size + (a1.extract ((wrap64 (t636 + 1)) : Int).toNat a1.size).size ≤ 9223372036854775807 then (some (((a1.extract 0 (t636 : Int).toNat) ++ t639) ++ (a1.extract ((wrap64 (t636 + 1)) : Int).toNat a1.size), t640, t641)) else (none)) else (none)) else (none)) else (none)) = some (r1, r2, r3) := H
                  have A22 := Aside0.mk A220
                  clear A220
                  by_cases c23 : (a1.extract 0 (t636 : Int).toNat).size + t639.size ≤ 9223372036854775807
                  · rw [if_pos c23] at H
                    have c23b0 := eq_true c23
                    have c23b1 : decide ((a1.extract 0 (t636 : Int).toNat).size + t639.size ≤ 9223372036854775807) = true := decide_eq_true c23
                    have c23y2 : (9223372036854775807 < (t636 : Int).toNat + t639.size) = False := (by have h_ := c23; have q0_ : (t636 : Int) ≤ (a1.size : Int) := of_decide_eq_true (by (with_reducible assumption)); simp only [ByteArray.size_append, ByteArray.size_extract] at h_; exact eq_false (by omega))
                    have c23b2 : (9223372036854775807 < (a1.extract 0 (t636 : Int).toNat).size + t639.size) = False := eq_false (Nat.not_lt.2 c23)
                    obtain ⟨ji24, hji24⟩ : ∃ j_ : Int, (wrap64 (t636 + 1)) = j_ := ⟨_, rfl⟩
                    replace H : (if 0 ≤ (ji24) then (if (ji24) ≤ (a1.size : Int) then (if ((a1.extract 0 (t636 : Int).toNat) ++ t639).size + (a1.extract ((ji24) : Int).toNat a1.size).size ≤ 9223372036854775807 then (some (((a1.extract 0 (t636 : Int).toNat) ++ t639) ++ (a1.extract ((ji24) : Int).toNat a1.size), t640, t641)) else (none)) else (none)) else (none)) = some (r1, r2, r3) := by (rw [hji24] at H; exact H)
                    (try rw [hji24] at A19)
                    (try rw [hji24] at A22)
                    have hji24w : (IntKind.i64.wrap (t636 + 1)) = ji24 := (i64_w _).trans hji24
                    by_cases c25 : 0 ≤ (ji24)
                    · rw [if_pos c25] at H
                      have c25b0 := eq_true c25
                      have c25b1 : decide (0 ≤ (ji24)) = true := decide_eq_true c25
                      clear c25
                      by_cases c26 : (ji24) ≤ (a1.size : Int)
                      · rw [if_pos c26] at H
                        have c26b0 := eq_true c26
                        have c26b1 : decide ((ji24) ≤ (a1.size : Int)) = true := decide_eq_true c26
                        clear c26
                        by_cases c27 : ((a1.extract 0 (t636 : Int).toNat) ++ t639).size + (a1.extract ((ji24) : Int).toNat a1.size).size ≤ 9223372036854775807
                        · rw [if_pos c27] at H
                          have c27b0 := eq_true c27
                          have c27b1 : decide (((a1.extract 0 (t636 : Int).toNat) ++ t639).size + (a1.extract ((ji24) : Int).toNat a1.size).size ≤ 9223372036854775807) = true := decide_eq_true c27
                          have c27x : (a1.extract 0 (t636 : Int).toNat).size + t639.size + (a1.extract ((ji24) : Int).toNat a1.size).size ≤ 9223372036854775807 := by have h_ := c27; (try simp only [ByteArray.size_append] at h_); exact h_
                          have c27x0 := eq_true c27x
                          have c27x2 : (9223372036854775807 < (a1.extract 0 (t636 : Int).toNat).size + t639.size + (a1.extract ((ji24) : Int).toNat a1.size).size) = False := eq_false (Nat.not_lt.2 c27x)
                          have c27y2 : (9223372036854775807 < (t636 : Int).toNat + t639.size + (a1.size - (ji24 : Int).toNat)) = False := (by have h_ := c27; have q0_ : (t636 : Int) ≤ (a1.size : Int) := of_decide_eq_true (by (with_reducible assumption)); simp only [ByteArray.size_append, ByteArray.size_extract] at h_; exact eq_false (by omega))
                          have c27b2 : (9223372036854775807 < ((a1.extract 0 (t636 : Int).toNat) ++ t639).size + (a1.extract ((ji24) : Int).toNat a1.size).size) = False := eq_false (Nat.not_lt.2 c27)
                          simp only [Option.some.injEq, Prod.mk.injEq] at H
                          obtain ⟨rfl, rfl, rfl⟩ := H
                          go_wp2_with (((with_reducible refine gate_callee (f := 55) rfl ?_); refine goesL_ (some 32) rfl rfl Tryd.func55 (by kernel_rfl) rfl #[.pointer (some ⟨g, 0, none⟩), .int .i64 (a1.size : Int)] rfl (by (try simp only [List.map_toArray, List.map_cons, List.map_nil]); rfl) ?_; (with_reducible refine (spec_l01Below.calls g s0_0 t628 t629 (a1.size : Int) t636 t637 t638 w0 _ ?side1 ?side2 A19.out).mono ?_); (case side1 => repeat ((with_reducible exact HI0.out))); (case side2 => repeat ((with_reducible exact HB.out))); rintro e w28 ⟨rfl, hi, hb, hk⟩; refine ⟨_, rfl, ?_⟩; have n0_ := Aside0.mk (KeepBut.trans (by repeat ((with_reducible exact HK.out))) hk (.inl rfl)); have n1_ := Aside0.mk (hb); have n2_ := Aside0.mk (hi); clear HK; clear HB; clear HI0; have HK := n0_; have HB := n1_; have HI0 := n2_; clear n0_ n1_ n2_; (try clear hb); (try clear hb2); (try clear hk); (try clear hi)))
                          have n0_ := Aside0.mk (IsS91.drew HI0.out)
                          have n1_ := Aside0.mk (keep_drew HK.out)
                          have n2_ := Aside0.mk (below_drew1 HB.out)
                          clear HI0
                          clear HK
                          clear HB
                          have HI0 := n0_
                          have HK := n1_
                          have HB := n2_
                          clear n0_ n1_ n2_
                          refine start_ (n := 12) (S := fun w' => True) (ds := []) #[false, false, false, false, false, false, false, false, false, false, false, false] (by kernel_rfl) rfl rfl trivial (fun hHeld => ?_); refine with_tabW spec_l02Spoilt.tab10 spec_l02Spoilt.bits10 (fun HT_ HW_ => ?_)
                          generalize w28.drew = w29 at HI0 HK HB hHeld ⊢
                          refine pure_ (i := 0) (N := some 33) (v := ?_) (a' := ?_) #[true, false, false, false, false, false, false, false, false, false, false, false] rfl rfl (any_of HT_.out (by kernel_rfl)) (fun _ _ _ h => h) (Or.inl ⟨by rfl, ?_⟩) ?_ ?_
                          rotate_left
                          · intro w'
                            go_simp
                            with_reducible rfl
                          rotate_left
                          · simp only [Act.put, List.setIfInBounds_toArray, List.set_cons_zero, List.set_cons_succ, i64_w, i32_w]
                            rfl
                          refine pure_ (i := 1) (N := some 34) (v := ?_) (a' := ?_) #[true, true, false, false, false, false, false, false, false, false, false, false] rfl rfl (any_of HT_.out (by kernel_rfl)) (fun _ _ _ h => h) (Or.inl ⟨by rfl, ?_⟩) ?_ ?_
                          rotate_left
                          · intro w'
                            go_simp
                            with_reducible rfl
                          rotate_left
                          · simp only [Act.put, List.setIfInBounds_toArray, List.set_cons_zero, List.set_cons_succ, i64_w, i32_w]
                            rfl
                          refine pure_ (i := 2) (N := some 35) (v := ?_) (a' := ?_) #[true, true, true, false, false, false, false, false, false, false, false, false] rfl rfl (any_of HT_.out (by kernel_rfl)) (fun _ _ _ h => h) (Or.inl ⟨by rfl, ?_⟩) ?_ ?_
                          rotate_left
                          · intro w'
                            go_simp
                            with_reducible rfl
                          rotate_left
                          · simp only [Act.put, List.setIfInBounds_toArray, List.set_cons_zero, List.set_cons_succ, i64_w, i32_w]
                            rfl
                          refine pure_ (i := 3) (N := some 36) (v := ?_) (a' := ?_) #[true, true, true, true, false, false, false, false, false, false, false, false] rfl rfl (any_of HT_.out (by kernel_rfl)) (fun _ _ _ h => h) (Or.inl ⟨by rfl, ?_⟩) ?_ ?_
                          rotate_left
                          · intro w'
                            go_simp
                            with_reducible rfl
                          rotate_left
                          · simp only [Act.put, List.setIfInBounds_toArray, List.set_cons_zero, List.set_cons_succ, i64_w, i32_w]
                            rfl
                          refine pure_ (i := 6) (N := some 39) (v := ?_) (a' := ?_) #[true, true, true, true, false, false, true, false, false, false, false, false] rfl rfl (any_of HT_.out (by kernel_rfl)) (fun _ _ _ h => h) (Or.inl ⟨by rfl, ?_⟩) ?_ ?_
                          rotate_left
                          · intro w'
                            go_simp
                            with_reducible rfl
                          rotate_left
                          · simp only [Act.put, List.setIfInBounds_toArray, List.set_cons_zero, List.set_cons_succ, i64_w, i32_w]
                            rfl
                          refine pure_ (i := 7) (N := some 40) (v := ?_) (a' := ?_) #[true, true, true, true, false, false, true, true, false, false, false, false] rfl rfl (any_of HT_.out (by kernel_rfl)) (fun _ _ _ h => h) (Or.inl ⟨by rfl, ?_⟩) ?_ ?_
                          rotate_left
                          · intro w'
                            go_simp
                            with_reducible rfl
                          rotate_left
                          · simp only [Act.put, List.setIfInBounds_toArray, List.set_cons_zero, List.set_cons_succ, i64_w, i32_w]
                            rfl
                          refine pure_ (i := 8) (N := some 41) (v := ?_) (a' := ?_) #[true, true, true, true, false, false, true, true, true, false, false, false] rfl rfl (any_of HT_.out (by kernel_rfl)) (fun _ _ _ h => h) (Or.inl ⟨by rfl, ?_⟩) ?_ ?_
                          rotate_left
                          · intro w'
                            go_simp
                            with_reducible rfl
                          rotate_left
                          · simp only [Act.put, List.setIfInBounds_toArray, List.set_cons_zero, List.set_cons_succ, i64_w, i32_w]
                            rfl
                          refine pure_ (i := 9) (N := some 42) (v := ?_) (a' := ?_) #[true, true, true, true, false, false, true, true, true, true, false, false] rfl rfl (any_of HT_.out (by kernel_rfl)) (fun _ _ _ h => h) (Or.inl ⟨by rfl, ?_⟩) ?_ ?_
                          rotate_left
                          · intro w'
                            go_simp
                            with_reducible rfl
                          rotate_left
                          · simp only [Act.put, List.setIfInBounds_toArray, List.set_cons_zero, List.set_cons_succ, i64_w, i32_w]
                            rfl
                          refine one_ (i := 4) (N := some 37) #[true, true, true, true, true, false, true, true, true, true, false, false] rfl rfl (one_of HT_.out (by kernel_rfl)) (by decide) (fun K hK => ?_)
                          refine goes_ Tryd.func99 (by kernel_rfl) rfl #[.pointer (some ⟨g, 0, none⟩), .int .i64 1] (by rfl) rfl rfl (by (try simp only [List.map_toArray, List.map_cons, List.map_nil]); rfl) ?_
                          with_reducible refine (spec_l01Text.calls kj14 g s0_0 t637 t638 1 t639 t640 t641 w0 _ ?side1 ?side2 A22.out).mono ?_
                          (case side1 => repeat ((with_reducible exact HI0.out)))
                          (case side2 => repeat ((with_reducible exact HB.out)))
                          rintro e w30 ⟨rfl, hi, hb, hk⟩
                          refine ⟨_, rfl, ?_⟩
                          have n0_ := Aside0.mk (KeepBut.trans (by repeat ((with_reducible exact HK.out))) hk (.inl rfl))
                          have n1_ := Aside0.mk (hb)
                          have n2_ := Aside0.mk (hi)
                          clear HK
                          clear HB
                          clear HI0
                          have HK := n0_
                          have HB := n1_
                          have HI0 := n2_
                          clear n0_ n1_ n2_
                          (try clear hb)
                          (try clear hb2)
                          (try clear hk)
                          (try clear hi)
                          refine hK.out _ _ trivial (fun hHeld => ?_)
                          clear hK K
                          refine norm_ (a' := ?_) ?_ ?_
                          rotate_left
                          · show Act.put _ (some 37) _ = _
                            simp only [Act.put, List.setIfInBounds_toArray, List.set_cons_zero, List.set_cons_succ, i64_w, i32_w]
                            rfl
                          refine pure_ (i := 5) (N := some 38) (v := ?_) (a' := ?_) #[true, true, true, true, true, true, true, true, true, true, false, false] rfl rfl (any_of HT_.out (by kernel_rfl)) (fun _ _ _ h => h) (Or.inl ⟨by rfl, ?_⟩) ?_ ?_
                          rotate_left
                          · intro w'
                            go_simp
                            with_reducible rfl
                          rotate_left
                          · simp only [Act.put, List.setIfInBounds_toArray, List.set_cons_zero, List.set_cons_succ, i64_w, i32_w]
                            rfl
                          refine pure_ (i := 10) (N := some 43) (v := ?_) (a' := ?_) #[true, true, true, true, true, true, true, true, true, true, true, false] rfl rfl (any_of HT_.out (by kernel_rfl)) (fun _ _ _ h => h) (Or.inl ⟨by rfl, ?_⟩) ?_ ?_
                          rotate_left
                          · intro w'
                            go_simp
                            with_reducible rfl
                          rotate_left
                          · simp only [Act.put, List.setIfInBounds_toArray, List.set_cons_zero, List.set_cons_succ, i64_w, i32_w]
                            rfl
                          refine pure_ (i := 11) (N := some 4) (v := ?_) (a' := ?_) #[true, true, true, true, true, true, true, true, true, true, true, true] rfl rfl (any_of HT_.out (by kernel_rfl)) (fun _ _ _ h => h) (Or.inl ⟨by rfl, ?_⟩) ?_ ?_
                          rotate_left
                          · intro w'
                            go_simp
                            with_reducible rfl
                          rotate_left
                          · simp only [Act.put, List.setIfInBounds_toArray, List.set_cons_zero, List.set_cons_succ, i64_w, i32_w]
                            rfl
                          refine done_ (done_of HT_.out (by kernel_rfl)) ?_
                          go_wp2
                          go_ret
                          exact ⟨by rfl, by repeat ((with_reducible exact HI0.out)), by repeat ((with_reducible exact HB.out)), by repeat ((with_reducible exact HK.out))⟩
                        · rw [if_neg c27] at H
                          exact absurd H (by simp)
                      · rw [if_neg c26] at H
                        exact absurd H (by simp)
                    · rw [if_neg c25] at H
                      exact absurd H (by simp)
                  · rw [if_neg c23] at H
                    exact absurd H (by simp)
                · rw [if_neg c21] at H
                  exact absurd H (by simp)
              · rw [if_neg c20] at H
                exact absurd H (by simp)
            · rw [if_neg c18] at H
              have c18b0 : decide (0 < (a1.size : Int)) = false := decide_eq_false c18
              have c18b1 : decide (0 < a1.size) = false := decide_eq_false (by omega)
              clear c18
              simp only [Option.some.injEq, Prod.mk.injEq] at H
              obtain ⟨rfl, rfl, rfl⟩ := H
              go_wp2
              go_ret
              exact ⟨by rfl, by repeat ((with_reducible exact HI0.out)), by repeat ((with_reducible exact HB.out)), by repeat ((with_reducible exact HK.out))⟩
          · replace c17 := Bool.eq_false_iff.mpr c17
            subst c17
            have H1 : (some (a1, t628, t629)) = some (r1, r2, r3) := by rw [if_neg (show ¬ (false = true) by decide)] at H; exact H
            clear H
            have H := H1
            clear H1
            simp only [Option.some.injEq, Prod.mk.injEq] at H
            obtain ⟨rfl, rfl, rfl⟩ := H
            go_wp2
            go_ret
            exact ⟨by rfl, by repeat ((with_reducible exact HI0.out)), by repeat ((with_reducible exact HB.out)), by repeat ((with_reducible exact HK.out))⟩
def spec_DrawReadHead.f (k : Nat) (l0 : List Int) : Option (ByteArray) := (spec_l01New.f k l0).bind fun bt642 => ((spec_l01Below.f bt642.1 bt642.2.1 bt642.2.2 10).bind fun bt646 => ((spec_l01Below.f bt642.1 bt646.2.1 bt646.2.2 200).bind fun bt649 => ((spec_l09Any.f k bt642.1 bt649.2.1 bt649.2.2).bind fun bt652 => ((spec_HeadText.f k bt652.1 bt652.2.1).bind fun bt658 => (if bt646.1 = 0 then (if (wrap64 ((bt658.1.size : Int) + 1)) = 0 then (none) else (if 0 ≤ (Int.tmod bt649.1 (wrap64 ((bt658.1.size : Int) + 1))) then (if (Int.tmod bt649.1 (wrap64 ((bt658.1.size : Int) + 1))) ≤ (bt658.1.size : Int) then (some (bt658.1.extract 0 ((Int.tmod bt649.1 (wrap64 ((bt658.1.size : Int) + 1))) : Int).toNat)) else (none)) else (none))) else (if bt646.1 = 1 then (if (wrap64 ((bt658.1.size : Int) + 1)) = 0 then (none) else (if 0 ≤ (Int.tmod bt649.1 (wrap64 ((bt658.1.size : Int) + 1))) then (if (Int.tmod bt649.1 (wrap64 ((bt658.1.size : Int) + 1))) ≤ (bt658.1.size : Int) then (some (bt658.1.extract 0 ((Int.tmod bt649.1 (wrap64 ((bt658.1.size : Int) + 1))) : Int).toNat)) else (none)) else (none))) else (if bt646.1 = 2 then ((spec_l02Spoilt.f k bt642.1 bt652.2.2.1 bt652.2.2.2 bt658.1).bind fun bt660 => (some bt660.1)) else (if bt646.1 = 3 then (if bt658.1.size + 4 ≤ 9223372036854775807 then (some (bt658.1 ++ (⟨#[98, 111, 100, 121]⟩ : ByteArray))) else (none)) else (if bt646.1 = 4 then (some (⟨#[71, 69, 84, 32, 47, 97, 32, 72, 84, 84, 80, 47, 49, 46, 49, 13, 10, 72, 111, 115, 116, 58, 32, 32, 98, 32, 32, 13, 10, 88, 45, 89, 58, 122, 13, 10, 13, 10]⟩ : ByteArray)) else (if bt646.1 = 5 then ((spec_l01Long.f k (wrap64 (bt649.1 + 140)) 97).bind fun t663 => (if 3 + t663.size ≤ 9223372036854775807 then (some ((⟨#[97, 13, 10]⟩ : ByteArray) ++ t663)) else (none))) else (some bt658.1)))))))))))
set_option maxHeartbeats 8000000 in
set_option maxRecDepth 100000 in
theorem spec_DrawReadHead.calls (k : Nat) (A0 : Option Addr) (c0 : Nat) (l0 : List Int) (r : ByteArray) (w : World) (hr0 : Kd.C (Kd.int .u8) w A0 l0.length l0) (hc0 : l0.length ≤ c0) (h : spec_DrawReadHead.f k l0 = some r) :
    Calls Tryd.prog 40 #[.slice A0 l0.length c0] w fun e w' => e = .returned (.string r) ∧ Below w.heap.size w w' := by
  have HR0 := Aside0.mk hr0
  have HC0 := Aside0.mk hc0
  clear hr0 hc0
  have HB := Aside0.mk (Below.refl w.heap.size w)
  have H : ((spec_l01New.f k l0).bind fun bt642 => ((spec_l01Below.f bt642.1 bt642.2.1 bt642.2.2 10).bind fun bt646 => ((spec_l01Below.f bt642.1 bt646.2.1 bt646.2.2 200).bind fun bt649 => ((spec_l09Any.f k bt642.1 bt649.2.1 bt649.2.2).bind fun bt652 => ((spec_HeadText.f k bt652.1 bt652.2.1).bind fun bt658 => (if bt646.1 = 0 then (if (wrap64 ((bt658.1.size : Int) + 1)) = 0 then (none) else (if 0 ≤ (Int.tmod bt649.1 (wrap64 ((bt658.1.size : Int) + 1))) then (if (Int.tmod bt649.1 (wrap64 ((bt658.1.size : Int) + 1))) ≤ (bt658.1.size : Int) then (some (bt658.1.extract 0 ((Int.tmod bt649.1 (wrap64 ((bt658.1.size : Int) + 1))) : Int).toNat)) else (none)) else (none))) else (if bt646.1 = 1 then (if (wrap64 ((bt658.1.size : Int) + 1)) = 0 then (none) else (if 0 ≤ (Int.tmod bt649.1 (wrap64 ((bt658.1.size : Int) + 1))) then (if (Int.tmod bt649.1 (wrap64 ((bt658.1.size : Int) + 1))) ≤ (bt658.1.size : Int) then (some (bt658.1.extract 0 ((Int.tmod bt649.1 (wrap64 ((bt658.1.size : Int) + 1))) : Int).toNat)) else (none)) else (none))) else (if bt646.1 = 2 then ((spec_l02Spoilt.f k bt642.1 bt652.2.2.1 bt652.2.2.2 bt658.1).bind fun bt660 => (some bt660.1)) else (if bt646.1 = 3 then (if bt658.1.size + 4 ≤ 9223372036854775807 then (some (bt658.1 ++ (⟨#[98, 111, 100, 121]⟩ : ByteArray))) else (none)) else (if bt646.1 = 4 then (some (⟨#[71, 69, 84, 32, 47, 97, 32, 72, 84, 84, 80, 47, 49, 46, 49, 13, 10, 72, 111, 115, 116, 58, 32, 32, 98, 32, 32, 13, 10, 88, 45, 89, 58, 122, 13, 10, 13, 10]⟩ : ByteArray)) else (if bt646.1 = 5 then ((spec_l01Long.f k (wrap64 (bt649.1 + 140)) 97).bind fun t663 => (if 3 + t663.size ≤ 9223372036854775807 then (some ((⟨#[97, 13, 10]⟩ : ByteArray) ++ t663)) else (none))) else (some bt658.1)))))))))))) = some r := h
  clear h
  replace H := Option.bind_eq_some_iff.mp H
  obtain ⟨⟨t642, t643, t644⟩, A20, H⟩ := H
  replace H : ((spec_l01Below.f t642 t643 t644 10).bind fun bt646 => ((spec_l01Below.f t642 bt646.2.1 bt646.2.2 200).bind fun bt649 => ((spec_l09Any.f k t642 bt649.2.1 bt649.2.2).bind fun bt652 => ((spec_HeadText.f k bt652.1 bt652.2.1).bind fun bt658 => (if bt646.1 = 0 then (if (wrap64 ((bt658.1.size : Int) + 1)) = 0 then (none) else (if 0 ≤ (Int.tmod bt649.1 (wrap64 ((bt658.1.size : Int) + 1))) then (if (Int.tmod bt649.1 (wrap64 ((bt658.1.size : Int) + 1))) ≤ (bt658.1.size : Int) then (some (bt658.1.extract 0 ((Int.tmod bt649.1 (wrap64 ((bt658.1.size : Int) + 1))) : Int).toNat)) else (none)) else (none))) else (if bt646.1 = 1 then (if (wrap64 ((bt658.1.size : Int) + 1)) = 0 then (none) else (if 0 ≤ (Int.tmod bt649.1 (wrap64 ((bt658.1.size : Int) + 1))) then (if (Int.tmod bt649.1 (wrap64 ((bt658.1.size : Int) + 1))) ≤ (bt658.1.size : Int) then (some (bt658.1.extract 0 ((Int.tmod bt649.1 (wrap64 ((bt658.1.size : Int) + 1))) : Int).toNat)) else (none)) else (none))) else (if bt646.1 = 2 then ((spec_l02Spoilt.f k t642 bt652.2.2.1 bt652.2.2.2 bt658.1).bind fun bt660 => (some bt660.1)) else (if bt646.1 = 3 then (if bt658.1.size + 4 ≤ 9223372036854775807 then (some (bt658.1 ++ (⟨#[98, 111, 100, 121]⟩ : ByteArray))) else (none)) else (if bt646.1 = 4 then (some (⟨#[71, 69, 84, 32, 47, 97, 32, 72, 84, 84, 80, 47, 49, 46, 49, 13, 10, 72, 111, 115, 116, 58, 32, 32, 98, 32, 32, 13, 10, 88, 45, 89, 58, 122, 13, 10, 13, 10]⟩ : ByteArray)) else (if bt646.1 = 5 then ((spec_l01Long.f k (wrap64 (bt649.1 + 140)) 97).bind fun t663 => (if 3 + t663.size ≤ 9223372036854775807 then (some ((⟨#[97, 13, 10]⟩ : ByteArray) ++ t663)) else (none))) else (some bt658.1))))))))))) = some r := H
  have A2 := Aside0.mk A20
  clear A20
  replace H := Option.bind_eq_some_iff.mp H
  obtain ⟨⟨t646, t647, t648⟩, A30, H⟩ := H
  replace H : ((spec_l01Below.f t642 t647 t648 200).bind fun bt649 => ((spec_l09Any.f k t642 bt649.2.1 bt649.2.2).bind fun bt652 => ((spec_HeadText.f k bt652.1 bt652.2.1).bind fun bt658 => (if t646 = 0 then (if (wrap64 ((bt658.1.size : Int) + 1)) = 0 then (none) else (if 0 ≤ (Int.tmod bt649.1 (wrap64 ((bt658.1.size : Int) + 1))) then (if (Int.tmod bt649.1 (wrap64 ((bt658.1.size : Int) + 1))) ≤ (bt658.1.size : Int) then (some (bt658.1.extract 0 ((Int.tmod bt649.1 (wrap64 ((bt658.1.size : Int) + 1))) : Int).toNat)) else (none)) else (none))) else (if t646 = 1 then (if (wrap64 ((bt658.1.size : Int) + 1)) = 0 then (none) else (if 0 ≤ (Int.tmod bt649.1 (wrap64 ((bt658.1.size : Int) + 1))) then (if (Int.tmod bt649.1 (wrap64 ((bt658.1.size : Int) + 1))) ≤ (bt658.1.size : Int) then (some (bt658.1.extract 0 ((Int.tmod bt649.1 (wrap64 ((bt658.1.size : Int) + 1))) : Int).toNat)) else (none)) else (none))) else (if t646 = 2 then ((spec_l02Spoilt.f k t642 bt652.2.2.1 bt652.2.2.2 bt658.1).bind fun bt660 => (some bt660.1)) else (if t646 = 3 then (if bt658.1.size + 4 ≤ 9223372036854775807 then (some (bt658.1 ++ (⟨#[98, 111, 100, 121]⟩ : ByteArray))) else (none)) else (if t646 = 4 then (some (⟨#[71, 69, 84, 32, 47, 97, 32, 72, 84, 84, 80, 47, 49, 46, 49, 13, 10, 72, 111, 115, 116, 58, 32, 32, 98, 32, 32, 13, 10, 88, 45, 89, 58, 122, 13, 10, 13, 10]⟩ : ByteArray)) else (if t646 = 5 then ((spec_l01Long.f k (wrap64 (bt649.1 + 140)) 97).bind fun t663 => (if 3 + t663.size ≤ 9223372036854775807 then (some ((⟨#[97, 13, 10]⟩ : ByteArray) ++ t663)) else (none))) else (some bt658.1)))))))))) = some r := H
  have A3 := Aside0.mk A30
  clear A30
  replace H := Option.bind_eq_some_iff.mp H
  obtain ⟨⟨t649, t650, t651⟩, A40, H⟩ := H
  replace H : ((spec_l09Any.f k t642 t650 t651).bind fun bt652 => ((spec_HeadText.f k bt652.1 bt652.2.1).bind fun bt658 => (if t646 = 0 then (if (wrap64 ((bt658.1.size : Int) + 1)) = 0 then (none) else (if 0 ≤ (Int.tmod t649 (wrap64 ((bt658.1.size : Int) + 1))) then (if (Int.tmod t649 (wrap64 ((bt658.1.size : Int) + 1))) ≤ (bt658.1.size : Int) then (some (bt658.1.extract 0 ((Int.tmod t649 (wrap64 ((bt658.1.size : Int) + 1))) : Int).toNat)) else (none)) else (none))) else (if t646 = 1 then (if (wrap64 ((bt658.1.size : Int) + 1)) = 0 then (none) else (if 0 ≤ (Int.tmod t649 (wrap64 ((bt658.1.size : Int) + 1))) then (if (Int.tmod t649 (wrap64 ((bt658.1.size : Int) + 1))) ≤ (bt658.1.size : Int) then (some (bt658.1.extract 0 ((Int.tmod t649 (wrap64 ((bt658.1.size : Int) + 1))) : Int).toNat)) else (none)) else (none))) else (if t646 = 2 then ((spec_l02Spoilt.f k t642 bt652.2.2.1 bt652.2.2.2 bt658.1).bind fun bt660 => (some bt660.1)) else (if t646 = 3 then (if bt658.1.size + 4 ≤ 9223372036854775807 then (some (bt658.1 ++ (⟨#[98, 111, 100, 121]⟩ : ByteArray))) else (none)) else (if t646 = 4 then (some (⟨#[71, 69, 84, 32, 47, 97, 32, 72, 84, 84, 80, 47, 49, 46, 49, 13, 10, 72, 111, 115, 116, 58, 32, 32, 98, 32, 32, 13, 10, 88, 45, 89, 58, 122, 13, 10, 13, 10]⟩ : ByteArray)) else (if t646 = 5 then ((spec_l01Long.f k (wrap64 (t649 + 140)) 97).bind fun t663 => (if 3 + t663.size ≤ 9223372036854775807 then (some ((⟨#[97, 13, 10]⟩ : ByteArray) ++ t663)) else (none))) else (some bt658.1))))))))) = some r := H
  have A4 := Aside0.mk A40
  clear A40
  replace H := Option.bind_eq_some_iff.mp H
  obtain ⟨⟨t652, t653, t656, t657⟩, A50, H⟩ := H
  replace H : ((spec_HeadText.f k t652 t653).bind fun bt658 => (if t646 = 0 then (if (wrap64 ((bt658.1.size : Int) + 1)) = 0 then (none) else (if 0 ≤ (Int.tmod t649 (wrap64 ((bt658.1.size : Int) + 1))) then (if (Int.tmod t649 (wrap64 ((bt658.1.size : Int) + 1))) ≤ (bt658.1.size : Int) then (some (bt658.1.extract 0 ((Int.tmod t649 (wrap64 ((bt658.1.size : Int) + 1))) : Int).toNat)) else (none)) else (none))) else (if t646 = 1 then (if (wrap64 ((bt658.1.size : Int) + 1)) = 0 then (none) else (if 0 ≤ (Int.tmod t649 (wrap64 ((bt658.1.size : Int) + 1))) then (if (Int.tmod t649 (wrap64 ((bt658.1.size : Int) + 1))) ≤ (bt658.1.size : Int) then (some (bt658.1.extract 0 ((Int.tmod t649 (wrap64 ((bt658.1.size : Int) + 1))) : Int).toNat)) else (none)) else (none))) else (if t646 = 2 then ((spec_l02Spoilt.f k t642 t656 t657 bt658.1).bind fun bt660 => (some bt660.1)) else (if t646 = 3 then (if bt658.1.size + 4 ≤ 9223372036854775807 then (some (bt658.1 ++ (⟨#[98, 111, 100, 121]⟩ : ByteArray))) else (none)) else (if t646 = 4 then (some (⟨#[71, 69, 84, 32, 47, 97, 32, 72, 84, 84, 80, 47, 49, 46, 49, 13, 10, 72, 111, 115, 116, 58, 32, 32, 98, 32, 32, 13, 10, 88, 45, 89, 58, 122, 13, 10, 13, 10]⟩ : ByteArray)) else (if t646 = 5 then ((spec_l01Long.f k (wrap64 (t649 + 140)) 97).bind fun t663 => (if 3 + t663.size ≤ 9223372036854775807 then (some ((⟨#[97, 13, 10]⟩ : ByteArray) ++ t663)) else (none))) else (some bt658.1)))))))) = some r := H
  have A5 := Aside0.mk A50
  clear A50
  replace H := Option.bind_eq_some_iff.mp H
  obtain ⟨⟨t658, t659⟩, A60, H⟩ := H
  replace H : (if t646 = 0 then (if (wrap64 ((t658.size : Int) + 1)) = 0 then (none) else (if 0 ≤ (Int.tmod t649 (wrap64 ((t658.size : Int) + 1))) then (if (Int.tmod t649 (wrap64 ((t658.size : Int) + 1))) ≤ (t658.size : Int) then (some (t658.extract 0 ((Int.tmod t649 (wrap64 ((t658.size : Int) + 1))) : Int).toNat)) else (none)) else (none))) else (if t646 = 1 then (if (wrap64 ((t658.size : Int) + 1)) = 0 then (none) else (if 0 ≤ (Int.tmod t649 (wrap64 ((t658.size : Int) + 1))) then (if (Int.tmod t649 (wrap64 ((t658.size : Int) + 1))) ≤ (t658.size : Int) then (some (t658.extract 0 ((Int.tmod t649 (wrap64 ((t658.size : Int) + 1))) : Int).toNat)) else (none)) else (none))) else (if t646 = 2 then ((spec_l02Spoilt.f k t642 t656 t657 t658).bind fun bt660 => (some bt660.1)) else (if t646 = 3 then (if t658.size + 4 ≤ 9223372036854775807 then (some (t658 ++ (⟨#[98, 111, 100, 121]⟩ : ByteArray))) else (none)) else (if t646 = 4 then (some (⟨#[71, 69, 84, 32, 47, 97, 32, 72, 84, 84, 80, 47, 49, 46, 49, 13, 10, 72, 111, 115, 116, 58, 32, 32, 98, 32, 32, 13, 10, 88, 45, 89, 58, 122, 13, 10, 13, 10]⟩ : ByteArray)) else (if t646 = 5 then ((spec_l01Long.f k (wrap64 (t649 + 140)) 97).bind fun t663 => (if 3 + t663.size ≤ 9223372036854775807 then (some ((⟨#[97, 13, 10]⟩ : ByteArray) ++ t663)) else (none))) else (some t658))))))) = some r := H
  have A6 := Aside0.mk A60
  clear A60
  have HS7 := Aside0.mk H
  clear H
  go_enter Tryd.func40, Tryd.ntmps40
  go_upto_if 21 with (first | ((with_reducible refine gate_callee (f := 48) rfl ?_); refine goesL_ (some 9) rfl rfl Tryd.func48 (by kernel_rfl) rfl #[.slice A0 l0.length c0] rfl (by (try simp only [List.map_toArray, List.map_cons, List.map_nil]); rfl) ?_; (with_reducible refine (spec_l01New.calls k _ _ l0 t642 t643 t644 w _ ?side1 ?side2 ?side3 A2.out).mono ?_); (case side1 => repeat ((with_reducible exact HB.out))); (case side2 => exact HR0.out); (case side3 => exact HC0.out); rintro e w8 ⟨g645, rfl, hi, hb, hb2⟩; refine ⟨_, rfl, ?_⟩; have n0_ := Aside0.mk (hb); have n1_ := Aside0.mk (hi); clear HB; have HB := n0_; have HI645 := n1_; clear n0_ n1_; (try clear hb); (try clear hb2); (try clear hk); (try clear hi)) | ((with_reducible refine gate_callee (f := 55) rfl ?_); refine goesL_ (some 11) rfl rfl Tryd.func55 (by kernel_rfl) rfl #[.pointer (some ⟨g645, 0, none⟩), .int .i64 10] rfl (by (try simp only [List.map_toArray, List.map_cons, List.map_nil]); rfl) ?_; (with_reducible refine (spec_l01Below.calls g645 t642 t643 t644 10 t646 t647 t648 w _ ?side1 ?side2 A3.out).mono ?_); (case side1 => repeat ((with_reducible exact HI645.out))); (case side2 => repeat ((with_reducible exact HB.out))); rintro e w9 ⟨rfl, hi, hb, hk⟩; refine ⟨_, rfl, ?_⟩; have n0_ := Aside0.mk (hb); have n1_ := Aside0.mk (hi); clear HB; clear HI645; have HB := n0_; have HI645 := n1_; clear n0_ n1_; (try clear hb); (try clear hb2); (try clear hk); (try clear hi)) | ((with_reducible refine gate_callee (f := 55) rfl ?_); refine goesL_ (some 13) rfl rfl Tryd.func55 (by kernel_rfl) rfl #[.pointer (some ⟨g645, 0, none⟩), .int .i64 200] rfl (by (try simp only [List.map_toArray, List.map_cons, List.map_nil]); rfl) ?_; (with_reducible refine (spec_l01Below.calls g645 t642 t647 t648 200 t649 t650 t651 w _ ?side1 ?side2 A4.out).mono ?_); (case side1 => repeat ((with_reducible exact HI645.out))); (case side2 => repeat ((with_reducible exact HB.out))); rintro e w10 ⟨rfl, hi, hb, hk⟩; refine ⟨_, rfl, ?_⟩; have n0_ := Aside0.mk (hb); have n1_ := Aside0.mk (hi); clear HB; clear HI645; have HB := n0_; have HI645 := n1_; clear n0_ n1_; (try clear hb); (try clear hb2); (try clear hk); (try clear hi)) | ((with_reducible refine gate_callee (f := 69) rfl ?_); refine goesL_ (some 16) rfl rfl Tryd.func69 (by kernel_rfl) rfl #[.pointer (some ⟨g645, 0, none⟩)] rfl (by (try simp only [List.map_toArray, List.map_cons, List.map_nil]); rfl) ?_; (with_reducible refine (spec_l09Any.calls k g645 t642 t650 t651 t652 t653 t656 t657 w _ ?side1 ?side2 A5.out).mono ?_); (case side1 => repeat ((with_reducible exact HI645.out))); (case side2 => repeat ((with_reducible exact HB.out))); rintro e w11 ⟨v654, rfl, ho0, hi, hb, hk⟩; refine ⟨_, rfl, ?_⟩; have n0_ := Aside0.mk (Kd.R_lower ho0 (below_size (by repeat ((with_reducible exact HB.out))))); have n1_ := Aside0.mk (hb); have n2_ := Aside0.mk (hi); clear HB; clear HI645; have HO655 := n0_; have HB := n1_; have HI645 := n2_; clear n0_ n1_ n2_; (try clear hb); (try clear hb2); (try clear hk); (try clear hi); (try clear ho0); obtain ⟨Ao12, co12, eo12⟩ := Kd.R_slice HO655.out; subst eo12) | ((with_reducible refine gate_callee (f := 28) rfl ?_); refine goesL_ (some 17) rfl rfl Tryd.func28 (by kernel_rfl) rfl #[.agg #[.string t652, .slice Ao12 t653.length co12]] rfl (by (try simp only [List.map_toArray, List.map_cons, List.map_nil]); rfl) ?_; (with_reducible refine (spec_HeadText.calls k t652 _ _ t653 t658 t659 _ ?side1 ?side2 A6.out).mono ?_); (case side1 => repeat (exact (Kd.R_reads' HO655.out).2.2)); (case side2 => exact (Kd.R_reads' HO655.out).2.1); rintro e w13 ⟨rfl, hb⟩; refine ⟨_, rfl, ?_⟩; have n0_ := Aside0.mk (Kd.R_below (by (with_reducible repeat (first | apply Kd.R_alloc | apply Kd.R_drewN | apply Kd.R_drew )); exact HO655.out) hb); have n1_ := Aside0.mk (IsS91.below (by repeat ((with_reducible exact HI645.out))) hb); have n2_ := Aside0.mk (below_step (by repeat ((with_reducible exact HB.out))) hb); clear HO655; clear HI645; clear HB; have HO655 := n0_; have HI645 := n1_; have HB := n2_; clear n0_ n1_ n2_; (try clear hb); (try clear hb2); (try clear hk); (try clear hi)))
  (try simp only [Act.put, List.setIfInBounds_toArray, List.set_cons_zero, List.set_cons_succ])
  have H := HS7.out
  clear HS7
  by_cases c14 : t646 = 0
  · rw [if_pos c14] at H
    have c14b0 : (t646 == 0) = true := beq_iff_eq.mpr c14
    have c14b1 : (t646 != 0) = false := bne_eq_false_iff_eq.mpr c14
    clear c14
    (rw [c14b0])
    by_cases c15 : (wrap64 ((t658.size : Int) + 1)) = 0
    · rw [if_pos c15] at H
      exact absurd H (by simp)
    · rw [if_neg c15] at H
      have c15b0 : ((wrap64 ((t658.size : Int) + 1)) == 0) = false := beq_eq_false_iff_ne.mpr c15
      have c15b1 : ((wrap64 ((t658.size : Int) + 1)) != 0) = true := bne_iff_ne.mpr c15
      obtain ⟨ji16, hji16⟩ : ∃ j_ : Int, (Int.tmod t649 (wrap64 ((t658.size : Int) + 1))) = j_ := ⟨_, rfl⟩
      replace H : (if 0 ≤ (ji16) then (if (ji16) ≤ (t658.size : Int) then (some (t658.extract 0 ((ji16) : Int).toNat)) else (none)) else (none)) = some r := by (rw [hji16] at H; exact H)
      by_cases c17 : 0 ≤ (ji16)
      · rw [if_pos c17] at H
        have c17b0 := eq_true c17
        have c17b1 : decide (0 ≤ (ji16)) = true := decide_eq_true c17
        clear c17
        by_cases c18 : (ji16) ≤ (t658.size : Int)
        · rw [if_pos c18] at H
          have c18b0 := eq_true c18
          have c18b1 : decide ((ji16) ≤ (t658.size : Int)) = true := decide_eq_true c18
          clear c18
          obtain rfl := Option.some.inj H
          go_wp2
          go_ret
          exact ⟨by rfl, by repeat ((with_reducible exact HB.out))⟩
        · rw [if_neg c18] at H
          exact absurd H (by simp)
      · rw [if_neg c17] at H
        exact absurd H (by simp)
  · rw [if_neg c14] at H
    have c14b0 : (t646 == 0) = false := beq_eq_false_iff_ne.mpr c14
    have c14b1 : (t646 != 0) = true := bne_iff_ne.mpr c14
    (rw [c14b0])
    by_cases c19 : t646 = 1
    · rw [if_pos c19] at H
      have c19b0 : (t646 == 1) = true := beq_iff_eq.mpr c19
      have c19b1 : (t646 != 1) = false := bne_eq_false_iff_eq.mpr c19
      clear c19
      by_cases c20 : (wrap64 ((t658.size : Int) + 1)) = 0
      · rw [if_pos c20] at H
        exact absurd H (by simp)
      · rw [if_neg c20] at H
        have c20b0 : ((wrap64 ((t658.size : Int) + 1)) == 0) = false := beq_eq_false_iff_ne.mpr c20
        have c20b1 : ((wrap64 ((t658.size : Int) + 1)) != 0) = true := bne_iff_ne.mpr c20
        obtain ⟨ji21, hji21⟩ : ∃ j_ : Int, (Int.tmod t649 (wrap64 ((t658.size : Int) + 1))) = j_ := ⟨_, rfl⟩
        replace H : (if 0 ≤ (ji21) then (if (ji21) ≤ (t658.size : Int) then (some (t658.extract 0 ((ji21) : Int).toNat)) else (none)) else (none)) = some r := by (rw [hji21] at H; exact H)
        by_cases c22 : 0 ≤ (ji21)
        · rw [if_pos c22] at H
          have c22b0 := eq_true c22
          have c22b1 : decide (0 ≤ (ji21)) = true := decide_eq_true c22
          clear c22
          by_cases c23 : (ji21) ≤ (t658.size : Int)
          · rw [if_pos c23] at H
            have c23b0 := eq_true c23
            have c23b1 : decide ((ji21) ≤ (t658.size : Int)) = true := decide_eq_true c23
            clear c23
            obtain rfl := Option.some.inj H
            go_wp2
            go_ret
            exact ⟨by rfl, by repeat ((with_reducible exact HB.out))⟩
          · rw [if_neg c23] at H
            exact absurd H (by simp)
        · rw [if_neg c22] at H
          exact absurd H (by simp)
    · rw [if_neg c19] at H
      have c19b0 : (t646 == 1) = false := beq_eq_false_iff_ne.mpr c19
      have c19b1 : (t646 != 1) = true := bne_iff_ne.mpr c19
      by_cases c24 : t646 = 2
      · rw [if_pos c24] at H
        have c24b0 : (t646 == 2) = true := beq_iff_eq.mpr c24
        have c24b1 : (t646 != 2) = false := bne_eq_false_iff_eq.mpr c24
        clear c24
        replace H := Option.bind_eq_some_iff.mp H
        obtain ⟨⟨t660, t661, t662⟩, A250, H⟩ := H
        replace H : (some t660) = some r := H
        have A25 := Aside0.mk A250
        clear A250
        obtain rfl := Option.some.inj H
        go_wp2_with (((with_reducible refine gate_callee (f := 76) rfl ?_); refine goesL_ (some 43) rfl rfl Tryd.func76 (by kernel_rfl) rfl #[.pointer (some ⟨g645, 0, none⟩), .string t658] rfl (by (try simp only [List.map_toArray, List.map_cons, List.map_nil]); rfl) ?_; (with_reducible refine (spec_l02Spoilt.calls k g645 t642 t656 t657 t658 t660 t661 t662 w _ ?side1 ?side2 A25.out).mono ?_); (case side1 => repeat ((with_reducible exact HI645.out))); (case side2 => repeat ((with_reducible exact HB.out))); rintro e w26 ⟨rfl, hi, hb, hk⟩; refine ⟨_, rfl, ?_⟩; have n0_ := Aside0.mk (Kd.R_mono (Kd.R_keep (IsS91.apart (show IsS91 w _ g645 t642 t656 t657 from by repeat ((with_reducible exact HI645.out))) (by (with_reducible repeat (first | apply Kd.R_alloc | apply Kd.R_drewN | apply Kd.R_drew )); exact HO655.out) (by decide)) hk (fun _ h => h.2)) (fun _ h => h.1)); have n1_ := Aside0.mk (hb); have n2_ := Aside0.mk (hi); clear HO655; clear HB; clear HI645; have HO655 := n0_; have HB := n1_; have HI645 := n2_; clear n0_ n1_ n2_; (try clear hb); (try clear hb2); (try clear hk); (try clear hi)))
        go_ret
        exact ⟨by rfl, by repeat ((with_reducible exact HB.out))⟩
      · rw [if_neg c24] at H
        have c24b0 : (t646 == 2) = false := beq_eq_false_iff_ne.mpr c24
        have c24b1 : (t646 != 2) = true := bne_iff_ne.mpr c24
        by_cases c27 : t646 = 3
        · rw [if_pos c27] at H
          have c27b0 : (t646 == 3) = true := beq_iff_eq.mpr c27
          have c27b1 : (t646 != 3) = false := bne_eq_false_iff_eq.mpr c27
          clear c27
          by_cases c28 : t658.size + 4 ≤ 9223372036854775807
          · rw [if_pos c28] at H
            have c28b0 := eq_true c28
            have c28b1 : decide (t658.size + 4 ≤ 9223372036854775807) = true := decide_eq_true c28
            have c28b2 : (9223372036854775807 < t658.size + 4) = False := eq_false (Nat.not_lt.2 c28)
            obtain rfl := Option.some.inj H
            go_wp2
            go_ret
            exact ⟨by rfl, by repeat ((with_reducible exact HB.out))⟩
          · rw [if_neg c28] at H
            exact absurd H (by simp)
        · rw [if_neg c27] at H
          have c27b0 : (t646 == 3) = false := beq_eq_false_iff_ne.mpr c27
          have c27b1 : (t646 != 3) = true := bne_iff_ne.mpr c27
          by_cases c29 : t646 = 4
          · rw [if_pos c29] at H
            have c29b0 : (t646 == 4) = true := beq_iff_eq.mpr c29
            have c29b1 : (t646 != 4) = false := bne_eq_false_iff_eq.mpr c29
            clear c29
            obtain rfl := Option.some.inj H
            go_wp2
            go_ret
            exact ⟨by rfl, by repeat ((with_reducible exact HB.out))⟩
          · rw [if_neg c29] at H
            have c29b0 : (t646 == 4) = false := beq_eq_false_iff_ne.mpr c29
            have c29b1 : (t646 != 4) = true := bne_iff_ne.mpr c29
            by_cases c30 : t646 = 5
            · rw [if_pos c30] at H
              have c30b0 : (t646 == 5) = true := beq_iff_eq.mpr c30
              have c30b1 : (t646 != 5) = false := bne_eq_false_iff_eq.mpr c30
              clear c30
              replace H := Option.bind_eq_some_iff.mp H
              obtain ⟨t663, A310, H⟩ := H
              replace H : (if 3 + t663.size ≤ 9223372036854775807 then (some ((⟨#[97, 13, 10]⟩ : ByteArray) ++ t663)) else (none)) = some r := H
              have A31 := Aside0.mk A310
              clear A310
              by_cases c32 : 3 + t663.size ≤ 9223372036854775807
              · rw [if_pos c32] at H
                have c32b0 := eq_true c32
                have c32b1 : decide (3 + t663.size ≤ 9223372036854775807) = true := decide_eq_true c32
                have c32b2 : (9223372036854775807 < 3 + t663.size) = False := eq_false (Nat.not_lt.2 c32)
                obtain rfl := Option.some.inj H
                go_wp2_with (((with_reducible refine gate_callee (f := 77) rfl ?_); refine goesL_ (some 54) rfl rfl Tryd.func77 (by kernel_rfl) rfl #[.int .i64 (wrap64 (t649 + 140)), .int .u8 97] rfl (by (try simp only [List.map_toArray, List.map_cons, List.map_nil]); rfl) ?_; (with_reducible refine (spec_l01Long.calls k (wrap64 (t649 + 140)) 97 t663 _ A31.out).mono ?_); rintro e w33 ⟨rfl, hb⟩; refine ⟨_, rfl, ?_⟩; have n0_ := Aside0.mk (Kd.R_below (by (with_reducible repeat (first | apply Kd.R_alloc | apply Kd.R_drewN | apply Kd.R_drew )); exact HO655.out) hb); have n1_ := Aside0.mk (IsS91.below (by repeat ((with_reducible exact HI645.out))) hb); have n2_ := Aside0.mk (below_step (by repeat ((with_reducible exact HB.out))) hb); clear HO655; clear HI645; clear HB; have HO655 := n0_; have HI645 := n1_; have HB := n2_; clear n0_ n1_ n2_; (try clear hb); (try clear hb2); (try clear hk); (try clear hi)))
                go_ret
                exact ⟨by rfl, by repeat ((with_reducible exact HB.out))⟩
              · rw [if_neg c32] at H
                exact absurd H (by simp)
            · rw [if_neg c30] at H
              have c30b0 : (t646 == 5) = false := beq_eq_false_iff_ne.mpr c30
              have c30b1 : (t646 != 5) = true := bne_iff_ne.mpr c30
              obtain rfl := Option.some.inj H
              go_wp2
              go_ret
              exact ⟨by rfl, by repeat ((with_reducible exact HB.out))⟩
def spec_DrawHeadText.f (k : Nat) (l0 : List Int) : Option (ByteArray × (List (S40))) := (spec_l01New.f k l0).bind fun bt665 => ((spec_l09Any.f k bt665.1 bt665.2.1 bt665.2.2).bind fun bt669 => (some (bt669.1, bt669.2.1)))
set_option maxHeartbeats 8000000 in
set_option maxRecDepth 100000 in
theorem spec_DrawHeadText.calls (k : Nat) (A0 : Option Addr) (c0 : Nat) (l0 : List Int) (r1 : ByteArray) (r2 : List (S40)) (w : World) (hr0 : Kd.C (Kd.int .u8) w A0 l0.length l0) (hc0 : l0.length ≤ c0) (h : spec_DrawHeadText.f k l0 = some (r1, r2)) :
    Calls Tryd.prog 41 #[.slice A0 l0.length c0] w fun e w' => ∃ v1_ : Value, e = .returned (.agg #[.string r1, v1_]) ∧ Kd.R k40 40 w' w.heap.size (fun _ => True) v1_ r2 ∧ Below w.heap.size w w' := by
  have hu26 := Tryd.underlying26
  have HR0 := Aside0.mk hr0
  have HC0 := Aside0.mk hc0
  clear hr0 hc0
  have HB := Aside0.mk (Below.refl w.heap.size w)
  have H : ((spec_l01New.f k l0).bind fun bt665 => ((spec_l09Any.f k bt665.1 bt665.2.1 bt665.2.2).bind fun bt669 => (some (bt669.1, bt669.2.1)))) = some (r1, r2) := h
  clear h
  replace H := Option.bind_eq_some_iff.mp H
  obtain ⟨⟨t665, t666, t667⟩, A20, H⟩ := H
  replace H : ((spec_l09Any.f k t665 t666 t667).bind fun bt669 => (some (bt669.1, bt669.2.1))) = some (r1, r2) := H
  have A2 := Aside0.mk A20
  clear A20
  replace H := Option.bind_eq_some_iff.mp H
  obtain ⟨⟨t669, t670, t673, t674⟩, A30, H⟩ := H
  replace H : (some (t669, t670)) = some (r1, r2) := H
  have A3 := Aside0.mk A30
  clear A30
  simp only [Option.some.injEq, Prod.mk.injEq] at H
  obtain ⟨rfl, rfl⟩ := H
  go_enter Tryd.func41, Tryd.ntmps41
  go_wp2_with (first | ((with_reducible refine gate_dst (N := 2) rfl ?_); refine box_event ?hg (N := 2) ?hd (cs := #[.string (⟨#[]⟩ : ByteArray), .slice none 0 0]) (t := 26) ?hr ?_; (case hd => rfl); (case hg => rfl); (case hr => (go_simp; done)); intro gb664 hg w4 hbox hb; have n0_ := Aside0.mk (below_step (by repeat ((with_reducible exact HB.out))) hb); have n1_ := Aside0.mk (hbox); have n2_ := Aside0.mk ((by rw [hg]; exact (below_size (by repeat ((with_reducible exact HB.out)))) : w.heap.size ≤ gb664)); have n3_ := Aside0.mk ((by rw [hg]; exact (below_size (by repeat ((with_reducible exact HB.out)))) : w.heap.size ≤ gb664)); clear HB; have HB := n0_; have BK664 := n1_; have GW664 := n2_; have GE664 := n3_; clear n0_ n1_ n2_ n3_; clear hb hbox hg) | ((with_reducible refine gate_callee (f := 48) rfl ?_); refine goesL_ (some 4) rfl rfl Tryd.func48 (by kernel_rfl) rfl #[.slice A0 l0.length c0] rfl (by (try simp only [List.map_toArray, List.map_cons, List.map_nil]); rfl) ?_; (with_reducible refine (spec_l01New.calls k _ _ l0 t665 t666 t667 w _ ?side1 ?side2 ?side3 A2.out).mono ?_); (case side1 => repeat ((with_reducible exact HB.out))); (case side2 => exact HR0.out); (case side3 => exact HC0.out); rintro e w5 ⟨g668, rfl, hi, hb, hb2⟩; refine ⟨_, rfl, ?_⟩; have n0_ := Aside0.mk (blk_below (g := gb664) (o := .cells #[.string (⟨#[]⟩ : ByteArray), .slice none 0 0] 26 (0, 0)) (by (with_reducible repeat (first | refine blk_drewN ?_ _ | refine blk_drew ?_ | refine blk_alloc ?_ _ )); exact BK664.out) hb2); have n1_ := Aside0.mk (hb); have n2_ := Aside0.mk (hi); have n3_ := Aside0.mk (IsS91.ne_blk hi (blk_below (g := gb664) (o := .cells #[.string (⟨#[]⟩ : ByteArray), .slice none 0 0] 26 (0, 0)) (by (with_reducible repeat (first | refine blk_drewN ?_ _ | refine blk_drew ?_ | refine blk_alloc ?_ _ )); exact BK664.out) hb2) (by decide)); have n4_ := Aside0.mk (Ne.symm (IsS91.ne_blk hi (blk_below (g := gb664) (o := .cells #[.string (⟨#[]⟩ : ByteArray), .slice none 0 0] 26 (0, 0)) (by (with_reducible repeat (first | refine blk_drewN ?_ _ | refine blk_drew ?_ | refine blk_alloc ?_ _ )); exact BK664.out) hb2) (by decide))); clear BK664; clear HB; have BK664 := n0_; have HB := n1_; have HI668 := n2_; have NB668_664 := n3_; have NB664_668 := n4_; clear n0_ n1_ n2_ n3_ n4_; (try clear hb); (try clear hb2); (try clear hk); (try clear hi)) | ((with_reducible refine gate_callee (f := 69) rfl ?_); refine goesL_ (some 5) rfl rfl Tryd.func69 (by kernel_rfl) rfl #[.pointer (some ⟨g668, 0, none⟩)] rfl (by (try simp only [List.map_toArray, List.map_cons, List.map_nil]); rfl) ?_; (with_reducible refine (spec_l09Any.calls k g668 t665 t666 t667 t669 t670 t673 t674 w _ ?side1 ?side2 A3.out).mono ?_); (case side1 => repeat ((with_reducible exact HI668.out))); (case side2 => repeat ((with_reducible exact HB.out))); rintro e w6 ⟨v671, rfl, ho0, hi, hb, hk⟩; refine ⟨_, rfl, ?_⟩; have n0_ := Aside0.mk (KeepBut.blk hk (g' := gb664) (o := .cells #[.string (⟨#[]⟩ : ByteArray), .slice none 0 0] 26 (0, 0)) (by (with_reducible repeat (first | refine blk_drewN ?_ _ | refine blk_drew ?_ | refine blk_alloc ?_ _ )); exact BK664.out) NB664_668.out (by simp)); have n1_ := Aside0.mk (Kd.R_lower ho0 (below_size (by repeat ((with_reducible exact HB.out))))); have n2_ := Aside0.mk (hb); have n3_ := Aside0.mk (hi); clear BK664; clear HB; clear HI668; have BK664 := n0_; have HO672 := n1_; have HB := n2_; have HI668 := n3_; clear n0_ n1_ n2_ n3_; (try clear hb); (try clear hb2); (try clear hk); (try clear hi); (try clear ho0); have hnb7 := NB664_668.out; have hnc7 := NB668_664.out; have hcz8_0 : w6.cell? ⟨gb664, 0, none⟩ = some (.string (⟨#[]⟩ : ByteArray)) := (blk_cell BK664.out 0).trans rfl; have hcz8_1 : w6.cell? ⟨gb664, 1, none⟩ = some (.slice none 0 0) := (blk_cell BK664.out 1).trans rfl; have hfz8_0 := blk_frozen BK664.out 0; have hfz8_1 := blk_frozen BK664.out 1; obtain ⟨Ao9, co9, eo9⟩ := Kd.R_slice HO672.out; subst eo9))
  refine bodyPost_ret (results_cell_row rfl _ _ gb664 26 #[.string t669, .slice Ao9 t670.length co9] (0, 0) _ rfl (by (with_reducible repeat (first | refine blk_drewN ?_ _ | refine blk_drew ?_ | refine blk_alloc ?_ _ )); refine blk_put (cs := #[.string t669, .slice none 0 0]) ?_ 1 _ rfl; (with_reducible repeat (first | refine blk_drewN ?_ _ | refine blk_drew ?_ | refine blk_alloc ?_ _ )); refine blk_put (cs := #[.string (⟨#[]⟩ : ByteArray), .slice none 0 0]) ?_ 0 _ rfl; (with_reducible repeat (first | refine blk_drewN ?_ _ | refine blk_drew ?_ | refine blk_alloc ?_ _ )); exact BK664.out) Tryd.underlying26 rfl (by kernel_rfl)) rfl ?_
  exact ⟨_, by rfl, by (with_reducible repeat (first | apply Kd.R_alloc | apply Kd.R_drewN | apply Kd.R_drew )); exact Kd.R_mono (Kd.R_far (p := ⟨gb664, 1, none⟩) (Kd.R_far (p := ⟨gb664, 0, none⟩) (Kd.R_types HO672.out BK664.out (by decide)) (fun _ hk => hk.2) (.string t669)) (fun _ hk => hk.2) (.slice Ao9 t670.length co9)) (fun _ hk => trivial), by repeat ((with_reducible first | exact HB.out | refine below_set ?_ GE664.out))⟩
def spec_DrawFieldOk.f (k : Nat) (l0 : List Int) : Option (ByteArray × ByteArray) := (spec_l01New.f k l0).bind fun bt676 => ((spec_l09Any.f k bt676.1 bt676.2.1 bt676.2.2).bind fun bt680 => (if (bt680.2.1.length : Int) = 0 then ((spec_l09FieldOf.f bt676.1 bt680.2.2.1 bt680.2.2.2).bind fun bt687 => (some (bt687.1, bt687.2.1))) else (if 0 < (bt680.2.1.length : Int) then (some ((rd_T40 bt680.2.1 0).f0, (rd_T40 bt680.2.1 0).f1)) else (none))))
set_option maxHeartbeats 8000000 in
set_option maxRecDepth 100000 in
theorem spec_DrawFieldOk.calls (k : Nat) (A0 : Option Addr) (c0 : Nat) (l0 : List Int) (r1 : ByteArray) (r2 : ByteArray) (w : World) (hr0 : Kd.C (Kd.int .u8) w A0 l0.length l0) (hc0 : l0.length ≤ c0) (h : spec_DrawFieldOk.f k l0 = some (r1, r2)) :
    Calls Tryd.prog 42 #[.slice A0 l0.length c0] w fun e w' => e = .returned (.agg #[.string r1, .string r2]) ∧ Below w.heap.size w w' := by
  have hu40 := Tryd.underlying40
  have hu26 := Tryd.underlying26
  have HR0 := Aside0.mk hr0
  have HC0 := Aside0.mk hc0
  clear hr0 hc0
  have HB := Aside0.mk (Below.refl w.heap.size w)
  have H : ((spec_l01New.f k l0).bind fun bt676 => ((spec_l09Any.f k bt676.1 bt676.2.1 bt676.2.2).bind fun bt680 => (if (bt680.2.1.length : Int) = 0 then ((spec_l09FieldOf.f bt676.1 bt680.2.2.1 bt680.2.2.2).bind fun bt687 => (some (bt687.1, bt687.2.1))) else (if 0 < (bt680.2.1.length : Int) then (some ((rd_T40 bt680.2.1 0).f0, (rd_T40 bt680.2.1 0).f1)) else (none))))) = some (r1, r2) := h
  clear h
  replace H := Option.bind_eq_some_iff.mp H
  obtain ⟨⟨t676, t677, t678⟩, A20, H⟩ := H
  replace H : ((spec_l09Any.f k t676 t677 t678).bind fun bt680 => (if (bt680.2.1.length : Int) = 0 then ((spec_l09FieldOf.f t676 bt680.2.2.1 bt680.2.2.2).bind fun bt687 => (some (bt687.1, bt687.2.1))) else (if 0 < (bt680.2.1.length : Int) then (some ((rd_T40 bt680.2.1 0).f0, (rd_T40 bt680.2.1 0).f1)) else (none)))) = some (r1, r2) := H
  have A2 := Aside0.mk A20
  clear A20
  replace H := Option.bind_eq_some_iff.mp H
  obtain ⟨⟨t680, t681, t684, t685⟩, A30, H⟩ := H
  replace H : (if (t681.length : Int) = 0 then ((spec_l09FieldOf.f t676 t684 t685).bind fun bt687 => (some (bt687.1, bt687.2.1))) else (if 0 < (t681.length : Int) then (some ((rd_T40 t681 0).f0, (rd_T40 t681 0).f1)) else (none))) = some (r1, r2) := H
  have A3 := Aside0.mk A30
  clear A30
  have HS4 := Aside0.mk H
  clear H
  go_enter Tryd.func42, Tryd.ntmps42
  go_upto_if 12 with (first | ((with_reducible refine gate_dst (N := 2) rfl ?_); refine box_event ?hg (N := 2) ?hd (cs := #[.string (⟨#[]⟩ : ByteArray), .string (⟨#[]⟩ : ByteArray)]) (t := 40) ?hr ?_; (case hd => rfl); (case hg => rfl); (case hr => (go_simp; done)); intro gb675 hg w5 hbox hb; have n0_ := Aside0.mk (below_step (by repeat ((with_reducible exact HB.out))) hb); have n1_ := Aside0.mk (hbox); have n2_ := Aside0.mk ((by rw [hg]; exact (below_size (by repeat ((with_reducible exact HB.out)))) : w.heap.size ≤ gb675)); have n3_ := Aside0.mk ((by rw [hg]; exact (below_size (by repeat ((with_reducible exact HB.out)))) : w.heap.size ≤ gb675)); clear HB; have HB := n0_; have BK675 := n1_; have GW675 := n2_; have GE675 := n3_; clear n0_ n1_ n2_ n3_; clear hb hbox hg) | ((with_reducible refine gate_callee (f := 48) rfl ?_); refine goesL_ (some 6) rfl rfl Tryd.func48 (by kernel_rfl) rfl #[.slice A0 l0.length c0] rfl (by (try simp only [List.map_toArray, List.map_cons, List.map_nil]); rfl) ?_; (with_reducible refine (spec_l01New.calls k _ _ l0 t676 t677 t678 w _ ?side1 ?side2 ?side3 A2.out).mono ?_); (case side1 => repeat ((with_reducible exact HB.out))); (case side2 => exact HR0.out); (case side3 => exact HC0.out); rintro e w6 ⟨g679, rfl, hi, hb, hb2⟩; refine ⟨_, rfl, ?_⟩; have n0_ := Aside0.mk (blk_below (g := gb675) (o := .cells #[.string (⟨#[]⟩ : ByteArray), .string (⟨#[]⟩ : ByteArray)] 40 (0, 0)) (by (with_reducible repeat (first | refine blk_drewN ?_ _ | refine blk_drew ?_ | refine blk_alloc ?_ _ )); exact BK675.out) hb2); have n1_ := Aside0.mk (hb); have n2_ := Aside0.mk (hi); have n3_ := Aside0.mk (IsS91.ne_blk hi (blk_below (g := gb675) (o := .cells #[.string (⟨#[]⟩ : ByteArray), .string (⟨#[]⟩ : ByteArray)] 40 (0, 0)) (by (with_reducible repeat (first | refine blk_drewN ?_ _ | refine blk_drew ?_ | refine blk_alloc ?_ _ )); exact BK675.out) hb2) (by decide)); have n4_ := Aside0.mk (Ne.symm (IsS91.ne_blk hi (blk_below (g := gb675) (o := .cells #[.string (⟨#[]⟩ : ByteArray), .string (⟨#[]⟩ : ByteArray)] 40 (0, 0)) (by (with_reducible repeat (first | refine blk_drewN ?_ _ | refine blk_drew ?_ | refine blk_alloc ?_ _ )); exact BK675.out) hb2) (by decide))); clear BK675; clear HB; have BK675 := n0_; have HB := n1_; have HI679 := n2_; have NB679_675 := n3_; have NB675_679 := n4_; clear n0_ n1_ n2_ n3_ n4_; (try clear hb); (try clear hb2); (try clear hk); (try clear hi)) | ((with_reducible refine gate_callee (f := 69) rfl ?_); refine goesL_ (some 8) rfl rfl Tryd.func69 (by kernel_rfl) rfl #[.pointer (some ⟨g679, 0, none⟩)] rfl (by (try simp only [List.map_toArray, List.map_cons, List.map_nil]); rfl) ?_; (with_reducible refine (spec_l09Any.calls k g679 t676 t677 t678 t680 t681 t684 t685 w _ ?side1 ?side2 A3.out).mono ?_); (case side1 => repeat ((with_reducible exact HI679.out))); (case side2 => repeat ((with_reducible exact HB.out))); rintro e w7 ⟨v682, rfl, ho0, hi, hb, hk⟩; refine ⟨_, rfl, ?_⟩; have n0_ := Aside0.mk (KeepBut.blk hk (g' := gb675) (o := .cells #[.string (⟨#[]⟩ : ByteArray), .string (⟨#[]⟩ : ByteArray)] 40 (0, 0)) (by (with_reducible repeat (first | refine blk_drewN ?_ _ | refine blk_drew ?_ | refine blk_alloc ?_ _ )); exact BK675.out) NB675_679.out (by simp)); have n1_ := Aside0.mk (Kd.R_lower (Kd.R_newB ho0 (g := gb675) (o := .cells #[.string (⟨#[]⟩ : ByteArray), .string (⟨#[]⟩ : ByteArray)] 40 (0, 0)) (by (with_reducible repeat (first | refine blk_drewN ?_ _ | refine blk_drew ?_ | refine blk_alloc ?_ _ )); exact BK675.out)) (below_size (by repeat ((with_reducible exact HB.out))))); have n2_ := Aside0.mk (hb); have n3_ := Aside0.mk (hi); clear BK675; clear HB; clear HI679; have BK675 := n0_; have HO683 := n1_; have HB := n2_; have HI679 := n3_; clear n0_ n1_ n2_ n3_; (try clear hb); (try clear hb2); (try clear hk); (try clear hi); (try clear ho0)) | ((with_reducible refine gate_dst (N := 4) rfl ?_); refine box_event ?hg (N := 4) ?hd (cs := #[.string (⟨#[]⟩ : ByteArray), .slice none 0 0]) (t := 26) ?hr ?_; (case hd => rfl); (case hg => rfl); (case hr => (go_simp; done)); intro gb686 hg w8 hbox hb; have n0_ := Aside0.mk (Kd.R_below (by (with_reducible repeat (first | apply Kd.R_alloc | apply Kd.R_drewN | apply Kd.R_drew )); exact HO683.out) hb); have n1_ := Aside0.mk (blk_below (g := gb675) (o := .cells #[.string (⟨#[]⟩ : ByteArray), .string (⟨#[]⟩ : ByteArray)] 40 (0, 0)) (by (with_reducible repeat (first | refine blk_drewN ?_ _ | refine blk_drew ?_ | refine blk_alloc ?_ _ )); exact BK675.out) hb); have n2_ := Aside0.mk (IsS91.below (by repeat ((with_reducible exact HI679.out))) hb); have n3_ := Aside0.mk (below_step (by repeat ((with_reducible exact HB.out))) hb); have n4_ := Aside0.mk (hbox); have n5_ := Aside0.mk ((by rw [hg]; exact (below_size (by repeat ((with_reducible exact HB.out)))) : w.heap.size ≤ gb686)); have n6_ := Aside0.mk ((by rw [hg]; exact (below_size (by repeat ((with_reducible exact HB.out)))) : w.heap.size ≤ gb686)); have n7_ := Aside0.mk ((by rw [hg]; exact Nat.ne_of_lt (blk_lt (g := gb675) (o := .cells #[.string (⟨#[]⟩ : ByteArray), .string (⟨#[]⟩ : ByteArray)] 40 (0, 0)) (by (with_reducible repeat (first | refine blk_drewN ?_ _ | refine blk_drew ?_ | refine blk_alloc ?_ _ )); exact BK675.out)) : gb675 ≠ gb686)); have n8_ := Aside0.mk ((by rw [hg]; exact Nat.ne_of_gt (blk_lt (g := gb675) (o := .cells #[.string (⟨#[]⟩ : ByteArray), .string (⟨#[]⟩ : ByteArray)] 40 (0, 0)) (by (with_reducible repeat (first | refine blk_drewN ?_ _ | refine blk_drew ?_ | refine blk_alloc ?_ _ )); exact BK675.out)) : gb686 ≠ gb675)); have n9_ := Aside0.mk ((by rw [hg]; exact Nat.ne_of_lt (IsS91.lt (show IsS91 w _ g679 t676 t684 t685 from by repeat ((with_reducible exact HI679.out)))) : g679 ≠ gb686)); have n10_ := Aside0.mk ((by rw [hg]; exact Nat.ne_of_gt (IsS91.lt (show IsS91 w _ g679 t676 t684 t685 from by repeat ((with_reducible exact HI679.out)))) : gb686 ≠ g679)); clear HO683; clear BK675; clear HI679; clear HB; have HO683 := n0_; have BK675 := n1_; have HI679 := n2_; have HB := n3_; have BK686 := n4_; have GW686 := n5_; have GE686 := n6_; have NB675_686 := n7_; have NB686_675 := n8_; have NB679_686 := n9_; have NB686_679 := n10_; clear n0_ n1_ n2_ n3_ n4_ n5_ n6_ n7_ n8_ n9_ n10_; clear hb hbox hg; have hnb9 := NB686_675.out; have hnc9 := NB675_686.out; have hnb10 := NB686_679.out; have hnc10 := NB679_686.out; have hcz11_0 : w8.cell? ⟨gb686, 0, none⟩ = some (.string (⟨#[]⟩ : ByteArray)) := (blk_cell BK686.out 0).trans rfl; have hcz11_1 : w8.cell? ⟨gb686, 1, none⟩ = some (.slice none 0 0) := (blk_cell BK686.out 1).trans rfl; have hfz11_0 := blk_frozen BK686.out 0; have hfz11_1 := blk_frozen BK686.out 1; obtain ⟨Ao12, co12, eo12⟩ := Kd.R_slice HO683.out; subst eo12))
  (try simp only [Act.put, List.setIfInBounds_toArray, List.set_cons_zero, List.set_cons_succ])
  have H := HS4.out
  clear HS4
  by_cases c13 : (t681.length : Int) = 0
  · rw [if_pos c13] at H
    have c13b0 : ((t681.length : Int) == 0) = true := beq_iff_eq.mpr c13
    have c13b1 : ((t681.length : Int) != 0) = false := bne_eq_false_iff_eq.mpr c13
    clear c13
    (rw [c13b0])
    replace H := Option.bind_eq_some_iff.mp H
    obtain ⟨⟨t687, t688, t689, t690⟩, A140, H⟩ := H
    replace H : (some (t687, t688)) = some (r1, r2) := H
    have A14 := Aside0.mk A140
    clear A140
    simp only [Option.some.injEq, Prod.mk.injEq] at H
    obtain ⟨rfl, rfl⟩ := H
    go_wp2_with (((with_reducible refine gate_callee (f := 78) rfl ?_); refine goesL_ (some 14) rfl rfl Tryd.func78 (by kernel_rfl) rfl #[.pointer (some ⟨g679, 0, none⟩)] rfl (by (try simp only [List.map_toArray, List.map_cons, List.map_nil]); rfl) ?_; (with_reducible refine (spec_l09FieldOf.calls g679 t676 t684 t685 t687 t688 t689 t690 w _ ?side1 ?side2 A14.out).mono ?_); (case side1 => repeat ((with_reducible first | exact HI679.out | refine IsS91.far ?_ NB679_686.out _))); (case side2 => repeat ((with_reducible first | exact HB.out | refine below_set ?_ GE686.out))); rintro e w15 ⟨rfl, hi, hb, hk⟩; refine ⟨_, rfl, ?_⟩; have n0_ := Aside0.mk (KeepBut.blk hk (g' := gb675) (o := .cells #[.string (⟨#[]⟩ : ByteArray), .string (⟨#[]⟩ : ByteArray)] 40 (0, 0)) (by (with_reducible repeat (first | refine blk_drewN ?_ _ | refine blk_drew ?_ | refine blk_alloc ?_ _ )); refine blk_far ?_ NB675_686.out _; (with_reducible repeat (first | refine blk_drewN ?_ _ | refine blk_drew ?_ | refine blk_alloc ?_ _ )); refine blk_far ?_ NB675_686.out _; (with_reducible repeat (first | refine blk_drewN ?_ _ | refine blk_drew ?_ | refine blk_alloc ?_ _ )); exact BK675.out) NB675_679.out (by simp)); have n1_ := Aside0.mk (Kd.R_mono (Kd.R_keep (IsS91.apart (show IsS91 w _ g679 t676 t684 t685 from by repeat ((with_reducible first | exact HI679.out | refine IsS91.far ?_ NB679_686.out _))) (by (with_reducible repeat (first | apply Kd.R_alloc | apply Kd.R_drewN | apply Kd.R_drew )); exact (Kd.R_mono (Kd.R_far (p := ⟨gb686, 1, none⟩) (Kd.R_far (p := ⟨gb686, 0, none⟩) (Kd.R_types HO683.out BK686.out (by decide)) (fun _ hk => hk.2) (.string t680)) (fun _ hk => hk.2) (.slice Ao12 t681.length co12)) (fun _ h_ => by exact h_.1))) (by decide)) hk (fun _ h => h.2)) (fun _ h => h.1)); have n2_ := Aside0.mk (KeepBut.blk hk (g' := gb686) (o := .cells #[.string t680, .slice Ao12 t681.length co12] 26 (0, 0)) (by (with_reducible repeat (first | refine blk_drewN ?_ _ | refine blk_drew ?_ | refine blk_alloc ?_ _ )); refine blk_put (cs := #[.string t680, .slice none 0 0]) ?_ 1 _ rfl; (with_reducible repeat (first | refine blk_drewN ?_ _ | refine blk_drew ?_ | refine blk_alloc ?_ _ )); refine blk_put (cs := #[.string (⟨#[]⟩ : ByteArray), .slice none 0 0]) ?_ 0 _ rfl; (with_reducible repeat (first | refine blk_drewN ?_ _ | refine blk_drew ?_ | refine blk_alloc ?_ _ )); exact BK686.out) NB686_679.out (by simp)); have n3_ := Aside0.mk (hb); have n4_ := Aside0.mk (hi); clear BK675; clear HO683; clear BK686; clear HB; clear HI679; have BK675 := n0_; have HO683 := n1_; have BK686 := n2_; have HB := n3_; have HI679 := n4_; clear n0_ n1_ n2_ n3_ n4_; (try clear hb); (try clear hb2); (try clear hk); (try clear hi); have hnb16 := NB675_686.out; have hnc16 := NB686_675.out; have hnb17 := NB675_679.out; have hnc17 := NB679_675.out; have hcz18_0 : w15.cell? ⟨gb675, 0, none⟩ = some (.string (⟨#[]⟩ : ByteArray)) := (blk_cell BK675.out 0).trans rfl; have hcz18_1 : w15.cell? ⟨gb675, 1, none⟩ = some (.string (⟨#[]⟩ : ByteArray)) := (blk_cell BK675.out 1).trans rfl; have hfz18_0 := blk_frozen BK675.out 0; have hfz18_1 := blk_frozen BK675.out 1))
    refine bodyPost_ret (results_cell_row rfl _ _ gb675 40 #[.string t687, .string t688] (0, 0) _ rfl (by (with_reducible repeat (first | refine blk_drewN ?_ _ | refine blk_drew ?_ | refine blk_alloc ?_ _ )); refine blk_put (cs := #[.string t687, .string (⟨#[]⟩ : ByteArray)]) ?_ 1 _ rfl; (with_reducible repeat (first | refine blk_drewN ?_ _ | refine blk_drew ?_ | refine blk_alloc ?_ _ )); refine blk_put (cs := #[.string (⟨#[]⟩ : ByteArray), .string (⟨#[]⟩ : ByteArray)]) ?_ 0 _ rfl; (with_reducible repeat (first | refine blk_drewN ?_ _ | refine blk_drew ?_ | refine blk_alloc ?_ _ )); exact BK675.out) Tryd.underlying40 rfl (by kernel_rfl)) rfl ?_
    exact ⟨by rfl, by repeat ((with_reducible first | exact HB.out | refine below_set ?_ GE675.out))⟩
  · rw [if_neg c13] at H
    have c13b0 : ((t681.length : Int) == 0) = false := beq_eq_false_iff_ne.mpr c13
    have c13b1 : ((t681.length : Int) != 0) = true := bne_iff_ne.mpr c13
    have c13b2 : ¬ (t681 = []) := fun h_ => c13 (by rw [h_]; rfl)
    (rw [c13b0])
    by_cases c19 : 0 < (t681.length : Int)
    · rw [if_pos c19] at H
      have c19b0 : decide (0 < (t681.length : Int)) = true := decide_eq_true c19
      have c19b1 : decide (0 < t681.length) = true := decide_eq_true (by omega)
      clear c19
      simp only [Option.some.injEq, Prod.mk.injEq] at H
      obtain ⟨rfl, rfl⟩ := H
      have hnb20 := NB686_675.out
      have hnc20 := NB675_686.out
      have hnb21 := NB686_679.out
      have hnc21 := NB679_686.out
      have hcz22_0 : w8.cell? ⟨gb686, 0, none⟩ = some (.string (⟨#[]⟩ : ByteArray)) := (blk_cell BK686.out 0).trans rfl
      have hcz22_1 : w8.cell? ⟨gb686, 1, none⟩ = some (.slice none 0 0) := (blk_cell BK686.out 1).trans rfl
      have hfz22_0 := blk_frozen BK686.out 0
      have hfz22_1 := blk_frozen BK686.out 1
      have p691 : 0 ≤ (0 : Int) := (by omega)
      have q691 : 0 < (t681.length : Int) := of_decide_eq_true (by (with_reducible assumption))
      obtain ⟨ad691, e691, hx691_0, hx691_1⟩ := at_T40 (Kd.R_reads' HO683.out).2.2 0 p691 q691
      cases e691
      have qi691 : (0 < t681.length) = True := eq_true (by omega)
      (try rw [show ((0 : Int)).toNat = 0 from rfl] at hx691_0)
      (try rw [show 0 * 2 = 0 from rfl] at hx691_0)
      (try rw [Addr.add_zero'] at hx691_0)
      (try rw [show ((0 : Int)).toNat = 0 from rfl] at hx691_1)
      (try rw [show 0 * 2 = 0 from rfl] at hx691_1)
      (try rw [Addr.add_zero'] at hx691_1)
      have hn691_0 : ad691.block ≠ gb686 := Kd.own_blk (Kd.R_ne HO683.out BK686.out (by decide))
      have hn691_1 : ad691.block ≠ gb686 := Kd.own_blk (Kd.R_ne HO683.out BK686.out (by decide))
      replace hx691_0 := (cell_far (p := ⟨gb686, 0, none⟩) (by exact hn691_0) (.string t680)).trans hx691_0
      replace hx691_1 := (cell_far (p := ⟨gb686, 0, none⟩) (by exact hn691_0) (.string t680)).trans hx691_1
      replace hx691_0 := (cell_far (p := ⟨gb686, 1, none⟩) (by exact hn691_1) (.slice (some ad691) t681.length co12)).trans hx691_0
      replace hx691_1 := (cell_far (p := ⟨gb686, 1, none⟩) (by exact hn691_1) (.slice (some ad691) t681.length co12)).trans hx691_1
      clear hn691_0
      clear hn691_1
      replace p691 := eq_true p691
      replace q691 := eq_true q691
      have hnb23 := NB675_679.out
      have hnc23 := NB679_675.out
      have hcz24_0 : w8.cell? ⟨gb675, 0, none⟩ = some (.string (⟨#[]⟩ : ByteArray)) := (blk_cell BK675.out 0).trans rfl
      have hcz24_1 : w8.cell? ⟨gb675, 1, none⟩ = some (.string (⟨#[]⟩ : ByteArray)) := (blk_cell BK675.out 1).trans rfl
      have hfz24_0 := blk_frozen BK675.out 0
      have hfz24_1 := blk_frozen BK675.out 1
      go_wp2
      refine bodyPost_ret (results_cell_row rfl _ _ gb675 40 #[.string ((rd_T40 t681 0).f0), .string ((rd_T40 t681 0).f1)] (0, 0) _ rfl (by (with_reducible repeat (first | refine blk_drewN ?_ _ | refine blk_drew ?_ | refine blk_alloc ?_ _ )); refine blk_put (cs := #[.string ((rd_T40 t681 0).f0), .string (⟨#[]⟩ : ByteArray)]) ?_ 1 _ rfl; (with_reducible repeat (first | refine blk_drewN ?_ _ | refine blk_drew ?_ | refine blk_alloc ?_ _ )); refine blk_put (cs := #[.string (⟨#[]⟩ : ByteArray), .string (⟨#[]⟩ : ByteArray)]) ?_ 0 _ rfl; (with_reducible repeat (first | refine blk_drewN ?_ _ | refine blk_drew ?_ | refine blk_alloc ?_ _ )); refine blk_far ?_ NB675_686.out _; (with_reducible repeat (first | refine blk_drewN ?_ _ | refine blk_drew ?_ | refine blk_alloc ?_ _ )); refine blk_far ?_ NB675_686.out _; (with_reducible repeat (first | refine blk_drewN ?_ _ | refine blk_drew ?_ | refine blk_alloc ?_ _ )); exact BK675.out) Tryd.underlying40 rfl (by kernel_rfl)) rfl ?_
      exact ⟨by rfl, by repeat ((with_reducible first | exact HB.out | refine below_set ?_ GE675.out | refine below_set ?_ GE686.out))⟩
    · rw [if_neg c19] at H
      exact absurd H (by simp)
def spec_DrawFieldOf.f (k : Nat) (l0 : List Int) : Option (ByteArray × (List (S40)) × ByteArray) := (spec_l01New.f k l0).bind fun bt693 => ((spec_l01Pick.f bt693.1 bt693.2.1 bt693.2.2 (([(⟨#[99, 97, 99, 104, 101, 45, 99, 111, 110, 116, 114, 111, 108]⟩ : ByteArray), (⟨#[104, 111, 115, 116]⟩ : ByteArray), (⟨#[99, 111, 110, 116, 101, 110, 116, 45, 108, 101, 110, 103, 116, 104]⟩ : ByteArray), (⟨#[120]⟩ : ByteArray), (⟨#[110, 111, 110, 101]⟩ : ByteArray)] : List ByteArray))).bind fun bt700 => ((spec_l09Any.f k bt693.1 bt700.2.1 bt700.2.2).bind fun bt703 => (some (bt703.1, bt703.2.1, bt700.1))))
set_option maxHeartbeats 8000000 in
set_option maxRecDepth 100000 in
theorem spec_DrawFieldOf.calls (k : Nat) (A0 : Option Addr) (c0 : Nat) (l0 : List Int) (r1 : ByteArray) (r2 : List (S40)) (r3 : ByteArray) (w : World) (hr0 : Kd.C (Kd.int .u8) w A0 l0.length l0) (hc0 : l0.length ≤ c0) (h : spec_DrawFieldOf.f k l0 = some (r1, r2, r3)) :
    Calls Tryd.prog 43 #[.slice A0 l0.length c0] w fun e w' => ∃ v1_ : Value, e = .returned (.tuple #[.agg #[.string r1, v1_], .string r3]) ∧ Kd.R k40 40 w' w.heap.size (fun _ => True) v1_ r2 ∧ Below w.heap.size w w' := by
  have hu26 := Tryd.underlying26
  have HR0 := Aside0.mk hr0
  have HC0 := Aside0.mk hc0
  clear hr0 hc0
  have HB := Aside0.mk (Below.refl w.heap.size w)
  have H : ((spec_l01New.f k l0).bind fun bt693 => ((spec_l01Pick.f bt693.1 bt693.2.1 bt693.2.2 (([(⟨#[99, 97, 99, 104, 101, 45, 99, 111, 110, 116, 114, 111, 108]⟩ : ByteArray), (⟨#[104, 111, 115, 116]⟩ : ByteArray), (⟨#[99, 111, 110, 116, 101, 110, 116, 45, 108, 101, 110, 103, 116, 104]⟩ : ByteArray), (⟨#[120]⟩ : ByteArray), (⟨#[110, 111, 110, 101]⟩ : ByteArray)] : List ByteArray))).bind fun bt700 => ((spec_l09Any.f k bt693.1 bt700.2.1 bt700.2.2).bind fun bt703 => (some (bt703.1, bt703.2.1, bt700.1))))) = some (r1, r2, r3) := h
  clear h
  replace H := Option.bind_eq_some_iff.mp H
  obtain ⟨⟨t693, t694, t695⟩, A20, H⟩ := H
  replace H : ((spec_l01Pick.f t693 t694 t695 (([(⟨#[99, 97, 99, 104, 101, 45, 99, 111, 110, 116, 114, 111, 108]⟩ : ByteArray), (⟨#[104, 111, 115, 116]⟩ : ByteArray), (⟨#[99, 111, 110, 116, 101, 110, 116, 45, 108, 101, 110, 103, 116, 104]⟩ : ByteArray), (⟨#[120]⟩ : ByteArray), (⟨#[110, 111, 110, 101]⟩ : ByteArray)] : List ByteArray))).bind fun bt700 => ((spec_l09Any.f k t693 bt700.2.1 bt700.2.2).bind fun bt703 => (some (bt703.1, bt703.2.1, bt700.1)))) = some (r1, r2, r3) := H
  have A2 := Aside0.mk A20
  clear A20
  obtain ⟨y697, hy697⟩ : ∃ y_ : List ByteArray, y_ = (([(⟨#[99, 97, 99, 104, 101, 45, 99, 111, 110, 116, 114, 111, 108]⟩ : ByteArray), (⟨#[104, 111, 115, 116]⟩ : ByteArray), (⟨#[99, 111, 110, 116, 101, 110, 116, 45, 108, 101, 110, 103, 116, 104]⟩ : ByteArray), (⟨#[120]⟩ : ByteArray), (⟨#[110, 111, 110, 101]⟩ : ByteArray)] : List ByteArray)) := ⟨_, rfl⟩
  replace H : ((spec_l01Pick.f t693 t694 t695 y697).bind fun bt700 => ((spec_l09Any.f k t693 bt700.2.1 bt700.2.2).bind fun bt703 => (some (bt703.1, bt703.2.1, bt700.1)))) = some (r1, r2, r3) := by (rw [hy697]; with_reducible exact H)
  have Ny697 := Aside0.mk hy697
  clear hy697
  replace H := Option.bind_eq_some_iff.mp H
  obtain ⟨⟨t700, t701, t702⟩, A30, H⟩ := H
  replace H : ((spec_l09Any.f k t693 t701 t702).bind fun bt703 => (some (bt703.1, bt703.2.1, t700))) = some (r1, r2, r3) := H
  have A3 := Aside0.mk A30
  clear A30
  replace H := Option.bind_eq_some_iff.mp H
  obtain ⟨⟨t703, t704, t707, t708⟩, A40, H⟩ := H
  replace H : (some (t703, t704, t700)) = some (r1, r2, r3) := H
  have A4 := Aside0.mk A40
  clear A40
  simp only [Option.some.injEq, Prod.mk.injEq] at H
  obtain ⟨rfl, rfl, rfl⟩ := H
  go_enter Tryd.func43, Tryd.ntmps43
  go_wp2_with (first | ((with_reducible refine gate_dst (N := 2) rfl ?_); refine box_event ?hg (N := 2) ?hd (cs := #[.string (⟨#[]⟩ : ByteArray), .slice none 0 0]) (t := 26) ?hr ?_; (case hd => rfl); (case hg => rfl); (case hr => (go_simp; done)); intro gb692 hg w5 hbox hb; have n0_ := Aside0.mk (below_step (by repeat ((with_reducible exact HB.out))) hb); have n1_ := Aside0.mk (hbox); have n2_ := Aside0.mk ((by rw [hg]; exact (below_size (by repeat ((with_reducible exact HB.out)))) : w.heap.size ≤ gb692)); have n3_ := Aside0.mk ((by rw [hg]; exact (below_size (by repeat ((with_reducible exact HB.out)))) : w.heap.size ≤ gb692)); clear HB; have HB := n0_; have BK692 := n1_; have GW692 := n2_; have GE692 := n3_; clear n0_ n1_ n2_ n3_; clear hb hbox hg) | ((with_reducible refine gate_callee (f := 48) rfl ?_); refine goesL_ (some 7) rfl rfl Tryd.func48 (by kernel_rfl) rfl #[.slice A0 l0.length c0] rfl (by (try simp only [List.map_toArray, List.map_cons, List.map_nil]); rfl) ?_; (with_reducible refine (spec_l01New.calls k _ _ l0 t693 t694 t695 w _ ?side1 ?side2 ?side3 A2.out).mono ?_); (case side1 => repeat ((with_reducible exact HB.out))); (case side2 => exact HR0.out); (case side3 => exact HC0.out); rintro e w6 ⟨g696, rfl, hi, hb, hb2⟩; refine ⟨_, rfl, ?_⟩; have n0_ := Aside0.mk (blk_below (g := gb692) (o := .cells #[.string (⟨#[]⟩ : ByteArray), .slice none 0 0] 26 (0, 0)) (by (with_reducible repeat (first | refine blk_drewN ?_ _ | refine blk_drew ?_ | refine blk_alloc ?_ _ )); exact BK692.out) hb2); have n1_ := Aside0.mk (hb); have n2_ := Aside0.mk (hi); have n3_ := Aside0.mk (IsS91.ne_blk hi (blk_below (g := gb692) (o := .cells #[.string (⟨#[]⟩ : ByteArray), .slice none 0 0] 26 (0, 0)) (by (with_reducible repeat (first | refine blk_drewN ?_ _ | refine blk_drew ?_ | refine blk_alloc ?_ _ )); exact BK692.out) hb2) (by decide)); have n4_ := Aside0.mk (Ne.symm (IsS91.ne_blk hi (blk_below (g := gb692) (o := .cells #[.string (⟨#[]⟩ : ByteArray), .slice none 0 0] 26 (0, 0)) (by (with_reducible repeat (first | refine blk_drewN ?_ _ | refine blk_drew ?_ | refine blk_alloc ?_ _ )); exact BK692.out) hb2) (by decide))); clear BK692; clear HB; have BK692 := n0_; have HB := n1_; have HI696 := n2_; have NB696_692 := n3_; have NB692_696 := n4_; clear n0_ n1_ n2_ n3_ n4_; (try clear hb); (try clear hb2); (try clear hk); (try clear hi)) | ((with_reducible refine gate_dst (N := 9) rfl ?_); refine Kd.R_lit Kd.string _ 9 ?hg (N := 9) ?hd (xs := ([(⟨#[99, 97, 99, 104, 101, 45, 99, 111, 110, 116, 114, 111, 108]⟩ : ByteArray), (⟨#[104, 111, 115, 116]⟩ : ByteArray), (⟨#[99, 111, 110, 116, 101, 110, 116, 45, 108, 101, 110, 103, 116, 104]⟩ : ByteArray), (⟨#[120]⟩ : ByteArray), (⟨#[110, 111, 110, 101]⟩ : ByteArray)] : List ByteArray)) (inner := [.string (⟨#[99, 97, 99, 104, 101, 45, 99, 111, 110, 116, 114, 111, 108]⟩ : ByteArray), .string (⟨#[104, 111, 115, 116]⟩ : ByteArray), .string (⟨#[99, 111, 110, 116, 101, 110, 116, 45, 108, 101, 110, 103, 116, 104]⟩ : ByteArray), .string (⟨#[120]⟩ : ByteArray), .string (⟨#[110, 111, 110, 101]⟩ : ByteArray)]) (ok := fun _ => True) (okp := fun _ => True) ?hr ?hp (fun _ hk => hk) trivial (Below.refl _ _) (Nat.le_refl _) (by simp) ?_; (case hd => rfl); (case hg => rfl); (case hr => (go_simp; done)); (case hp => exact (Reps.one (show Kd.M Kd.string _ _ _ (⟨#[99, 97, 99, 104, 101, 45, 99, 111, 110, 116, 114, 111, 108]⟩ : ByteArray) [.string (⟨#[99, 97, 99, 104, 101, 45, 99, 111, 110, 116, 114, 111, 108]⟩ : ByteArray)] from rfl) (Reps.one (show Kd.M Kd.string _ _ _ (⟨#[104, 111, 115, 116]⟩ : ByteArray) [.string (⟨#[104, 111, 115, 116]⟩ : ByteArray)] from rfl) (Reps.one (show Kd.M Kd.string _ _ _ (⟨#[99, 111, 110, 116, 101, 110, 116, 45, 108, 101, 110, 103, 116, 104]⟩ : ByteArray) [.string (⟨#[99, 111, 110, 116, 101, 110, 116, 45, 108, 101, 110, 103, 116, 104]⟩ : ByteArray)] from rfl) (Reps.one (show Kd.M Kd.string _ _ _ (⟨#[120]⟩ : ByteArray) [.string (⟨#[120]⟩ : ByteArray)] from rfl) (Reps.one (show Kd.M Kd.string _ _ _ (⟨#[110, 111, 110, 101]⟩ : ByteArray) [.string (⟨#[110, 111, 110, 101]⟩ : ByteArray)] from rfl) (Reps.none _ _))))))); intro v698 w7 ho8 hb hg_ hnew_; clear hg_ hnew_; (rw [← Ny697.out] at ho8); have n0_ := Aside0.mk (Kd.R_lower ho8 (below_size (by repeat ((with_reducible exact HB.out))))); have n1_ := Aside0.mk (blk_below (g := gb692) (o := .cells #[.string (⟨#[]⟩ : ByteArray), .slice none 0 0] 26 (0, 0)) (by (with_reducible repeat (first | refine blk_drewN ?_ _ | refine blk_drew ?_ | refine blk_alloc ?_ _ )); exact BK692.out) hb); have n2_ := Aside0.mk (IsS91.below (by repeat ((with_reducible exact HI696.out))) hb); have n3_ := Aside0.mk (below_step (by repeat ((with_reducible exact HB.out))) hb); clear BK692; clear HI696; clear HB; have HO699 := n0_; have BK692 := n1_; have HI696 := n2_; have HB := n3_; clear n0_ n1_ n2_ n3_; clear hb ho8; obtain ⟨Ao9, co9, eo9⟩ := Kd.R_slice HO699.out; subst eo9) | ((with_reducible refine gate_callee (f := 79) rfl ?_); refine goesL_ (some 10) rfl rfl Tryd.func79 (by kernel_rfl) rfl #[.pointer (some ⟨g696, 0, none⟩), .slice Ao9 y697.length co9] rfl (by (try simp only [List.map_toArray, List.map_cons, List.map_nil]); rfl) ?_; (with_reducible refine (spec_l01Pick.calls g696 t693 t694 t695 _ _ y697 t700 t701 t702 w _ ?side1 ?side2 ?side3 ?side4 ?side5 A3.out).mono ?_); (case side1 => repeat ((with_reducible exact HI696.out))); (case side2 => repeat ((with_reducible exact HB.out))); (case side3 => repeat (exact (Kd.R_reads' HO699.out).2.2)); (case side4 => exact (Kd.R_reads' HO699.out).2.1); (case side5 => exact far_slice (IsS91.own_ne HI696.out HO699.out (by decide))); rintro e w10 ⟨rfl, hi, hb, hk⟩; refine ⟨_, rfl, ?_⟩; have n0_ := Aside0.mk (KeepBut.blk hk (g' := gb692) (o := .cells #[.string (⟨#[]⟩ : ByteArray), .slice none 0 0] 26 (0, 0)) (by (with_reducible repeat (first | refine blk_drewN ?_ _ | refine blk_drew ?_ | refine blk_alloc ?_ _ )); exact BK692.out) NB692_696.out (by simp)); have n1_ := Aside0.mk (Kd.R_mono (Kd.R_keep (IsS91.apart (show IsS91 w _ g696 t693 t694 t695 from by repeat ((with_reducible exact HI696.out))) (by (with_reducible repeat (first | apply Kd.R_alloc | apply Kd.R_drewN | apply Kd.R_drew )); exact HO699.out) (by decide)) hk (fun _ h => h.2)) (fun _ h => h.1)); have n2_ := Aside0.mk (hb); have n3_ := Aside0.mk (hi); clear BK692; clear HO699; clear HB; clear HI696; have BK692 := n0_; have HO699 := n1_; have HB := n2_; have HI696 := n3_; clear n0_ n1_ n2_ n3_; (try clear hb); (try clear hb2); (try clear hk); (try clear hi)) | ((with_reducible refine gate_callee (f := 69) rfl ?_); refine goesL_ (some 12) rfl rfl Tryd.func69 (by kernel_rfl) rfl #[.pointer (some ⟨g696, 0, none⟩)] rfl (by (try simp only [List.map_toArray, List.map_cons, List.map_nil]); rfl) ?_; (with_reducible refine (spec_l09Any.calls k g696 t693 t701 t702 t703 t704 t707 t708 w _ ?side1 ?side2 A4.out).mono ?_); (case side1 => repeat ((with_reducible exact HI696.out))); (case side2 => repeat ((with_reducible exact HB.out))); rintro e w11 ⟨v705, rfl, ho0, hi, hb, hk⟩; refine ⟨_, rfl, ?_⟩; have n0_ := Aside0.mk (KeepBut.blk hk (g' := gb692) (o := .cells #[.string (⟨#[]⟩ : ByteArray), .slice none 0 0] 26 (0, 0)) (by (with_reducible repeat (first | refine blk_drewN ?_ _ | refine blk_drew ?_ | refine blk_alloc ?_ _ )); exact BK692.out) NB692_696.out (by simp)); have n1_ := Aside0.mk (Kd.R_mono (Kd.R_keep (IsS91.apart (show IsS91 w _ g696 t693 t701 t702 from by repeat ((with_reducible exact HI696.out))) (by (with_reducible repeat (first | apply Kd.R_alloc | apply Kd.R_drewN | apply Kd.R_drew )); exact HO699.out) (by decide)) hk (fun _ h => h.2)) (fun _ h => h.1)); have n2_ := Aside0.mk (Kd.R_lower ho0 (below_size (by repeat ((with_reducible exact HB.out))))); have n3_ := Aside0.mk (hb); have n4_ := Aside0.mk (hi); clear BK692; clear HO699; clear HB; clear HI696; have BK692 := n0_; have HO699 := n1_; have HO706 := n2_; have HB := n3_; have HI696 := n4_; clear n0_ n1_ n2_ n3_ n4_; (try clear hb); (try clear hb2); (try clear hk); (try clear hi); (try clear ho0); have hnb12 := NB692_696.out; have hnc12 := NB696_692.out; have hcz13_0 : w11.cell? ⟨gb692, 0, none⟩ = some (.string (⟨#[]⟩ : ByteArray)) := (blk_cell BK692.out 0).trans rfl; have hcz13_1 : w11.cell? ⟨gb692, 1, none⟩ = some (.slice none 0 0) := (blk_cell BK692.out 1).trans rfl; have hfz13_0 := blk_frozen BK692.out 0; have hfz13_1 := blk_frozen BK692.out 1; obtain ⟨Ao14, co14, eo14⟩ := Kd.R_slice HO706.out; subst eo14))
  refine bodyPost_ret (results_ct rfl _ _ gb692 26 #[.string t703, .slice Ao14 t704.length co14] (0, 0) _ rfl (by (with_reducible repeat (first | refine blk_drewN ?_ _ | refine blk_drew ?_ | refine blk_alloc ?_ _ )); refine blk_put (cs := #[.string t703, .slice none 0 0]) ?_ 1 _ rfl; (with_reducible repeat (first | refine blk_drewN ?_ _ | refine blk_drew ?_ | refine blk_alloc ?_ _ )); refine blk_put (cs := #[.string (⟨#[]⟩ : ByteArray), .slice none 0 0]) ?_ 0 _ rfl; (with_reducible repeat (first | refine blk_drewN ?_ _ | refine blk_drew ?_ | refine blk_alloc ?_ _ )); exact BK692.out) Tryd.underlying26 rfl (by kernel_rfl)) rfl ?_
  exact ⟨_, by rfl, by (with_reducible repeat (first | apply Kd.R_alloc | apply Kd.R_drewN | apply Kd.R_drew )); exact Kd.R_mono (Kd.R_far (p := ⟨gb692, 1, none⟩) (Kd.R_far (p := ⟨gb692, 0, none⟩) (Kd.R_types HO706.out BK692.out (by decide)) (fun _ hk => hk.2) (.string t703)) (fun _ hk => hk.2) (.slice Ao14 t704.length co14)) (fun _ hk => trivial), by repeat ((with_reducible first | exact HB.out | refine below_set ?_ GE692.out))⟩
end Go.Proofs.YtiibecpllokhiaaDoor.Q
