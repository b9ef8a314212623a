import Derived.Test.YtdbhpcekjcohdaaLoB0
import Derived.Test.YtdbhpcekjcohdaaLoG13
import Derived.Test.YtdbhpcekjcohdaaLoG22
import Derived.Test.YtdbhpcekjcohdaaLoG24
import Derived.Test.YtdbhpcekjcohdaaLoG26
import Derived.Test.YtdbhpcekjcohdaaLoG31
import Derived.Test.YtdbhpcekjcohdaaLoG33
import Derived.Test.YtdbhpcekjcohdaaLoWApart
import Derived.Test.YtdbhpcekjcohdaaLoWFoot
import Derived.Test.YtdbhpcekjcohdaaLoWKept
import Derived.Test.YtdbhpcekjcohdaaLoWLast
import Derived.Test.YtdbhpcekjcohdaaLoWMore
import Derived.Test.YtdbhpcekjcohdaaLoWN
import Derived.Test.YtdbhpcekjcohdaaLoWRepsOne
import Derived.Test.YtdbhpcekjcohdaaLoWShare
import Derived.Test.YtdbhpcekjcohdaaLoWTab
import Derived.Test.YtdbhpcekjcohdaaLoWWords
namespace Go.Proofs.Ytdbhpcekjcohdaa.Q
open Go.RowKit Go.Proofs.YtdbhpcekjcohdaaW.PrintWords Go.Proofs.YtdbhpcekjcohdaaW.PrintLast Go.Proofs.YtdbhpcekjcohdaaW.PrintMore
attribute [local go_sem] max2_int min2_int max_two min_two max_three min_three max_four min_four   -- for this text's walks alone
set_option linter.unusedVariables false
set_option linter.unusedSimpArgs false
def laws_big.f (l0 : List Int) : Option (Bool) := some (decide ((l0.length : Int) > 1048576))
set_option maxHeartbeats 8000000 in
set_option maxRecDepth 100000 in
theorem laws_big.calls (A0 : Option Addr) (c0 : Nat) (l0 : List Int) (r : Bool) (w : World) (hr0 : Kd.C (Kd.int .u8) w A0 l0.length l0) (hc0 : l0.length ≤ c0) (h : laws_big.f l0 = some r) :
    Calls Try.prog 35 #[.slice A0 l0.length c0] w fun e w' => e = .returned (.bool r) ∧ w = w' := by
  have HR0 := Aside0.mk hr0
  have HC0 := Aside0.mk hc0
  clear hr0 hc0
  have H : (some (decide ((l0.length : Int) > 1048576))) = some r := h
  clear h
  obtain rfl := Option.some.inj H
  go_enter Try.func35, Try.ntmps35
  go_wp2
  go_ret
  exact ⟨by rfl, rfl⟩
def spec_l01Byte.f (s0_0 : List Int) (s0_1 : Int) (s0_2 : Int) : Option (Int × Int × Int) := if s0_1 < (s0_0.length : Int) then (if 0 ≤ s0_1 then (some (Go.bits .and .i64 (wrap64 ((Go.bits .and .i64 (Go.bits .xor .i64 ((wrap64 ((wrap64 (s0_2 * 6364136223846793005)) + 1442695040888963407)) / 8589934592) ((wrap64 ((wrap64 (s0_2 * 6364136223846793005)) + 1442695040888963407)) / 35184372088832)) 255) + (wrap64 (rd s0_0 s0_1)))) 255, wrap64 (s0_1 + 1), wrap64 ((wrap64 (s0_2 * 6364136223846793005)) + 1442695040888963407))) else (none)) else (some (Go.bits .and .i64 (Go.bits .xor .i64 ((wrap64 ((wrap64 (s0_2 * 6364136223846793005)) + 1442695040888963407)) / 8589934592) ((wrap64 ((wrap64 (s0_2 * 6364136223846793005)) + 1442695040888963407)) / 35184372088832)) 255, s0_1, wrap64 ((wrap64 (s0_2 * 6364136223846793005)) + 1442695040888963407)))
set_option maxHeartbeats 8000000 in
set_option maxRecDepth 100000 in
theorem spec_l01Byte.calls (g : Nat) (s0_0 : List Int) (s0_1 : Int) (s0_2 : Int) (r1 : Int) (r2 : Int) (r3 : Int) (w0 w : World) (hI : IsS73 w0 w g s0_0 s0_1 s0_2) (hB : Below w0.heap.size w0 w) (h : spec_l01Byte.f s0_0 s0_1 s0_2 = some (r1, r2, r3)) :
    Calls Try.prog 60 #[.pointer (some ⟨g, 0, none⟩)] w fun e w' => e = .returned (.int .i64 r1) ∧ IsS73 w0 w' g s0_0 r2 r3 ∧ Below w0.heap.size w0 w' ∧ KeepBut w w' g none := by
  have HI0 := Aside0.mk hI
  have HK := Aside0.mk (KeepBut.refl w g none)
  have HL := Aside0.mk hB.size
  clear hI
  have HW0 := Aside0.mk hB.size
  have HB := Aside0.mk hB
  clear hB
  have H : (if s0_1 < (s0_0.length : Int) then (if 0 ≤ s0_1 then (some (Go.bits .and .i64 (wrap64 ((Go.bits .and .i64 (Go.bits .xor .i64 ((wrap64 ((wrap64 (s0_2 * 6364136223846793005)) + 1442695040888963407)) / 8589934592) ((wrap64 ((wrap64 (s0_2 * 6364136223846793005)) + 1442695040888963407)) / 35184372088832)) 255) + (wrap64 (rd s0_0 s0_1)))) 255, wrap64 (s0_1 + 1), wrap64 ((wrap64 (s0_2 * 6364136223846793005)) + 1442695040888963407))) else (none)) else (some (Go.bits .and .i64 (Go.bits .xor .i64 ((wrap64 ((wrap64 (s0_2 * 6364136223846793005)) + 1442695040888963407)) / 8589934592) ((wrap64 ((wrap64 (s0_2 * 6364136223846793005)) + 1442695040888963407)) / 35184372088832)) 255, s0_1, wrap64 ((wrap64 (s0_2 * 6364136223846793005)) + 1442695040888963407)))) = some (r1, r2, r3) := h
  clear h
  by_cases c2 : s0_1 < (s0_0.length : Int)
  · rw [if_pos c2] at H
    have c2b0 : decide (s0_1 < (s0_0.length : Int)) = true := decide_eq_true c2
    clear c2
    by_cases c3 : 0 ≤ s0_1
    · rw [if_pos c3] at H
      have c3b0 : decide (0 ≤ s0_1) = true := decide_eq_true c3
      clear c3
      simp only [Option.some.injEq, Prod.mk.injEq] at H
      obtain ⟨rfl, rfl, rfl⟩ := H
      obtain ⟨ASz4_0, cSz4_0, HGz4, hgz4, HSz4_0⟩ := HI0.out
      have hcz4_0 := cellS73_0 HGz4
      have hcz4_1 := cellS73_1 HGz4
      have hcz4_2 := cellS73_2 HGz4
      have hfz4_1 := blk_frozen HGz4 1
      have hfz4_2 := blk_frozen HGz4 2
      clear HGz4 hgz4
      have p801 : 0 ≤ (s0_1 : Int) := of_decide_eq_true (by (with_reducible assumption))
      have q801 : s0_1 < (s0_0.length : Int) := of_decide_eq_true (by (with_reducible assumption))
      obtain ⟨ad801, e801, hx801_0⟩ := Kd.at_int HSz4_0 s0_1 p801 q801
      cases e801
      have hn801_0 : ad801.block ≠ g := Nat.ne_of_lt (Nat.lt_of_lt_of_le (by have := World.block_lt_of_cell? _ _ hx801_0; rwa [add_block] at this) (IsS73.ge HI0.out))
      replace hx801_0 := pw_cell_below HB.out hx801_0
      replace hx801_0 := (cell_far (p := ⟨g, 2, none⟩) (by (rw [add_block]; exact hn801_0)) (.int .i64 (wrap64 ((wrap64 (s0_2 * 6364136223846793005)) + 1442695040888963407)))).trans hx801_0
      (try have hy801_0 := fun (n_ : Nat) => (show (((w.drewN n_).setCell ⟨g, 2, none⟩ (.int .i64 (wrap64 ((wrap64 (s0_2 * 6364136223846793005)) + 1442695040888963407))))).cell? _ = some _ from hx801_0))
      clear hn801_0
      replace p801 := eq_true p801
      replace q801 := eq_true q801
      go_enter Try.func60, Try.ntmps60
      go_wp2
      repeat (go_quiet (fail); try go_wp2)
      go_ret
      exact ⟨by rfl, by repeat ((with_reducible first | exact HI0.out | apply IsS73.drewN | apply IsS73.set_1 | apply IsS73.set_2)), by repeat ((with_reducible first | exact HB.out | apply pw_below_drewN | refine below_set ?_ (IsS73.ge HI0.out))), by repeat ((with_reducible first | exact HK.out | apply KeepBut.set_ | apply keep_drewN))⟩
    · rw [if_neg c3] at H
      exact absurd H (by simp)
  · rw [if_neg c2] at H
    have c2b0 : decide (s0_1 < (s0_0.length : Int)) = false := decide_eq_false c2
    clear c2
    simp only [Option.some.injEq, Prod.mk.injEq] at H
    obtain ⟨rfl, rfl, rfl⟩ := H
    obtain ⟨ASz5_0, cSz5_0, HGz5, hgz5, HSz5_0⟩ := HI0.out
    have hcz5_0 := cellS73_0 HGz5
    have hcz5_1 := cellS73_1 HGz5
    have hcz5_2 := cellS73_2 HGz5
    have hfz5_1 := blk_frozen HGz5 1
    have hfz5_2 := blk_frozen HGz5 2
    clear HGz5 hgz5
    go_enter Try.func60, Try.ntmps60
    go_wp2
    repeat (go_quiet (fail); try go_wp2)
    go_ret
    exact ⟨by rfl, by repeat ((with_reducible first | exact HI0.out | apply IsS73.drewN | apply IsS73.set_2)), by repeat ((with_reducible first | exact HB.out | apply pw_below_drewN | refine below_set ?_ (IsS73.ge HI0.out))), by repeat ((with_reducible first | exact HK.out | apply KeepBut.set_ | apply keep_drewN))⟩
def spec_l01Below.f (s0_0 : List Int) (s0_1 : Int) (s0_2 : Int) (a1 : Int) : Option (Int × Int × Int) := if a1 ≤ 0 then (some (0, s0_1, s0_2)) else (if a1 ≤ 256 then ((spec_l01Byte.f s0_0 s0_1 s0_2).bind fun bt802 => (if a1 = 0 then (none) else (some (Int.tmod bt802.1 a1, bt802.2.1, bt802.2.2)))) else ((spec_l01Byte.f s0_0 s0_1 s0_2).bind fun bt805 => ((spec_l01Byte.f s0_0 bt805.2.1 bt805.2.2).bind fun bt808 => ((spec_l01Byte.f s0_0 bt808.2.1 bt808.2.2).bind fun bt811 => ((spec_l01Byte.f s0_0 bt811.2.1 bt811.2.2).bind fun bt814 => (if a1 = 0 then (none) else (some (Int.tmod (wrap64 ((wrap64 ((wrap64 ((wrap64 (bt805.1 * 16777216)) + (wrap64 (bt808.1 * 65536)))) + (wrap64 (bt811.1 * 256)))) + bt814.1)) a1, bt814.2.1, bt814.2.2))))))))
set_option maxHeartbeats 8000000 in
set_option maxRecDepth 100000 in
theorem spec_l01Below.calls (g : Nat) (s0_0 : List Int) (s0_1 : Int) (s0_2 : Int) (a1 : Int) (r1 : Int) (r2 : Int) (r3 : Int) (w0 w : World) (hI : IsS73 w0 w g s0_0 s0_1 s0_2) (hB : Below w0.heap.size w0 w) (h : spec_l01Below.f s0_0 s0_1 s0_2 a1 = some (r1, r2, r3)) :
    Calls Try.prog 61 #[.pointer (some ⟨g, 0, none⟩), .int .i64 a1] w fun e w' => e = .returned (.int .i64 r1) ∧ IsS73 w0 w' g s0_0 r2 r3 ∧ Below w0.heap.size w0 w' ∧ KeepBut w w' g none := by
  have HI0 := Aside0.mk hI
  have HK := Aside0.mk (KeepBut.refl w g none)
  have HL := Aside0.mk hB.size
  clear hI
  have HW0 := Aside0.mk hB.size
  have HB := Aside0.mk hB
  clear hB
  have H : (if a1 ≤ 0 then (some (0, s0_1, s0_2)) else (if a1 ≤ 256 then ((spec_l01Byte.f s0_0 s0_1 s0_2).bind fun bt802 => (if a1 = 0 then (none) else (some (Int.tmod bt802.1 a1, bt802.2.1, bt802.2.2)))) else ((spec_l01Byte.f s0_0 s0_1 s0_2).bind fun bt805 => ((spec_l01Byte.f s0_0 bt805.2.1 bt805.2.2).bind fun bt808 => ((spec_l01Byte.f s0_0 bt808.2.1 bt808.2.2).bind fun bt811 => ((spec_l01Byte.f s0_0 bt811.2.1 bt811.2.2).bind fun bt814 => (if a1 = 0 then (none) else (some (Int.tmod (wrap64 ((wrap64 ((wrap64 ((wrap64 (bt805.1 * 16777216)) + (wrap64 (bt808.1 * 65536)))) + (wrap64 (bt811.1 * 256)))) + bt814.1)) a1, bt814.2.1, bt814.2.2))))))))) = some (r1, r2, r3) := h
  clear h
  by_cases c3 : a1 ≤ 0
  · rw [if_pos c3] at H
    have c3b0 : decide (a1 ≤ 0) = true := decide_eq_true c3
    clear c3
    simp only [Option.some.injEq, Prod.mk.injEq] at H
    obtain ⟨rfl, rfl, rfl⟩ := H
    go_enter Try.func61, Try.ntmps61
    go_wp2
    go_ret
    exact ⟨by rfl, by repeat ((with_reducible exact HI0.out)), by repeat ((with_reducible exact HB.out)), by repeat ((with_reducible exact HK.out))⟩
  · rw [if_neg c3] at H
    have c3b0 : decide (a1 ≤ 0) = false := decide_eq_false c3
    clear c3
    by_cases c4 : a1 ≤ 256
    · rw [if_pos c4] at H
      have c4b0 : decide (a1 ≤ 256) = true := decide_eq_true c4
      clear c4
      replace H := Option.bind_eq_some_iff.mp H
      obtain ⟨⟨t802, t803, t804⟩, A50, H⟩ := H
      replace H : (if a1 = 0 then (none) else (some (Int.tmod t802 a1, t803, t804))) = some (r1, r2, r3) := H
      have A5 := Aside0.mk A50
      clear A50
      by_cases c6 : a1 = 0
      · rw [if_pos c6] at H
        exact absurd H (by simp)
      · rw [if_neg c6] at H
        have c6b0 : (a1 == 0) = false := beq_eq_false_iff_ne.mpr c6
        have c6b1 : (a1 != 0) = true := bne_iff_ne.mpr c6
        simp only [Option.some.injEq, Prod.mk.injEq] at H
        obtain ⟨rfl, rfl, rfl⟩ := H
        go_enter Try.func61, Try.ntmps61
        go_wp2_with (((with_reducible refine gate_callee (f := 60) rfl ?_); refine goesL_ (some 14) rfl rfl Try.func60 (by kernel_rfl) rfl #[.pointer (some ⟨g, 0, none⟩)] rfl (by (try simp only [List.map_toArray, List.map_cons, List.map_nil]); rfl) ?_; (with_reducible refine (spec_l01Byte.calls g s0_0 s0_1 s0_2 t802 t803 t804 w0 _ ?side1 ?side2 A5.out).mono ?_); (case side1 => repeat ((with_reducible exact HI0.out))); (case side2 => repeat ((with_reducible exact HB.out))); rintro e w7 ⟨rfl, hi, hb, hk⟩; refine ⟨_, rfl, ?_⟩; have n0_ := Aside0.mk (KeepBut.trans (by repeat ((with_reducible exact HK.out))) hk (.inl rfl)); have n1_ := Aside0.mk (hb); have n2_ := Aside0.mk (hi); clear HK; clear HB; clear HI0; have HK := n0_; have HB := n1_; have HI0 := n2_; clear n0_ n1_ n2_; (try clear hb); (try clear hb2); (try clear hk); (try clear hi)))
        go_ret
        exact ⟨by rfl, by repeat ((with_reducible exact HI0.out)), by repeat ((with_reducible exact HB.out)), by repeat ((with_reducible exact HK.out))⟩
    · rw [if_neg c4] at H
      have c4b0 : decide (a1 ≤ 256) = false := decide_eq_false c4
      clear c4
      replace H := Option.bind_eq_some_iff.mp H
      obtain ⟨⟨t805, t806, t807⟩, A80, H⟩ := H
      replace H : ((spec_l01Byte.f s0_0 t806 t807).bind fun bt808 => ((spec_l01Byte.f s0_0 bt808.2.1 bt808.2.2).bind fun bt811 => ((spec_l01Byte.f s0_0 bt811.2.1 bt811.2.2).bind fun bt814 => (if a1 = 0 then (none) else (some (Int.tmod (wrap64 ((wrap64 ((wrap64 ((wrap64 (t805 * 16777216)) + (wrap64 (bt808.1 * 65536)))) + (wrap64 (bt811.1 * 256)))) + bt814.1)) a1, bt814.2.1, bt814.2.2)))))) = some (r1, r2, r3) := H
      have A8 := Aside0.mk A80
      clear A80
      replace H := Option.bind_eq_some_iff.mp H
      obtain ⟨⟨t808, t809, t810⟩, A90, H⟩ := H
      replace H : ((spec_l01Byte.f s0_0 t809 t810).bind fun bt811 => ((spec_l01Byte.f s0_0 bt811.2.1 bt811.2.2).bind fun bt814 => (if a1 = 0 then (none) else (some (Int.tmod (wrap64 ((wrap64 ((wrap64 ((wrap64 (t805 * 16777216)) + (wrap64 (t808 * 65536)))) + (wrap64 (bt811.1 * 256)))) + bt814.1)) a1, bt814.2.1, bt814.2.2))))) = some (r1, r2, r3) := H
      have A9 := Aside0.mk A90
      clear A90
      replace H := Option.bind_eq_some_iff.mp H
      obtain ⟨⟨t811, t812, t813⟩, A100, H⟩ := H
      replace H : ((spec_l01Byte.f s0_0 t812 t813).bind fun bt814 => (if a1 = 0 then (none) else (some (Int.tmod (wrap64 ((wrap64 ((wrap64 ((wrap64 (t805 * 16777216)) + (wrap64 (t808 * 65536)))) + (wrap64 (t811 * 256)))) + bt814.1)) a1, bt814.2.1, bt814.2.2)))) = some (r1, r2, r3) := H
      have A10 := Aside0.mk A100
      clear A100
      replace H := Option.bind_eq_some_iff.mp H
      obtain ⟨⟨t814, t815, t816⟩, A110, H⟩ := H
      replace H : (if a1 = 0 then (none) else (some (Int.tmod (wrap64 ((wrap64 ((wrap64 ((wrap64 (t805 * 16777216)) + (wrap64 (t808 * 65536)))) + (wrap64 (t811 * 256)))) + t814)) a1, t815, t816))) = some (r1, r2, r3) := H
      have A11 := Aside0.mk A110
      clear A110
      by_cases c12 : a1 = 0
      · rw [if_pos c12] at H
        exact absurd H (by simp)
      · rw [if_neg c12] at H
        have c12b0 : (a1 == 0) = false := beq_eq_false_iff_ne.mpr c12
        have c12b1 : (a1 != 0) = true := bne_iff_ne.mpr c12
        simp only [Option.some.injEq, Prod.mk.injEq] at H
        obtain ⟨rfl, rfl, rfl⟩ := H
        go_enter Try.func61, Try.ntmps61
        go_wp2_with (first | ((with_reducible refine gate_callee (f := 60) rfl ?_); refine goesL_ (some 18) rfl rfl Try.func60 (by kernel_rfl) rfl #[.pointer (some ⟨g, 0, none⟩)] rfl (by (try simp only [List.map_toArray, List.map_cons, List.map_nil]); rfl) ?_; (with_reducible refine (spec_l01Byte.calls g s0_0 s0_1 s0_2 t805 t806 t807 w0 _ ?side1 ?side2 A8.out).mono ?_); (case side1 => repeat ((with_reducible exact HI0.out))); (case side2 => repeat ((with_reducible exact HB.out))); rintro e w13 ⟨rfl, hi, hb, hk⟩; refine ⟨_, rfl, ?_⟩; have n0_ := Aside0.mk (KeepBut.trans (by repeat ((with_reducible exact HK.out))) hk (.inl rfl)); have n1_ := Aside0.mk (hb); have n2_ := Aside0.mk (hi); clear HK; clear HB; clear HI0; have HK := n0_; have HB := n1_; have HI0 := n2_; clear n0_ n1_ n2_; (try clear hb); (try clear hb2); (try clear hk); (try clear hi)) | ((with_reducible refine gate_callee (f := 60) rfl ?_); refine goesL_ (some 20) rfl rfl Try.func60 (by kernel_rfl) rfl #[.pointer (some ⟨g, 0, none⟩)] rfl (by (try simp only [List.map_toArray, List.map_cons, List.map_nil]); rfl) ?_; (with_reducible refine (spec_l01Byte.calls g s0_0 t806 t807 t808 t809 t810 w0 _ ?side1 ?side2 A9.out).mono ?_); (case side1 => repeat ((with_reducible exact HI0.out))); (case side2 => repeat ((with_reducible exact HB.out))); rintro e w14 ⟨rfl, hi, hb, hk⟩; refine ⟨_, rfl, ?_⟩; have n0_ := Aside0.mk (KeepBut.trans (by repeat ((with_reducible exact HK.out))) hk (.inl rfl)); have n1_ := Aside0.mk (hb); have n2_ := Aside0.mk (hi); clear HK; clear HB; clear HI0; have HK := n0_; have HB := n1_; have HI0 := n2_; clear n0_ n1_ n2_; (try clear hb); (try clear hb2); (try clear hk); (try clear hi)) | ((with_reducible refine gate_callee (f := 60) rfl ?_); refine goesL_ (some 22) rfl rfl Try.func60 (by kernel_rfl) rfl #[.pointer (some ⟨g, 0, none⟩)] rfl (by (try simp only [List.map_toArray, List.map_cons, List.map_nil]); rfl) ?_; (with_reducible refine (spec_l01Byte.calls g s0_0 t809 t810 t811 t812 t813 w0 _ ?side1 ?side2 A10.out).mono ?_); (case side1 => repeat ((with_reducible exact HI0.out))); (case side2 => repeat ((with_reducible exact HB.out))); rintro e w15 ⟨rfl, hi, hb, hk⟩; refine ⟨_, rfl, ?_⟩; have n0_ := Aside0.mk (KeepBut.trans (by repeat ((with_reducible exact HK.out))) hk (.inl rfl)); have n1_ := Aside0.mk (hb); have n2_ := Aside0.mk (hi); clear HK; clear HB; clear HI0; have HK := n0_; have HB := n1_; have HI0 := n2_; clear n0_ n1_ n2_; (try clear hb); (try clear hb2); (try clear hk); (try clear hi)) | ((with_reducible refine gate_callee (f := 60) rfl ?_); refine goesL_ (some 24) rfl rfl Try.func60 (by kernel_rfl) rfl #[.pointer (some ⟨g, 0, none⟩)] rfl (by (try simp only [List.map_toArray, List.map_cons, List.map_nil]); rfl) ?_; (with_reducible refine (spec_l01Byte.calls g s0_0 t812 t813 t814 t815 t816 w0 _ ?side1 ?side2 A11.out).mono ?_); (case side1 => repeat ((with_reducible exact HI0.out))); (case side2 => repeat ((with_reducible exact HB.out))); rintro e w16 ⟨rfl, hi, hb, hk⟩; refine ⟨_, rfl, ?_⟩; have n0_ := Aside0.mk (KeepBut.trans (by repeat ((with_reducible exact HK.out))) hk (.inl rfl)); have n1_ := Aside0.mk (hb); have n2_ := Aside0.mk (hi); clear HK; clear HB; clear HI0; have HK := n0_; have HB := n1_; have HI0 := n2_; clear n0_ n1_ n2_; (try clear hb); (try clear hb2); (try clear hk); (try clear hi)))
        go_ret
        exact ⟨by rfl, by repeat ((with_reducible exact HI0.out)), by repeat ((with_reducible exact HB.out)), by repeat ((with_reducible exact HK.out))⟩
def spec_l08Epochs.l0 : Nat → Int → List Int → Int → Int → Int → List Int → List (S57) → Option (Int × List Int × (List (S57)) × Int × Int)
  | 0, _, _, _, _, _, _, _ => none
  | k + 1, x4, x1000, x1001, x1002, x829000, x829001, x829002 => (spec_l01Below.f x1000 x1001 x1002 20).bind fun bt829 => (if x4 < bt829.1 then ((spec_l01Below.f x1000 bt829.2.1 bt829.2.2 4).bind fun bt832 => ((spec_l01Below.f x1000 bt832.2.1 bt832.2.2 5).bind fun bt835 => (if bt835.1 = 0 then ((spec_PinLook.f k x829000 x829001 x829002 bt832.1).bind fun bt838 => (spec_l08Epochs.l0 k (wrap64 (x4 + 1)) x1000 bt835.2.1 bt835.2.2 bt838.1 bt838.2.1 bt838.2.2.1)) else (if bt835.1 = 1 then ((spec_UnpinLook.f k x829000 x829001 x829002 bt832.1).bind fun bt846 => (spec_l08Epochs.l0 k (wrap64 (x4 + 1)) x1000 bt835.2.1 bt835.2.2 bt846.1 bt846.2.1 bt846.2.2.1)) else (if bt835.1 = 2 then ((spec_l01Below.f x1000 bt835.2.1 bt835.2.2 9).bind fun bt854 => ((spec_RetireNode.f k x829000 x829001 x829002 (wrap64 (1 + bt854.1))).bind fun bt857 => (spec_l08Epochs.l0 k (wrap64 (x4 + 1)) x1000 bt854.2.1 bt854.2.2 bt857.1 bt857.2.1 bt857.2.2.1))) else (if bt835.1 = 3 then ((spec_AdvanceEpoch.f k x829000 x829001 x829002).bind fun bt865 => (spec_l08Epochs.l0 k (wrap64 (x4 + 1)) x1000 bt835.2.1 bt835.2.2 bt865.1 bt865.2.1 bt865.2.2.1)) else ((spec_FreeNodes.f k x829000 x829001 x829002).bind fun bt873 => (spec_l08Epochs.l0 k (wrap64 (x4 + 1)) x1000 bt835.2.1 bt835.2.2 bt873.1 bt873.2.1 bt873.2.2.1)))))))) else (some (x829000, x829001, x829002, bt829.2.1, bt829.2.2)))
def spec_l08Epochs.f (k : Nat) (s0_0 : List Int) (s0_1 : Int) (s0_2 : Int) : Option (Int × List Int × (List (S57)) × Int × Int) := (spec_l01Below.f s0_0 s0_1 s0_2 4).bind fun bt818 => ((spec_EpochsNew.f (wrap64 (1 + bt818.1))).bind fun bt821 => (spec_l08Epochs.l0 k 0 s0_0 bt818.2.1 bt818.2.2 bt821.1 bt821.2.1 bt821.2.2))
def spec_l08Epochs.T13 : Bool × List (List Nat × List Nat) := (true, [([], []), ([], []), ([1], [1]), ([2], [2]), ([0, 3, 2], [0, 3]), ([4], [4]), ([5], [5]), ([5], [5]), ([6, 4, 0, 1, 2, 3, 4, 5, 6], [6])])
def spec_l08Epochs.B13 : List Nat := [0, 0, 2, 6, 15, 31, 63, 63, 127]
theorem spec_l08Epochs.tab13 : rtab .any (opsOf Try.f58 13) = spec_l08Epochs.T13 := by kernel_rfl
theorem spec_l08Epochs.bits13 : waitsOk spec_l08Epochs.T13.2 spec_l08Epochs.B13 = true := by kernel_rfl
set_option maxHeartbeats 8000000 in
set_option maxRecDepth 100000 in
theorem spec_l08Epochs.calls (k : Nat) (g : Nat) (s0_0 : List Int) (s0_1 : Int) (s0_2 : Int) (r1 : Int) (r2 : List Int) (r3 : List (S57)) (r4 : Int) (r5 : Int) (w0 w : World) (hI : IsS73 w0 w g s0_0 s0_1 s0_2) (hB : Below w0.heap.size w0 w) (h : spec_l08Epochs.f k s0_0 s0_1 s0_2 = some (r1, r2, r3, r4, r5)) :
    Calls Try.prog 58 #[.pointer (some ⟨g, 0, none⟩)] w fun e w' => ∃ v1_ v2_ : Value, e = .returned (.agg #[.int .i64 r1, v1_, v2_]) ∧ Kd.R (Kd.int .i64) 3 w' w.heap.size (fun _ => True) v1_ r2 ∧ Kd.R k57 57 w' w.heap.size (fun _ => True) v2_ r3 ∧ IsS73 w0 w' g s0_0 r4 r5 ∧ Below w0.heap.size w0 w' ∧ KeepBut w w' g none := by
  have hu25 := Try.underlying25
  have HI0 := Aside0.mk hI
  have HK := Aside0.mk (KeepBut.refl w g none)
  have HL := Aside0.mk hB.size
  clear hI
  have HW0 := Aside0.mk hB.size
  have HB := Aside0.mk hB
  clear hB
  have H : ((spec_l01Below.f s0_0 s0_1 s0_2 4).bind fun bt818 => ((spec_EpochsNew.f (wrap64 (1 + bt818.1))).bind fun bt821 => (spec_l08Epochs.l0 k 0 s0_0 bt818.2.1 bt818.2.2 bt821.1 bt821.2.1 bt821.2.2))) = some (r1, r2, r3, r4, r5) := h
  clear h
  replace H := Option.bind_eq_some_iff.mp H
  obtain ⟨⟨t818, t819, t820⟩, A20, H⟩ := H
  replace H : ((spec_EpochsNew.f (wrap64 (1 + t818))).bind fun bt821 => (spec_l08Epochs.l0 k 0 s0_0 t819 t820 bt821.1 bt821.2.1 bt821.2.2)) = some (r1, r2, r3, r4, r5) := H
  have A2 := Aside0.mk A20
  clear A20
  replace H := Option.bind_eq_some_iff.mp H
  obtain ⟨⟨t821, t822, t825⟩, A30, H⟩ := H
  replace H : (spec_l08Epochs.l0 k 0 s0_0 t819 t820 t821 t822 t825) = some (r1, r2, r3, r4, r5) := H
  have A3 := Aside0.mk A30
  clear A30
  have H' := Aside0.mk H
  clear H
  go_enter Try.func58, Try.ntmps58
  go_wp2_with (first | ((with_reducible refine gate_dst (N := 2) rfl ?_); refine box_event ?hg (N := 2) ?hd (cs := #[.int .i64 0, .slice none 0 0, .slice none 0 0]) (t := 25) ?hr ?_; (case hd => rfl); (case hg => rfl); (case hr => (go_simp; done)); intro gb817 hg w4 hbox hb; have n0_ := Aside0.mk (IsS73.below (by repeat ((with_reducible exact HI0.out))) hb); have n1_ := Aside0.mk (KeepBut.trans (by repeat ((with_reducible exact HK.out))) (KeepBut.of_below hb g none) (.inl rfl)); have n2_ := Aside0.mk (below_step (by repeat ((with_reducible exact HB.out))) hb); have n3_ := Aside0.mk (hbox); have n4_ := Aside0.mk ((by rw [hg]; exact (keep_size (w := w) (g := g) (row := none) (by repeat ((with_reducible exact HK.out)))) : w.heap.size ≤ gb817)); have n5_ := Aside0.mk ((Nat.le_trans HW0.out (by rw [hg]; exact (keep_size (w := w) (g := g) (row := none) (by repeat ((with_reducible exact HK.out)))) : w.heap.size ≤ gb817) : w0.heap.size ≤ gb817)); have n6_ := Aside0.mk ((by rw [hg]; exact Nat.ne_of_lt (IsS73.lt (show IsS73 w0 _ g s0_0 s0_1 s0_2 from by repeat ((with_reducible exact HI0.out)))) : g ≠ gb817)); have n7_ := Aside0.mk ((by rw [hg]; exact Nat.ne_of_gt (IsS73.lt (show IsS73 w0 _ g s0_0 s0_1 s0_2 from by repeat ((with_reducible exact HI0.out)))) : gb817 ≠ g)); clear HI0; clear HK; clear HB; have HI0 := n0_; have HK := n1_; have HB := n2_; have BK817 := n3_; have GW817 := n4_; have GE817 := n5_; have NB0_817 := n6_; have NB817_0 := n7_; clear n0_ n1_ n2_ n3_ n4_ n5_ n6_ n7_; clear hb hbox hg) | ((with_reducible refine gate_callee (f := 61) rfl ?_); refine goesL_ (some 7) rfl rfl Try.func61 (by kernel_rfl) rfl #[.pointer (some ⟨g, 0, none⟩), .int .i64 4] rfl (by (try simp only [List.map_toArray, List.map_cons, List.map_nil]); rfl) ?_; (with_reducible refine (spec_l01Below.calls g s0_0 s0_1 s0_2 4 t818 t819 t820 w0 _ ?side1 ?side2 A2.out).mono ?_); (case side1 => repeat ((with_reducible exact HI0.out))); (case side2 => repeat ((with_reducible exact HB.out))); rintro e w5 ⟨rfl, hi, hb, hk⟩; refine ⟨_, rfl, ?_⟩; have n0_ := Aside0.mk (KeepBut.blk hk (g' := gb817) (o := .cells #[.int .i64 0, .slice none 0 0, .slice none 0 0] 25 (0, 0)) (by (with_reducible repeat (first | refine blk_drewN ?_ _ | refine blk_drew ?_ | refine blk_alloc ?_ _ )); exact BK817.out) NB817_0.out (by simp)); have n1_ := Aside0.mk (KeepBut.trans (by repeat ((with_reducible exact HK.out))) hk (.inl rfl)); have n2_ := Aside0.mk (hb); have n3_ := Aside0.mk (hi); clear BK817; clear HK; clear HB; clear HI0; have BK817 := n0_; have HK := n1_; have HB := n2_; have HI0 := n3_; clear n0_ n1_ n2_ n3_; (try clear hb); (try clear hb2); (try clear hk); (try clear hi)) | ((with_reducible refine gate_callee (f := 13) rfl ?_); refine goesL_ (some 9) rfl rfl Try.func13 (by kernel_rfl) rfl #[.int .i64 (wrap64 (1 + t818))] rfl (by (try simp only [List.map_toArray, List.map_cons, List.map_nil]); rfl) ?_; (with_reducible refine (spec_EpochsNew.calls (wrap64 (1 + t818)) t821 t822 t825 _ A3.out).mono ?_); rintro e w6 ⟨v823, v826, rfl, ho0, ho1, hb⟩; refine ⟨_, rfl, ?_⟩; have n0_ := Aside0.mk (Kd.R_lower ho0 (keep_size (w := w) (g := g) (row := none) (by repeat ((with_reducible exact HK.out))))); have n1_ := Aside0.mk (Kd.R_lower ho1 (keep_size (w := w) (g := g) (row := none) (by repeat ((with_reducible exact HK.out))))); have n2_ := Aside0.mk (IsS73.below (by repeat ((with_reducible exact HI0.out))) hb); have n3_ := Aside0.mk (blk_below (g := gb817) (o := .cells #[.int .i64 0, .slice none 0 0, .slice none 0 0] 25 (0, 0)) (by (with_reducible repeat (first | refine blk_drewN ?_ _ | refine blk_drew ?_ | refine blk_alloc ?_ _ )); exact BK817.out) hb); have n4_ := Aside0.mk (KeepBut.trans (by repeat ((with_reducible exact HK.out))) (KeepBut.of_below hb g none) (.inl rfl)); have n5_ := Aside0.mk (below_step (by repeat ((with_reducible exact HB.out))) hb); clear HI0; clear BK817; clear HK; clear HB; have HO824 := n0_; have HO827 := n1_; have HI0 := n2_; have BK817 := n3_; have HK := n4_; have HB := n5_; clear n0_ n1_ n2_ n3_ n4_ n5_; (try clear hb); (try clear hb2); (try clear hk); (try clear hi); (try clear ho0); (try clear ho1)) | ((with_reducible refine gate_dst (N := 3) rfl ?_); refine box_event ?hg (N := 3) ?hd (cs := #[.int .i64 0, .slice none 0 0, .slice none 0 0]) (t := 25) ?hr ?_; (case hd => rfl); (case hg => rfl); (case hr => (go_simp; done)); intro gb828 hg w7 hbox hb; have n0_ := Aside0.mk (Kd.R_below (by (with_reducible repeat (first | apply Kd.R_alloc | apply Kd.R_drewN | apply Kd.R_drew )); exact HO824.out) hb); have n1_ := Aside0.mk (Kd.R_below (by (with_reducible repeat (first | apply Kd.R_alloc | apply Kd.R_drewN | apply Kd.R_drew )); exact HO827.out) hb); have n2_ := Aside0.mk (IsS73.below (by repeat ((with_reducible exact HI0.out))) hb); have n3_ := Aside0.mk (blk_below (g := gb817) (o := .cells #[.int .i64 0, .slice none 0 0, .slice none 0 0] 25 (0, 0)) (by (with_reducible repeat (first | refine blk_drewN ?_ _ | refine blk_drew ?_ | refine blk_alloc ?_ _ )); exact BK817.out) hb); have n4_ := Aside0.mk (KeepBut.trans (by repeat ((with_reducible exact HK.out))) (KeepBut.of_below hb g none) (.inl rfl)); have n5_ := Aside0.mk (below_step (by repeat ((with_reducible exact HB.out))) hb); have n6_ := Aside0.mk (hbox); have n7_ := Aside0.mk ((by rw [hg]; exact (keep_size (w := w) (g := g) (row := none) (by repeat ((with_reducible exact HK.out)))) : w.heap.size ≤ gb828)); have n8_ := Aside0.mk ((Nat.le_trans HW0.out (by rw [hg]; exact (keep_size (w := w) (g := g) (row := none) (by repeat ((with_reducible exact HK.out)))) : w.heap.size ≤ gb828) : w0.heap.size ≤ gb828)); have n9_ := Aside0.mk ((by rw [hg]; exact Nat.ne_of_lt (blk_lt (g := gb817) (o := .cells #[.int .i64 0, .slice none 0 0, .slice none 0 0] 25 (0, 0)) (by (with_reducible repeat (first | refine blk_drewN ?_ _ | refine blk_drew ?_ | refine blk_alloc ?_ _ )); exact BK817.out)) : gb817 ≠ gb828)); have n10_ := Aside0.mk ((by rw [hg]; exact Nat.ne_of_gt (blk_lt (g := gb817) (o := .cells #[.int .i64 0, .slice none 0 0, .slice none 0 0] 25 (0, 0)) (by (with_reducible repeat (first | refine blk_drewN ?_ _ | refine blk_drew ?_ | refine blk_alloc ?_ _ )); exact BK817.out)) : gb828 ≠ gb817)); have n11_ := Aside0.mk ((by rw [hg]; exact Nat.ne_of_lt (IsS73.lt (show IsS73 w0 _ g s0_0 t819 t820 from by repeat ((with_reducible exact HI0.out)))) : g ≠ gb828)); have n12_ := Aside0.mk ((by rw [hg]; exact Nat.ne_of_gt (IsS73.lt (show IsS73 w0 _ g s0_0 t819 t820 from by repeat ((with_reducible exact HI0.out)))) : gb828 ≠ g)); clear HO824; clear HO827; clear HI0; clear BK817; clear HK; clear HB; have HO824 := n0_; have HO827 := n1_; have HI0 := n2_; have BK817 := n3_; have HK := n4_; have HB := n5_; have BK828 := n6_; have GW828 := n7_; have GE828 := n8_; have NB817_828 := n9_; have NB828_817 := n10_; have NB0_828 := n11_; have NB828_0 := n12_; clear n0_ n1_ n2_ n3_ n4_ n5_ n6_ n7_ n8_ n9_ n10_ n11_ n12_; clear hb hbox hg; have hnb8 := NB828_817.out; have hnc8 := NB817_828.out; have hnb9 := NB828_0.out; have hnc9 := NB0_828.out; have hcz10_0 : w7.cell? ⟨gb828, 0, none⟩ = some (.int .i64 0) := (blk_cell BK828.out 0).trans rfl; have hcz10_1 : w7.cell? ⟨gb828, 1, none⟩ = some (.slice none 0 0) := (blk_cell BK828.out 1).trans rfl; have hcz10_2 : w7.cell? ⟨gb828, 2, none⟩ = some (.slice none 0 0) := (blk_cell BK828.out 2).trans rfl; have hfz10_0 := blk_frozen BK828.out 0; have hfz10_1 := blk_frozen BK828.out 1; have hfz10_2 := blk_frozen BK828.out 2; obtain ⟨Ao11, co11, eo11⟩ := Kd.R_slice HO824.out; subst eo11; obtain ⟨Ao12, co12, eo12⟩ := Kd.R_slice HO827.out; subst eo12))
  go_loopg [4] k (fun kq v4 w' => ∃ (x4_1 : Int) (x1001_1 : Int) (x1002_1 : Int) (x829000_1 : Int) (x829001_1 : List Int) (x829002_1 : List (S57)) (u829001 : Value) (u829002 : Value), v4 = .int .i64 x4_1 ∧ Aside0 (spec_l08Epochs.l0 kq x4_1 s0_0 x1001_1 x1002_1 x829000_1 x829001_1 x829002_1 = some (r1, r2, r3, r4, r5)) ∧ Aside0 (kq ≤ k) ∧ Aside0 (Kd.R (Kd.int .i64) 3 w' w.heap.size (fun _ => True) u829001 x829001_1) ∧ Aside0 (Kd.R k57 57 w' w.heap.size (fun _ => True) u829002 x829002_1) ∧ Aside0 (w'.heap[gb817]? = some (.cells #[.int .i64 0, (.slice none 0 0), (.slice none 0 0)] 25 (0, 0))) ∧ Aside0 (w'.heap[gb828]? = some (.cells #[.int .i64 x829000_1, u829001, u829002] 25 (0, 0))) ∧ Aside0 (IsS73 w0 w' g s0_0 x1001_1 x1002_1) ∧ Aside0 (KeepBut w w' g none) ∧ Aside0 (Below w0.heap.size w0 w'))
  case atStart => exact ⟨(0), (t819), (t820), (t821), (t822), (t825), (.slice Ao11 t822.length co11), (.slice Ao12 t825.length co12), (by rfl), H', ⟨Nat.le_refl _⟩, ⟨by (with_reducible repeat (first | apply Kd.R_alloc | apply Kd.R_drewN | apply Kd.R_drew )); exact Kd.R_mono (Kd.R_far (p := ⟨gb828, 2, none⟩) (Kd.R_far (p := ⟨gb828, 1, none⟩) (Kd.R_far (p := ⟨gb828, 0, none⟩) (Kd.R_types HO824.out BK828.out (by decide)) (fun _ hk => hk.2) (.int .i64 t821)) (fun _ hk => hk.2) (.slice Ao11 t822.length co11)) (fun _ hk => hk.2) (.slice Ao12 t825.length co12)) (fun _ hk => trivial)⟩, ⟨by (with_reducible repeat (first | apply Kd.R_alloc | apply Kd.R_drewN | apply Kd.R_drew )); exact Kd.R_mono (Kd.R_far (p := ⟨gb828, 2, none⟩) (Kd.R_far (p := ⟨gb828, 1, none⟩) (Kd.R_far (p := ⟨gb828, 0, none⟩) (Kd.R_types HO827.out BK828.out (by decide)) (fun _ hk => hk.2) (.int .i64 t821)) (fun _ hk => hk.2) (.slice Ao11 t822.length co11)) (fun _ hk => hk.2) (.slice Ao12 t825.length co12)) (fun _ hk => trivial)⟩, ⟨by (with_reducible repeat (first | refine blk_drewN ?_ _ | refine blk_drew ?_ | refine blk_alloc ?_ _ )); refine blk_far ?_ NB817_828.out _; (with_reducible repeat (first | refine blk_drewN ?_ _ | refine blk_drew ?_ | refine blk_alloc ?_ _ )); refine blk_far ?_ NB817_828.out _; (with_reducible repeat (first | refine blk_drewN ?_ _ | refine blk_drew ?_ | refine blk_alloc ?_ _ )); refine blk_far ?_ NB817_828.out _; (with_reducible repeat (first | refine blk_drewN ?_ _ | refine blk_drew ?_ | refine blk_alloc ?_ _ )); exact BK817.out⟩, ⟨by (with_reducible repeat (first | refine blk_drewN ?_ _ | refine blk_drew ?_ | refine blk_alloc ?_ _ )); refine blk_put (cs := #[.int .i64 t821, .slice Ao11 t822.length co11, .slice none 0 0]) ?_ 2 _ rfl; (with_reducible repeat (first | refine blk_drewN ?_ _ | refine blk_drew ?_ | refine blk_alloc ?_ _ )); refine blk_put (cs := #[.int .i64 t821, .slice none 0 0, .slice none 0 0]) ?_ 1 _ rfl; (with_reducible repeat (first | refine blk_drewN ?_ _ | refine blk_drew ?_ | refine blk_alloc ?_ _ )); refine blk_put (cs := #[.int .i64 0, .slice none 0 0, .slice none 0 0]) ?_ 0 _ rfl; (with_reducible repeat (first | refine blk_drewN ?_ _ | refine blk_drew ?_ | refine blk_alloc ?_ _ )); exact BK828.out⟩, ⟨by repeat ((with_reducible first | exact HI0.out | refine IsS73.far ?_ NB0_828.out _))⟩, ⟨by repeat ((with_reducible first | exact HK.out | refine keep_far ?_ GW828.out _))⟩, ⟨by repeat ((with_reducible first | exact HB.out | refine below_set ?_ GE828.out))⟩⟩
  case round =>
    clear H'
    clear hcz10_0
    clear hcz10_1
    clear hcz10_2
    clear hfz10_0
    clear hfz10_1
    clear hfz10_2
    obtain ⟨x4_1, x1001_1, x1002_1, x829000_1, x829001_1, x829002_1, u829001, u829002, rfl, HA, HK1, HO_829001, HO_829002, BK817, BK828, HI0, HK, HB⟩ := hrel
    cases gk with
    | zero => exact absurd HA.out (by simp [spec_l08Epochs.l0])
    | succ k1 =>
      have H := HA.out
      clear HA
      simp only [spec_l08Epochs.l0] at H
      replace H := Option.bind_eq_some_iff.mp H
      obtain ⟨⟨t829, t830, t831⟩, A130, H⟩ := H
      replace H : (if x4_1 < t829 then ((spec_l01Below.f s0_0 t830 t831 4).bind fun bt832 => ((spec_l01Below.f s0_0 bt832.2.1 bt832.2.2 5).bind fun bt835 => (if bt835.1 = 0 then ((spec_PinLook.f k1 x829000_1 x829001_1 x829002_1 bt832.1).bind fun bt838 => (spec_l08Epochs.l0 k1 (wrap64 (x4_1 + 1)) s0_0 bt835.2.1 bt835.2.2 bt838.1 bt838.2.1 bt838.2.2.1)) else (if bt835.1 = 1 then ((spec_UnpinLook.f k1 x829000_1 x829001_1 x829002_1 bt832.1).bind fun bt846 => (spec_l08Epochs.l0 k1 (wrap64 (x4_1 + 1)) s0_0 bt835.2.1 bt835.2.2 bt846.1 bt846.2.1 bt846.2.2.1)) else (if bt835.1 = 2 then ((spec_l01Below.f s0_0 bt835.2.1 bt835.2.2 9).bind fun bt854 => ((spec_RetireNode.f k1 x829000_1 x829001_1 x829002_1 (wrap64 (1 + bt854.1))).bind fun bt857 => (spec_l08Epochs.l0 k1 (wrap64 (x4_1 + 1)) s0_0 bt854.2.1 bt854.2.2 bt857.1 bt857.2.1 bt857.2.2.1))) else (if bt835.1 = 3 then ((spec_AdvanceEpoch.f k1 x829000_1 x829001_1 x829002_1).bind fun bt865 => (spec_l08Epochs.l0 k1 (wrap64 (x4_1 + 1)) s0_0 bt835.2.1 bt835.2.2 bt865.1 bt865.2.1 bt865.2.2.1)) else ((spec_FreeNodes.f k1 x829000_1 x829001_1 x829002_1).bind fun bt873 => (spec_l08Epochs.l0 k1 (wrap64 (x4_1 + 1)) s0_0 bt835.2.1 bt835.2.2 bt873.1 bt873.2.1 bt873.2.2.1)))))))) else (some (x829000_1, x829001_1, x829002_1, t830, t831))) = some (r1, r2, r3, r4, r5) := H
      have A13 := Aside0.mk A130
      clear A130
      have HS14 := Aside0.mk H
      clear H
      go_upto_if 13 with (((with_reducible refine gate_callee (f := 61) rfl ?_); refine goesL_ (some 12) rfl rfl Try.func61 (by kernel_rfl) rfl #[.pointer (some ⟨g, 0, none⟩), .int .i64 20] rfl (by (try simp only [List.map_toArray, List.map_cons, List.map_nil]); rfl) ?_; (with_reducible refine (spec_l01Below.calls g s0_0 x1001_1 x1002_1 20 t829 t830 t831 w0 _ ?side1 ?side2 A13.out).mono ?_); (case side1 => repeat ((with_reducible exact HI0.out))); (case side2 => repeat ((with_reducible exact HB.out))); rintro e w15 ⟨rfl, hi, hb, hk⟩; refine ⟨_, rfl, ?_⟩; have n0_ := Aside0.mk (Kd.R_mono (Kd.R_keep (IsS73.apart (show IsS73 w0 _ g s0_0 x1001_1 x1002_1 from by repeat ((with_reducible exact HI0.out))) (by (with_reducible repeat (first | apply Kd.R_alloc | apply Kd.R_drewN | apply Kd.R_drew )); exact HO_829001.out) (by decide)) hk (fun _ h => h.2)) (fun _ h => h.1)); have n1_ := Aside0.mk (Kd.R_mono (Kd.R_keep (IsS73.apart (show IsS73 w0 _ g s0_0 x1001_1 x1002_1 from by repeat ((with_reducible exact HI0.out))) (by (with_reducible repeat (first | apply Kd.R_alloc | apply Kd.R_drewN | apply Kd.R_drew )); exact HO_829002.out) (by decide)) hk (fun _ h => h.2)) (fun _ h => h.1)); have n2_ := Aside0.mk (KeepBut.blk hk (g' := gb817) (o := .cells #[.int .i64 0, .slice none 0 0, .slice none 0 0] 25 (0, 0)) (by (with_reducible repeat (first | refine blk_drewN ?_ _ | refine blk_drew ?_ | refine blk_alloc ?_ _ )); exact BK817.out) NB817_0.out (by simp)); have n3_ := Aside0.mk (KeepBut.blk hk (g' := gb828) (o := .cells #[.int .i64 x829000_1, u829001, u829002] 25 (0, 0)) (by (with_reducible repeat (first | refine blk_drewN ?_ _ | refine blk_drew ?_ | refine blk_alloc ?_ _ )); exact BK828.out) NB828_0.out (by simp)); have n4_ := Aside0.mk (KeepBut.trans (by repeat ((with_reducible exact HK.out))) hk (.inl rfl)); have n5_ := Aside0.mk (hb); have n6_ := Aside0.mk (hi); clear HO_829001; clear HO_829002; clear BK817; clear BK828; clear HK; clear HB; clear HI0; have HO_829001 := n0_; have HO_829002 := n1_; have BK817 := n2_; have BK828 := n3_; have HK := n4_; have HB := n5_; have HI0 := n6_; clear n0_ n1_ n2_ n3_ n4_ n5_ n6_; (try clear hb); (try clear hb2); (try clear hk); (try clear hi)))
      (try simp only [Act.put, List.setIfInBounds_toArray, List.set_cons_zero, List.set_cons_succ])
      have H := HS14.out
      clear HS14
      by_cases c16 : x4_1 < t829
      · rw [if_pos c16] at H
        have c16b0 : decide (x4_1 < t829) = true := decide_eq_true c16
        clear c16
        (rw [c16b0])
        replace H := Option.bind_eq_some_iff.mp H
        obtain ⟨⟨t832, t833, t834⟩, A170, H⟩ := H
        replace H : ((spec_l01Below.f s0_0 t833 t834 5).bind fun bt835 => (if bt835.1 = 0 then ((spec_PinLook.f k1 x829000_1 x829001_1 x829002_1 t832).bind fun bt838 => (spec_l08Epochs.l0 k1 (wrap64 (x4_1 + 1)) s0_0 bt835.2.1 bt835.2.2 bt838.1 bt838.2.1 bt838.2.2.1)) else (if bt835.1 = 1 then ((spec_UnpinLook.f k1 x829000_1 x829001_1 x829002_1 t832).bind fun bt846 => (spec_l08Epochs.l0 k1 (wrap64 (x4_1 + 1)) s0_0 bt835.2.1 bt835.2.2 bt846.1 bt846.2.1 bt846.2.2.1)) else (if bt835.1 = 2 then ((spec_l01Below.f s0_0 bt835.2.1 bt835.2.2 9).bind fun bt854 => ((spec_RetireNode.f k1 x829000_1 x829001_1 x829002_1 (wrap64 (1 + bt854.1))).bind fun bt857 => (spec_l08Epochs.l0 k1 (wrap64 (x4_1 + 1)) s0_0 bt854.2.1 bt854.2.2 bt857.1 bt857.2.1 bt857.2.2.1))) else (if bt835.1 = 3 then ((spec_AdvanceEpoch.f k1 x829000_1 x829001_1 x829002_1).bind fun bt865 => (spec_l08Epochs.l0 k1 (wrap64 (x4_1 + 1)) s0_0 bt835.2.1 bt835.2.2 bt865.1 bt865.2.1 bt865.2.2.1)) else ((spec_FreeNodes.f k1 x829000_1 x829001_1 x829002_1).bind fun bt873 => (spec_l08Epochs.l0 k1 (wrap64 (x4_1 + 1)) s0_0 bt835.2.1 bt835.2.2 bt873.1 bt873.2.1 bt873.2.2.1))))))) = some (r1, r2, r3, r4, r5) := H
        have A17 := Aside0.mk A170
        clear A170
        replace H := Option.bind_eq_some_iff.mp H
        obtain ⟨⟨t835, t836, t837⟩, A180, H⟩ := H
        replace H : (if t835 = 0 then ((spec_PinLook.f k1 x829000_1 x829001_1 x829002_1 t832).bind fun bt838 => (spec_l08Epochs.l0 k1 (wrap64 (x4_1 + 1)) s0_0 t836 t837 bt838.1 bt838.2.1 bt838.2.2.1)) else (if t835 = 1 then ((spec_UnpinLook.f k1 x829000_1 x829001_1 x829002_1 t832).bind fun bt846 => (spec_l08Epochs.l0 k1 (wrap64 (x4_1 + 1)) s0_0 t836 t837 bt846.1 bt846.2.1 bt846.2.2.1)) else (if t835 = 2 then ((spec_l01Below.f s0_0 t836 t837 9).bind fun bt854 => ((spec_RetireNode.f k1 x829000_1 x829001_1 x829002_1 (wrap64 (1 + bt854.1))).bind fun bt857 => (spec_l08Epochs.l0 k1 (wrap64 (x4_1 + 1)) s0_0 bt854.2.1 bt854.2.2 bt857.1 bt857.2.1 bt857.2.2.1))) else (if t835 = 3 then ((spec_AdvanceEpoch.f k1 x829000_1 x829001_1 x829002_1).bind fun bt865 => (spec_l08Epochs.l0 k1 (wrap64 (x4_1 + 1)) s0_0 t836 t837 bt865.1 bt865.2.1 bt865.2.2.1)) else ((spec_FreeNodes.f k1 x829000_1 x829001_1 x829002_1).bind fun bt873 => (spec_l08Epochs.l0 k1 (wrap64 (x4_1 + 1)) s0_0 t836 t837 bt873.1 bt873.2.1 bt873.2.2.1)))))) = some (r1, r2, r3, r4, r5) := H
        have A18 := Aside0.mk A180
        clear A180
        have HS19 := Aside0.mk H
        clear H
        go_upto_if 25 with (first | ((with_reducible refine gate_callee (f := 61) rfl ?_); refine goesL_ (some 17) rfl rfl Try.func61 (by kernel_rfl) rfl #[.pointer (some ⟨g, 0, none⟩), .int .i64 4] rfl (by (try simp only [List.map_toArray, List.map_cons, List.map_nil]); rfl) ?_; (with_reducible refine (spec_l01Below.calls g s0_0 t830 t831 4 t832 t833 t834 w0 _ ?side1 ?side2 A17.out).mono ?_); (case side1 => repeat ((with_reducible exact HI0.out))); (case side2 => repeat ((with_reducible exact HB.out))); rintro e w20 ⟨rfl, hi, hb, hk⟩; refine ⟨_, rfl, ?_⟩; have n0_ := Aside0.mk (Kd.R_mono (Kd.R_keep (IsS73.apart (show IsS73 w0 _ g s0_0 t830 t831 from by repeat ((with_reducible exact HI0.out))) (by (with_reducible repeat (first | apply Kd.R_alloc | apply Kd.R_drewN | apply Kd.R_drew )); exact HO_829001.out) (by decide)) hk (fun _ h => h.2)) (fun _ h => h.1)); have n1_ := Aside0.mk (Kd.R_mono (Kd.R_keep (IsS73.apart (show IsS73 w0 _ g s0_0 t830 t831 from by repeat ((with_reducible exact HI0.out))) (by (with_reducible repeat (first | apply Kd.R_alloc | apply Kd.R_drewN | apply Kd.R_drew )); exact HO_829002.out) (by decide)) hk (fun _ h => h.2)) (fun _ h => h.1)); have n2_ := Aside0.mk (KeepBut.blk hk (g' := gb817) (o := .cells #[.int .i64 0, .slice none 0 0, .slice none 0 0] 25 (0, 0)) (by (with_reducible repeat (first | refine blk_drewN ?_ _ | refine blk_drew ?_ | refine blk_alloc ?_ _ )); exact BK817.out) NB817_0.out (by simp)); have n3_ := Aside0.mk (KeepBut.blk hk (g' := gb828) (o := .cells #[.int .i64 x829000_1, u829001, u829002] 25 (0, 0)) (by (with_reducible repeat (first | refine blk_drewN ?_ _ | refine blk_drew ?_ | refine blk_alloc ?_ _ )); exact BK828.out) NB828_0.out (by simp)); have n4_ := Aside0.mk (KeepBut.trans (by repeat ((with_reducible exact HK.out))) hk (.inl rfl)); have n5_ := Aside0.mk (hb); have n6_ := Aside0.mk (hi); clear HO_829001; clear HO_829002; clear BK817; clear BK828; clear HK; clear HB; clear HI0; have HO_829001 := n0_; have HO_829002 := n1_; have BK817 := n2_; have BK828 := n3_; have HK := n4_; have HB := n5_; have HI0 := n6_; clear n0_ n1_ n2_ n3_ n4_ n5_ n6_; (try clear hb); (try clear hb2); (try clear hk); (try clear hi)) | ((with_reducible refine gate_callee (f := 61) rfl ?_); refine goesL_ (some 19) rfl rfl Try.func61 (by kernel_rfl) rfl #[.pointer (some ⟨g, 0, none⟩), .int .i64 5] rfl (by (try simp only [List.map_toArray, List.map_cons, List.map_nil]); rfl) ?_; (with_reducible refine (spec_l01Below.calls g s0_0 t833 t834 5 t835 t836 t837 w0 _ ?side1 ?side2 A18.out).mono ?_); (case side1 => repeat ((with_reducible exact HI0.out))); (case side2 => repeat ((with_reducible exact HB.out))); rintro e w21 ⟨rfl, hi, hb, hk⟩; refine ⟨_, rfl, ?_⟩; have n0_ := Aside0.mk (Kd.R_mono (Kd.R_keep (IsS73.apart (show IsS73 w0 _ g s0_0 t833 t834 from by repeat ((with_reducible exact HI0.out))) (by (with_reducible repeat (first | apply Kd.R_alloc | apply Kd.R_drewN | apply Kd.R_drew )); exact HO_829001.out) (by decide)) hk (fun _ h => h.2)) (fun _ h => h.1)); have n1_ := Aside0.mk (Kd.R_mono (Kd.R_keep (IsS73.apart (show IsS73 w0 _ g s0_0 t833 t834 from by repeat ((with_reducible exact HI0.out))) (by (with_reducible repeat (first | apply Kd.R_alloc | apply Kd.R_drewN | apply Kd.R_drew )); exact HO_829002.out) (by decide)) hk (fun _ h => h.2)) (fun _ h => h.1)); have n2_ := Aside0.mk (KeepBut.blk hk (g' := gb817) (o := .cells #[.int .i64 0, .slice none 0 0, .slice none 0 0] 25 (0, 0)) (by (with_reducible repeat (first | refine blk_drewN ?_ _ | refine blk_drew ?_ | refine blk_alloc ?_ _ )); exact BK817.out) NB817_0.out (by simp)); have n3_ := Aside0.mk (KeepBut.blk hk (g' := gb828) (o := .cells #[.int .i64 x829000_1, u829001, u829002] 25 (0, 0)) (by (with_reducible repeat (first | refine blk_drewN ?_ _ | refine blk_drew ?_ | refine blk_alloc ?_ _ )); exact BK828.out) NB828_0.out (by simp)); have n4_ := Aside0.mk (KeepBut.trans (by repeat ((with_reducible exact HK.out))) hk (.inl rfl)); have n5_ := Aside0.mk (hb); have n6_ := Aside0.mk (hi); clear HO_829001; clear HO_829002; clear BK817; clear BK828; clear HK; clear HB; clear HI0; have HO_829001 := n0_; have HO_829002 := n1_; have BK817 := n2_; have BK828 := n3_; have HK := n4_; have HB := n5_; have HI0 := n6_; clear n0_ n1_ n2_ n3_ n4_ n5_ n6_; (try clear hb); (try clear hb2); (try clear hk); (try clear hi)))
        (try simp only [Act.put, List.setIfInBounds_toArray, List.set_cons_zero, List.set_cons_succ])
        have H := HS19.out
        clear HS19
        by_cases c22 : t835 = 0
        · rw [if_pos c22] at H
          have c22b0 : (t835 == 0) = true := beq_iff_eq.mpr c22
          have c22b1 : (t835 != 0) = false := bne_eq_false_iff_eq.mpr c22
          clear c22
          (rw [c22b0])
          replace H := Option.bind_eq_some_iff.mp H
          obtain ⟨⟨t838, t839, t842, t845⟩, A230, H⟩ := H
          replace H : (spec_l08Epochs.l0 k1 (wrap64 (x4_1 + 1)) s0_0 t836 t837 t838 t839 t842) = some (r1, r2, r3, r4, r5) := H
          have A23 := Aside0.mk A230
          clear A230
          have H' := Aside0.mk H
          clear H
          have hnb24 := NB828_817.out
          have hnc24 := NB817_828.out
          have hnb25 := NB828_0.out
          have hnc25 := NB0_828.out
          have hcz26_0 : w21.cell? ⟨gb828, 0, none⟩ = some (.int .i64 x829000_1) := (blk_cell BK828.out 0).trans rfl
          have hcz26_1 : w21.cell? ⟨gb828, 1, none⟩ = some (u829001) := (blk_cell BK828.out 1).trans rfl
          have hcz26_2 : w21.cell? ⟨gb828, 2, none⟩ = some (u829002) := (blk_cell BK828.out 2).trans rfl
          have hfz26_0 := blk_frozen BK828.out 0
          have hfz26_1 := blk_frozen BK828.out 1
          have hfz26_2 := blk_frozen BK828.out 2
          obtain ⟨Ao27, co27, eo27⟩ := Kd.R_slice HO_829001.out
          subst eo27
          obtain ⟨Ao28, co28, eo28⟩ := Kd.R_slice HO_829002.out
          subst eo28
          go_wp2_with (((with_reducible refine gate_callee (f := 22) rfl ?_); refine goesL_ (some 30) rfl rfl Try.func22 (by kernel_rfl) rfl #[.agg #[.int .i64 x829000_1, .slice Ao27 x829001_1.length co27, .slice Ao28 x829002_1.length co28], .int .i64 t832] rfl (by (try simp only [List.map_toArray, List.map_cons, List.map_nil]); rfl) ?_; (with_reducible refine (spec_PinLook.calls k1 x829000_1 _ _ x829001_1 _ _ x829002_1 t832 t838 t839 t842 t845 _ ?side1 ?side2 ?side3 ?side4 A23.out).mono ?_); (case side1 => repeat (exact (Kd.R_reads' HO_829001.out).2.2)); (case side2 => exact (Kd.R_reads' HO_829001.out).2.1); (case side3 => repeat (exact (Kd.R_reads' HO_829002.out).2.2)); (case side4 => exact (Kd.R_reads' HO_829002.out).2.1); rintro e w29 ⟨v840, v843, rfl, ho0, ho1, hb⟩; refine ⟨_, rfl, ?_⟩; have n0_ := Aside0.mk (Kd.R_elder' (by (with_reducible repeat (first | apply Kd.R_alloc | apply Kd.R_drewN | apply Kd.R_drew )); exact HO_829001.out) (Kd.R_base ho0) hb); have n1_ := Aside0.mk (Kd.R_elder' (by (with_reducible repeat (first | apply Kd.R_alloc | apply Kd.R_drewN | apply Kd.R_drew )); exact HO_829002.out) (Kd.R_base ho1) hb); have n2_ := Aside0.mk (Kd.R_lower (Kd.R_new' ho0 (Kd.R_lt (by (with_reducible repeat (first | apply Kd.R_alloc | apply Kd.R_drewN | apply Kd.R_drew )); exact HO_829001.out))) (keep_size (w := w) (g := g) (row := none) (by repeat ((with_reducible exact HK.out))))); have n3_ := Aside0.mk (Kd.R_lower (Kd.R_new' ho1 (Kd.R_lt (by (with_reducible repeat (first | apply Kd.R_alloc | apply Kd.R_drewN | apply Kd.R_drew )); exact HO_829002.out))) (keep_size (w := w) (g := g) (row := none) (by repeat ((with_reducible exact HK.out))))); have n4_ := Aside0.mk (blk_below (g := gb817) (o := .cells #[.int .i64 0, .slice none 0 0, .slice none 0 0] 25 (0, 0)) (by (with_reducible repeat (first | refine blk_drewN ?_ _ | refine blk_drew ?_ | refine blk_alloc ?_ _ )); exact BK817.out) hb); have n5_ := Aside0.mk (blk_below (g := gb828) (o := .cells #[.int .i64 x829000_1, .slice Ao27 x829001_1.length co27, .slice Ao28 x829002_1.length co28] 25 (0, 0)) (by (with_reducible repeat (first | refine blk_drewN ?_ _ | refine blk_drew ?_ | refine blk_alloc ?_ _ )); exact BK828.out) hb); have n6_ := Aside0.mk (IsS73.below (by repeat ((with_reducible exact HI0.out))) hb); have n7_ := Aside0.mk (KeepBut.trans (by repeat ((with_reducible exact HK.out))) (KeepBut.of_below hb g none) (.inl rfl)); have n8_ := Aside0.mk (below_step (by repeat ((with_reducible exact HB.out))) hb); clear HO_829001; clear HO_829002; clear BK817; clear BK828; clear HI0; clear HK; clear HB; have HO_829001 := n0_; have HO_829002 := n1_; have HO841 := n2_; have HO844 := n3_; have BK817 := n4_; have BK828 := n5_; have HI0 := n6_; have HK := n7_; have HB := n8_; clear n0_ n1_ n2_ n3_ n4_ n5_ n6_ n7_ n8_; (try clear hb); (try clear hb2); (try clear hk); (try clear hi); (try clear ho0); (try clear ho1); have hcz30_0 : w29.cell? ⟨gb828, 0, none⟩ = some (.int .i64 x829000_1) := (blk_cell BK828.out 0).trans rfl; have hcz30_1 : w29.cell? ⟨gb828, 1, none⟩ = some (.slice Ao27 x829001_1.length co27) := (blk_cell BK828.out 1).trans rfl; have hcz30_2 : w29.cell? ⟨gb828, 2, none⟩ = some (.slice Ao28 x829002_1.length co28) := (blk_cell BK828.out 2).trans rfl; have hfz30_0 := blk_frozen BK828.out 0; have hfz30_1 := blk_frozen BK828.out 1; have hfz30_2 := blk_frozen BK828.out 2; obtain ⟨Ao31, co31, eo31⟩ := Kd.R_slice HO841.out; subst eo31; obtain ⟨Ao32, co32, eo32⟩ := Kd.R_slice HO844.out; subst eo32))
          go_roundg k1
          case measure => have := HK1.out; omega
          case rel => exact ⟨(wrap64 (x4_1 + 1)), (t836), (t837), (t838), (t839), (t842), (.slice Ao31 t839.length co31), (.slice Ao32 t842.length co32), (by rfl), H', ⟨by have := HK1.out; omega⟩, ⟨by (with_reducible repeat (first | apply Kd.R_alloc | apply Kd.R_drewN | apply Kd.R_drew )); exact Kd.R_mono (Kd.R_far (p := ⟨gb828, 2, none⟩) (Kd.R_far (p := ⟨gb828, 1, none⟩) (Kd.R_far (p := ⟨gb828, 0, none⟩) (Kd.R_types HO841.out BK828.out (by decide)) (fun _ hk => hk.2) (.int .i64 t838)) (fun _ hk => hk.2) (.slice Ao31 t839.length co31)) (fun _ hk => hk.2) (.slice Ao32 t842.length co32)) (fun _ hk => trivial)⟩, ⟨by (with_reducible repeat (first | apply Kd.R_alloc | apply Kd.R_drewN | apply Kd.R_drew )); exact Kd.R_mono (Kd.R_far (p := ⟨gb828, 2, none⟩) (Kd.R_far (p := ⟨gb828, 1, none⟩) (Kd.R_far (p := ⟨gb828, 0, none⟩) (Kd.R_types HO844.out BK828.out (by decide)) (fun _ hk => hk.2) (.int .i64 t838)) (fun _ hk => hk.2) (.slice Ao31 t839.length co31)) (fun _ hk => hk.2) (.slice Ao32 t842.length co32)) (fun _ hk => trivial)⟩, ⟨by (with_reducible repeat (first | refine blk_drewN ?_ _ | refine blk_drew ?_ | refine blk_alloc ?_ _ )); refine blk_far ?_ NB817_828.out _; (with_reducible repeat (first | refine blk_drewN ?_ _ | refine blk_drew ?_ | refine blk_alloc ?_ _ )); refine blk_far ?_ NB817_828.out _; (with_reducible repeat (first | refine blk_drewN ?_ _ | refine blk_drew ?_ | refine blk_alloc ?_ _ )); refine blk_far ?_ NB817_828.out _; (with_reducible repeat (first | refine blk_drewN ?_ _ | refine blk_drew ?_ | refine blk_alloc ?_ _ )); exact BK817.out⟩, ⟨by (with_reducible repeat (first | refine blk_drewN ?_ _ | refine blk_drew ?_ | refine blk_alloc ?_ _ )); refine blk_put (cs := #[.int .i64 t838, .slice Ao31 t839.length co31, .slice Ao28 x829002_1.length co28]) ?_ 2 _ rfl; (with_reducible repeat (first | refine blk_drewN ?_ _ | refine blk_drew ?_ | refine blk_alloc ?_ _ )); refine blk_put (cs := #[.int .i64 t838, .slice Ao27 x829001_1.length co27, .slice Ao28 x829002_1.length co28]) ?_ 1 _ rfl; (with_reducible repeat (first | refine blk_drewN ?_ _ | refine blk_drew ?_ | refine blk_alloc ?_ _ )); refine blk_put (cs := #[.int .i64 x829000_1, .slice Ao27 x829001_1.length co27, .slice Ao28 x829002_1.length co28]) ?_ 0 _ rfl; (with_reducible repeat (first | refine blk_drewN ?_ _ | refine blk_drew ?_ | refine blk_alloc ?_ _ )); exact BK828.out⟩, ⟨by repeat ((with_reducible first | exact HI0.out | refine IsS73.far ?_ NB0_828.out _))⟩, ⟨by repeat ((with_reducible first | exact HK.out | refine keep_far ?_ GW828.out _))⟩, ⟨by repeat ((with_reducible first | exact HB.out | refine below_set ?_ GE828.out))⟩⟩
        · rw [if_neg c22] at H
          have c22b0 : (t835 == 0) = false := beq_eq_false_iff_ne.mpr c22
          have c22b1 : (t835 != 0) = true := bne_iff_ne.mpr c22
          (rw [c22b0])
          by_cases c33 : t835 = 1
          · rw [if_pos c33] at H
            have c33b0 : (t835 == 1) = true := beq_iff_eq.mpr c33
            have c33b1 : (t835 != 1) = false := bne_eq_false_iff_eq.mpr c33
            clear c33
            replace H := Option.bind_eq_some_iff.mp H
            obtain ⟨⟨t846, t847, t850, t853⟩, A340, H⟩ := H
            replace H : (spec_l08Epochs.l0 k1 (wrap64 (x4_1 + 1)) s0_0 t836 t837 t846 t847 t850) = some (r1, r2, r3, r4, r5) := H
            have A34 := Aside0.mk A340
            clear A340
            have H' := Aside0.mk H
            clear H
            have hnb35 := NB828_817.out
            have hnc35 := NB817_828.out
            have hnb36 := NB828_0.out
            have hnc36 := NB0_828.out
            have hcz37_0 : w21.cell? ⟨gb828, 0, none⟩ = some (.int .i64 x829000_1) := (blk_cell BK828.out 0).trans rfl
            have hcz37_1 : w21.cell? ⟨gb828, 1, none⟩ = some (u829001) := (blk_cell BK828.out 1).trans rfl
            have hcz37_2 : w21.cell? ⟨gb828, 2, none⟩ = some (u829002) := (blk_cell BK828.out 2).trans rfl
            have hfz37_0 := blk_frozen BK828.out 0
            have hfz37_1 := blk_frozen BK828.out 1
            have hfz37_2 := blk_frozen BK828.out 2
            obtain ⟨Ao38, co38, eo38⟩ := Kd.R_slice HO_829001.out
            subst eo38
            obtain ⟨Ao39, co39, eo39⟩ := Kd.R_slice HO_829002.out
            subst eo39
            go_wp2_with (((with_reducible refine gate_callee (f := 24) rfl ?_); refine goesL_ (some 38) rfl rfl Try.func24 (by kernel_rfl) rfl #[.agg #[.int .i64 x829000_1, .slice Ao38 x829001_1.length co38, .slice Ao39 x829002_1.length co39], .int .i64 t832] rfl (by (try simp only [List.map_toArray, List.map_cons, List.map_nil]); rfl) ?_; (with_reducible refine (spec_UnpinLook.calls k1 x829000_1 _ _ x829001_1 _ _ x829002_1 t832 t846 t847 t850 t853 _ ?side1 ?side2 ?side3 ?side4 A34.out).mono ?_); (case side1 => repeat (exact (Kd.R_reads' HO_829001.out).2.2)); (case side2 => exact (Kd.R_reads' HO_829001.out).2.1); (case side3 => repeat (exact (Kd.R_reads' HO_829002.out).2.2)); (case side4 => exact (Kd.R_reads' HO_829002.out).2.1); rintro e w40 ⟨v848, v851, rfl, ho0, ho1, hb⟩; refine ⟨_, rfl, ?_⟩; have n0_ := Aside0.mk (Kd.R_elder' (by (with_reducible repeat (first | apply Kd.R_alloc | apply Kd.R_drewN | apply Kd.R_drew )); exact HO_829001.out) (Kd.R_base ho0) hb); have n1_ := Aside0.mk (Kd.R_elder' (by (with_reducible repeat (first | apply Kd.R_alloc | apply Kd.R_drewN | apply Kd.R_drew )); exact HO_829002.out) (Kd.R_base ho1) hb); have n2_ := Aside0.mk (Kd.R_lower (Kd.R_new' ho0 (Kd.R_lt (by (with_reducible repeat (first | apply Kd.R_alloc | apply Kd.R_drewN | apply Kd.R_drew )); exact HO_829001.out))) (keep_size (w := w) (g := g) (row := none) (by repeat ((with_reducible exact HK.out))))); have n3_ := Aside0.mk (Kd.R_lower (Kd.R_new' ho1 (Kd.R_lt (by (with_reducible repeat (first | apply Kd.R_alloc | apply Kd.R_drewN | apply Kd.R_drew )); exact HO_829002.out))) (keep_size (w := w) (g := g) (row := none) (by repeat ((with_reducible exact HK.out))))); have n4_ := Aside0.mk (blk_below (g := gb817) (o := .cells #[.int .i64 0, .slice none 0 0, .slice none 0 0] 25 (0, 0)) (by (with_reducible repeat (first | refine blk_drewN ?_ _ | refine blk_drew ?_ | refine blk_alloc ?_ _ )); exact BK817.out) hb); have n5_ := Aside0.mk (blk_below (g := gb828) (o := .cells #[.int .i64 x829000_1, .slice Ao38 x829001_1.length co38, .slice Ao39 x829002_1.length co39] 25 (0, 0)) (by (with_reducible repeat (first | refine blk_drewN ?_ _ | refine blk_drew ?_ | refine blk_alloc ?_ _ )); exact BK828.out) hb); have n6_ := Aside0.mk (IsS73.below (by repeat ((with_reducible exact HI0.out))) hb); have n7_ := Aside0.mk (KeepBut.trans (by repeat ((with_reducible exact HK.out))) (KeepBut.of_below hb g none) (.inl rfl)); have n8_ := Aside0.mk (below_step (by repeat ((with_reducible exact HB.out))) hb); clear HO_829001; clear HO_829002; clear BK817; clear BK828; clear HI0; clear HK; clear HB; have HO_829001 := n0_; have HO_829002 := n1_; have HO849 := n2_; have HO852 := n3_; have BK817 := n4_; have BK828 := n5_; have HI0 := n6_; have HK := n7_; have HB := n8_; clear n0_ n1_ n2_ n3_ n4_ n5_ n6_ n7_ n8_; (try clear hb); (try clear hb2); (try clear hk); (try clear hi); (try clear ho0); (try clear ho1); have hcz41_0 : w40.cell? ⟨gb828, 0, none⟩ = some (.int .i64 x829000_1) := (blk_cell BK828.out 0).trans rfl; have hcz41_1 : w40.cell? ⟨gb828, 1, none⟩ = some (.slice Ao38 x829001_1.length co38) := (blk_cell BK828.out 1).trans rfl; have hcz41_2 : w40.cell? ⟨gb828, 2, none⟩ = some (.slice Ao39 x829002_1.length co39) := (blk_cell BK828.out 2).trans rfl; have hfz41_0 := blk_frozen BK828.out 0; have hfz41_1 := blk_frozen BK828.out 1; have hfz41_2 := blk_frozen BK828.out 2; obtain ⟨Ao42, co42, eo42⟩ := Kd.R_slice HO849.out; subst eo42; obtain ⟨Ao43, co43, eo43⟩ := Kd.R_slice HO852.out; subst eo43))
            go_roundg k1
            case measure => have := HK1.out; omega
            case rel => exact ⟨(wrap64 (x4_1 + 1)), (t836), (t837), (t846), (t847), (t850), (.slice Ao42 t847.length co42), (.slice Ao43 t850.length co43), (by rfl), H', ⟨by have := HK1.out; omega⟩, ⟨by (with_reducible repeat (first | apply Kd.R_alloc | apply Kd.R_drewN | apply Kd.R_drew )); exact Kd.R_mono (Kd.R_far (p := ⟨gb828, 2, none⟩) (Kd.R_far (p := ⟨gb828, 1, none⟩) (Kd.R_far (p := ⟨gb828, 0, none⟩) (Kd.R_types HO849.out BK828.out (by decide)) (fun _ hk => hk.2) (.int .i64 t846)) (fun _ hk => hk.2) (.slice Ao42 t847.length co42)) (fun _ hk => hk.2) (.slice Ao43 t850.length co43)) (fun _ hk => trivial)⟩, ⟨by (with_reducible repeat (first | apply Kd.R_alloc | apply Kd.R_drewN | apply Kd.R_drew )); exact Kd.R_mono (Kd.R_far (p := ⟨gb828, 2, none⟩) (Kd.R_far (p := ⟨gb828, 1, none⟩) (Kd.R_far (p := ⟨gb828, 0, none⟩) (Kd.R_types HO852.out BK828.out (by decide)) (fun _ hk => hk.2) (.int .i64 t846)) (fun _ hk => hk.2) (.slice Ao42 t847.length co42)) (fun _ hk => hk.2) (.slice Ao43 t850.length co43)) (fun _ hk => trivial)⟩, ⟨by (with_reducible repeat (first | refine blk_drewN ?_ _ | refine blk_drew ?_ | refine blk_alloc ?_ _ )); refine blk_far ?_ NB817_828.out _; (with_reducible repeat (first | refine blk_drewN ?_ _ | refine blk_drew ?_ | refine blk_alloc ?_ _ )); refine blk_far ?_ NB817_828.out _; (with_reducible repeat (first | refine blk_drewN ?_ _ | refine blk_drew ?_ | refine blk_alloc ?_ _ )); refine blk_far ?_ NB817_828.out _; (with_reducible repeat (first | refine blk_drewN ?_ _ | refine blk_drew ?_ | refine blk_alloc ?_ _ )); exact BK817.out⟩, ⟨by (with_reducible repeat (first | refine blk_drewN ?_ _ | refine blk_drew ?_ | refine blk_alloc ?_ _ )); refine blk_put (cs := #[.int .i64 t846, .slice Ao42 t847.length co42, .slice Ao39 x829002_1.length co39]) ?_ 2 _ rfl; (with_reducible repeat (first | refine blk_drewN ?_ _ | refine blk_drew ?_ | refine blk_alloc ?_ _ )); refine blk_put (cs := #[.int .i64 t846, .slice Ao38 x829001_1.length co38, .slice Ao39 x829002_1.length co39]) ?_ 1 _ rfl; (with_reducible repeat (first | refine blk_drewN ?_ _ | refine blk_drew ?_ | refine blk_alloc ?_ _ )); refine blk_put (cs := #[.int .i64 x829000_1, .slice Ao38 x829001_1.length co38, .slice Ao39 x829002_1.length co39]) ?_ 0 _ rfl; (with_reducible repeat (first | refine blk_drewN ?_ _ | refine blk_drew ?_ | refine blk_alloc ?_ _ )); exact BK828.out⟩, ⟨by repeat ((with_reducible first | exact HI0.out | refine IsS73.far ?_ NB0_828.out _))⟩, ⟨by repeat ((with_reducible first | exact HK.out | refine keep_far ?_ GW828.out _))⟩, ⟨by repeat ((with_reducible first | exact HB.out | refine below_set ?_ GE828.out))⟩⟩
          · rw [if_neg c33] at H
            have c33b0 : (t835 == 1) = false := beq_eq_false_iff_ne.mpr c33
            have c33b1 : (t835 != 1) = true := bne_iff_ne.mpr c33
            by_cases c44 : t835 = 2
            · rw [if_pos c44] at H
              have c44b0 : (t835 == 2) = true := beq_iff_eq.mpr c44
              have c44b1 : (t835 != 2) = false := bne_eq_false_iff_eq.mpr c44
              clear c44
              replace H := Option.bind_eq_some_iff.mp H
              obtain ⟨⟨t854, t855, t856⟩, A450, H⟩ := H
              replace H : ((spec_RetireNode.f k1 x829000_1 x829001_1 x829002_1 (wrap64 (1 + t854))).bind fun bt857 => (spec_l08Epochs.l0 k1 (wrap64 (x4_1 + 1)) s0_0 t855 t856 bt857.1 bt857.2.1 bt857.2.2.1)) = some (r1, r2, r3, r4, r5) := H
              have A45 := Aside0.mk A450
              clear A450
              replace H := Option.bind_eq_some_iff.mp H
              obtain ⟨⟨t857, t858, t861, t864⟩, A460, H⟩ := H
              replace H : (spec_l08Epochs.l0 k1 (wrap64 (x4_1 + 1)) s0_0 t855 t856 t857 t858 t861) = some (r1, r2, r3, r4, r5) := H
              have A46 := Aside0.mk A460
              clear A460
              have H' := Aside0.mk H
              clear H
              go_wp2
              have n0_ := Aside0.mk (Kd.R_drew HO_829001.out)
              have n1_ := Aside0.mk (Kd.R_drew HO_829002.out)
              have n2_ := Aside0.mk (blk_drew BK817.out)
              have n3_ := Aside0.mk (blk_drew BK828.out)
              have n4_ := Aside0.mk (IsS73.drew HI0.out)
              have n5_ := Aside0.mk (keep_drew HK.out)
              have n6_ := Aside0.mk (below_drew1 HB.out)
              clear HO_829001
              clear HO_829002
              clear BK817
              clear BK828
              clear HI0
              clear HK
              clear HB
              have HO_829001 := n0_
              have HO_829002 := n1_
              have BK817 := n2_
              have BK828 := n3_
              have HI0 := n4_
              have HK := n5_
              have HB := n6_
              clear n0_ n1_ n2_ n3_ n4_ n5_ n6_
              refine start_ (n := 9) (S := fun w' => w'.cell? ⟨gb828, 0, none⟩ = some (.int .i64 x829000_1) ∧ w'.cell? ⟨gb828, 1, none⟩ = some (u829001) ∧ w'.cell? ⟨gb828, 2, none⟩ = some (u829002)) (ds := [8]) #[false, false, false, false, false, false, false, false, false] (by kernel_rfl) rfl rfl ⟨(blk_cell BK828.out 0).trans rfl, (blk_cell BK828.out 1).trans rfl, (blk_cell BK828.out 2).trans rfl⟩ (fun hHeld => ?_); refine with_tabW spec_l08Epochs.tab13 spec_l08Epochs.bits13 (fun HT_ HW_ => ?_)
              generalize w21.drew = w47 at HO_829001 HO_829002 BK817 BK828 HI0 HK HB hHeld ⊢
              refine pure_ (i := 1) (N := some 45) (v := ?_) (a' := ?_) #[false, true, false, false, false, false, false, false, false] rfl rfl (any_of HT_.out (by kernel_rfl)) (fun _ _ _ h => h) (Or.inl ⟨by rfl, ?_⟩) ?_ ?_
              rotate_left
              · intro w'
                go_simp
                with_reducible rfl
              rotate_left
              · simp only [Act.put, List.setIfInBounds_toArray, List.set_cons_zero, List.set_cons_succ, i64_w, i32_w]
                rfl
              refine take_ (i := 0) (N := some 44) (v := ?_) (a' := ?_) #[true, true, false, false, false, false, false, false, false] rfl rfl (take_ofW HT_.out HW_.out (by kernel_rfl)) (fun _ _ _ h => h) (Or.inl ⟨by rfl, ?_⟩) hHeld ?_ ?_
              rotate_left
              · rintro w' ⟨s0, s1, s2⟩
                go_simp
                with_reducible rfl
              rotate_left
              · simp only [Act.put, List.setIfInBounds_toArray, List.set_cons_zero, List.set_cons_succ, i64_w, i32_w]
                rfl
              refine one_ (i := 2) (N := some 46) #[true, true, true, false, false, false, false, false, false] rfl rfl (one_of HT_.out (by kernel_rfl)) (by decide) (fun K hK => ?_)
              refine goes_ Try.func61 (by kernel_rfl) rfl #[.pointer (some ⟨g, 0, none⟩), .int .i64 9] (by rfl) rfl rfl (by (try simp only [List.map_toArray, List.map_cons, List.map_nil]); rfl) ?_
              with_reducible refine (spec_l01Below.calls g s0_0 t836 t837 9 t854 t855 t856 w0 _ ?side1 ?side2 A45.out).mono ?_
              (case side1 => repeat ((with_reducible exact HI0.out)))
              (case side2 => repeat ((with_reducible exact HB.out)))
              rintro e w48 ⟨rfl, hi, hb, hk⟩
              refine ⟨_, rfl, ?_⟩
              have n0_ := Aside0.mk (Kd.R_mono (Kd.R_keep (IsS73.apart (show IsS73 w0 _ g s0_0 t836 t837 from by repeat ((with_reducible exact HI0.out))) (by (with_reducible repeat (first | apply Kd.R_alloc | apply Kd.R_drewN | apply Kd.R_drew )); exact HO_829001.out) (by decide)) hk (fun _ h => h.2)) (fun _ h => h.1))
              have n1_ := Aside0.mk (Kd.R_mono (Kd.R_keep (IsS73.apart (show IsS73 w0 _ g s0_0 t836 t837 from by repeat ((with_reducible exact HI0.out))) (by (with_reducible repeat (first | apply Kd.R_alloc | apply Kd.R_drewN | apply Kd.R_drew )); exact HO_829002.out) (by decide)) hk (fun _ h => h.2)) (fun _ h => h.1))
              have n2_ := Aside0.mk (KeepBut.blk hk (g' := gb817) (o := .cells #[.int .i64 0, .slice none 0 0, .slice none 0 0] 25 (0, 0)) (by (with_reducible repeat (first | refine blk_drewN ?_ _ | refine blk_drew ?_ | refine blk_alloc ?_ _ )); exact BK817.out) NB817_0.out (by simp))
              have n3_ := Aside0.mk (KeepBut.blk hk (g' := gb828) (o := .cells #[.int .i64 x829000_1, u829001, u829002] 25 (0, 0)) (by (with_reducible repeat (first | refine blk_drewN ?_ _ | refine blk_drew ?_ | refine blk_alloc ?_ _ )); exact BK828.out) NB828_0.out (by simp))
              have n4_ := Aside0.mk (KeepBut.trans (by repeat ((with_reducible exact HK.out))) hk (.inl rfl))
              have n5_ := Aside0.mk (hb)
              have n6_ := Aside0.mk (hi)
              clear HO_829001
              clear HO_829002
              clear BK817
              clear BK828
              clear HK
              clear HB
              clear HI0
              have HO_829001 := n0_
              have HO_829002 := n1_
              have BK817 := n2_
              have BK828 := n3_
              have HK := n4_
              have HB := n5_
              have HI0 := n6_
              clear n0_ n1_ n2_ n3_ n4_ n5_ n6_
              (try clear hb)
              (try clear hb2)
              (try clear hk)
              (try clear hi)
              obtain ⟨Ao49, co49, eo49⟩ := Kd.R_slice HO_829001.out
              (subst eo49)
              obtain ⟨Ao50, co50, eo50⟩ := Kd.R_slice HO_829002.out
              (subst eo50)
              refine hK.out _ _ ⟨(blk_cell BK828.out 0).trans rfl, (blk_cell BK828.out 1).trans rfl, (blk_cell BK828.out 2).trans rfl⟩ (fun hHeld => ?_)
              clear hK K
              refine norm_ (a' := ?_) ?_ ?_
              rotate_left
              · show Act.put _ (some 46) _ = _
                simp only [Act.put, List.setIfInBounds_toArray, List.set_cons_zero, List.set_cons_succ, i64_w, i32_w]
                rfl
              refine pure_ (i := 3) (N := some 47) (v := ?_) (a' := ?_) #[true, true, true, true, false, false, false, false, false] rfl rfl (any_of HT_.out (by kernel_rfl)) (fun _ _ _ h => h) (Or.inl ⟨by rfl, ?_⟩) ?_ ?_
              rotate_left
              · intro w'
                go_simp
                with_reducible rfl
              rotate_left
              · simp only [Act.put, List.setIfInBounds_toArray, List.set_cons_zero, List.set_cons_succ, i64_w, i32_w]
                rfl
              refine one_ (i := 4) (N := some 48) #[true, true, true, true, true, false, false, false, false] rfl rfl (one_of HT_.out (by kernel_rfl)) (by decide) (fun K hK => ?_)
              refine goes_ Try.func33 (by kernel_rfl) rfl #[.agg #[.int .i64 x829000_1, .slice Ao49 x829001_1.length co49, .slice Ao50 x829002_1.length co50], .int .i64 (wrap64 (1 + t854))] (by rfl) rfl rfl (by (try simp only [List.map_toArray, List.map_cons, List.map_nil]); rfl) ?_
              with_reducible refine (spec_RetireNode.calls k1 x829000_1 _ _ x829001_1 _ _ x829002_1 (wrap64 (1 + t854)) t857 t858 t861 t864 _ ?side1 ?side2 ?side3 ?side4 A46.out).mono ?_
              (case side1 => repeat (exact (Kd.R_reads' HO_829001.out).2.2))
              (case side2 => exact (Kd.R_reads' HO_829001.out).2.1)
              (case side3 => repeat (exact (Kd.R_reads' HO_829002.out).2.2))
              (case side4 => exact (Kd.R_reads' HO_829002.out).2.1)
              rintro e w51 ⟨v859, v862, rfl, ho0, ho1, hb⟩
              refine ⟨_, rfl, ?_⟩
              have n0_ := Aside0.mk (Kd.R_elder' (by (with_reducible repeat (first | apply Kd.R_alloc | apply Kd.R_drewN | apply Kd.R_drew )); exact HO_829001.out) (Kd.R_base ho0) hb)
              have n1_ := Aside0.mk (Kd.R_elder' (by (with_reducible repeat (first | apply Kd.R_alloc | apply Kd.R_drewN | apply Kd.R_drew )); exact HO_829002.out) (Kd.R_base ho1) hb)
              have n2_ := Aside0.mk (Kd.R_lower (Kd.R_new' ho0 (Kd.R_lt (by (with_reducible repeat (first | apply Kd.R_alloc | apply Kd.R_drewN | apply Kd.R_drew )); exact HO_829001.out))) (keep_size (w := w) (g := g) (row := none) (by repeat ((with_reducible exact HK.out)))))
              have n3_ := Aside0.mk (Kd.R_lower (Kd.R_new' ho1 (Kd.R_lt (by (with_reducible repeat (first | apply Kd.R_alloc | apply Kd.R_drewN | apply Kd.R_drew )); exact HO_829002.out))) (keep_size (w := w) (g := g) (row := none) (by repeat ((with_reducible exact HK.out)))))
              have n4_ := Aside0.mk (blk_below (g := gb817) (o := .cells #[.int .i64 0, .slice none 0 0, .slice none 0 0] 25 (0, 0)) (by (with_reducible repeat (first | refine blk_drewN ?_ _ | refine blk_drew ?_ | refine blk_alloc ?_ _ )); exact BK817.out) hb)
              have n5_ := Aside0.mk (blk_below (g := gb828) (o := .cells #[.int .i64 x829000_1, .slice Ao49 x829001_1.length co49, .slice Ao50 x829002_1.length co50] 25 (0, 0)) (by (with_reducible repeat (first | refine blk_drewN ?_ _ | refine blk_drew ?_ | refine blk_alloc ?_ _ )); exact BK828.out) hb)
              have n6_ := Aside0.mk (IsS73.below (by repeat ((with_reducible exact HI0.out))) hb)
              have n7_ := Aside0.mk (KeepBut.trans (by repeat ((with_reducible exact HK.out))) (KeepBut.of_below hb g none) (.inl rfl))
              have n8_ := Aside0.mk (below_step (by repeat ((with_reducible exact HB.out))) hb)
              clear HO_829001
              clear HO_829002
              clear BK817
              clear BK828
              clear HI0
              clear HK
              clear HB
              have HO_829001 := n0_
              have HO_829002 := n1_
              have HO860 := n2_
              have HO863 := n3_
              have BK817 := n4_
              have BK828 := n5_
              have HI0 := n6_
              have HK := n7_
              have HB := n8_
              clear n0_ n1_ n2_ n3_ n4_ n5_ n6_ n7_ n8_
              (try clear hb)
              (try clear hb2)
              (try clear hk)
              (try clear hi)
              (try clear ho0)
              (try clear ho1)
              obtain ⟨Ao53, co53, eo53⟩ := Kd.R_slice HO860.out
              (subst eo53)
              obtain ⟨Ao55, co55, eo55⟩ := Kd.R_slice HO863.out
              (subst eo55)
              refine hK.out _ _ ⟨(blk_cell BK828.out 0).trans rfl, (blk_cell BK828.out 1).trans rfl, (blk_cell BK828.out 2).trans rfl⟩ (fun hHeld => ?_)
              clear hK K
              refine norm_ (a' := ?_) ?_ ?_
              rotate_left
              · show Act.put _ (some 48) _ = _
                simp only [Act.put, List.setIfInBounds_toArray, List.set_cons_zero, List.set_cons_succ, i64_w, i32_w]
                rfl
              refine pure_ (i := 5) (N := some 43) (v := ?_) (a' := ?_) #[true, true, true, true, true, true, false, false, false] rfl rfl (any_of HT_.out (by kernel_rfl)) (fun _ _ _ h => h) (Or.inl ⟨by rfl, ?_⟩) ?_ ?_
              rotate_left
              · intro w'
                go_simp
                with_reducible rfl
              rotate_left
              · simp only [Act.put, List.setIfInBounds_toArray, List.set_cons_zero, List.set_cons_succ, i64_w, i32_w]
                rfl
              refine pure_ (i := 6) (N := some 49) (v := ?_) (a' := ?_) #[true, true, true, true, true, true, true, false, false] rfl rfl (any_of HT_.out (by kernel_rfl)) (fun _ _ _ h => h) (Or.inl ⟨by rfl, ?_⟩) ?_ ?_
              rotate_left
              · intro w'
                go_simp
                with_reducible rfl
              rotate_left
              · simp only [Act.put, List.setIfInBounds_toArray, List.set_cons_zero, List.set_cons_succ, i64_w, i32_w]
                rfl
              refine pure_ (i := 7) (N := some 50) (v := ?_) (a' := ?_) #[true, true, true, true, true, true, true, true, false] rfl rfl (any_of HT_.out (by kernel_rfl)) (fun _ _ _ h => h) (Or.inl ⟨by rfl, ?_⟩) ?_ ?_
              rotate_left
              · intro w'
                go_simp
                with_reducible rfl
              rotate_left
              · simp only [Act.put, List.setIfInBounds_toArray, List.set_cons_zero, List.set_cons_succ, i64_w, i32_w]
                rfl
              refine last_ (i := 8) (N := none) #[true, true, true, true, true, true, true, true, true] rfl rfl (one_of HT_.out (by kernel_rfl)) (by decide) (fun K hK => ?_)
              have hs52 : w51.cell? ⟨gb828, 0, none⟩ = some (.int .i64 x829000_1) := (blk_cell BK828.out 0).trans rfl
              have hfs52 := blk_frozen BK828.out 0
              have hns52_0 := NB817_828.out
              have hms52_0 := NB828_817.out
              have hs54 : w51.cell? ⟨gb828, 1, none⟩ = some (.slice Ao49 x829001_1.length co49) := (blk_cell BK828.out 1).trans rfl
              have hfs54 := blk_frozen BK828.out 1
              have hns54_0 := NB817_828.out
              have hms54_0 := NB828_817.out
              have hs56 : w51.cell? ⟨gb828, 2, none⟩ = some (.slice Ao50 x829002_1.length co50) := (blk_cell BK828.out 2).trans rfl
              have hfs56 := blk_frozen BK828.out 2
              have hns56_0 := NB817_828.out
              have hms56_0 := NB828_817.out
              refine skip_ (w1 := ?_) (by rfl) rfl ?_ ?_
              rotate_left
              · go_simp
                rfl
              refine hK.out _ _ ?_
              clear hK K
              refine done_ (done_of HT_.out (by kernel_rfl)) ?_
              go_wp2
              go_roundg k1
              case measure => have := HK1.out; omega
              case rel => exact ⟨(wrap64 (x4_1 + 1)), (t855), (t856), (t857), (t858), (t861), (.slice Ao53 t858.length co53), (.slice Ao55 t861.length co55), (by rfl), H', ⟨by have := HK1.out; omega⟩, ⟨by (with_reducible repeat (first | apply Kd.R_alloc | apply Kd.R_drewN | apply Kd.R_drew )); exact Kd.R_mono (Kd.R_far (p := ⟨gb828, 2, none⟩) (Kd.R_far (p := ⟨gb828, 1, none⟩) (Kd.R_far (p := ⟨gb828, 0, none⟩) (Kd.R_types HO860.out BK828.out (by decide)) (fun _ hk => hk.2) (.int .i64 t857)) (fun _ hk => hk.2) (.slice Ao53 t858.length co53)) (fun _ hk => hk.2) (.slice Ao55 t861.length co55)) (fun _ hk => trivial)⟩, ⟨by (with_reducible repeat (first | apply Kd.R_alloc | apply Kd.R_drewN | apply Kd.R_drew )); exact Kd.R_mono (Kd.R_far (p := ⟨gb828, 2, none⟩) (Kd.R_far (p := ⟨gb828, 1, none⟩) (Kd.R_far (p := ⟨gb828, 0, none⟩) (Kd.R_types HO863.out BK828.out (by decide)) (fun _ hk => hk.2) (.int .i64 t857)) (fun _ hk => hk.2) (.slice Ao53 t858.length co53)) (fun _ hk => hk.2) (.slice Ao55 t861.length co55)) (fun _ hk => trivial)⟩, ⟨by (with_reducible repeat (first | refine blk_drewN ?_ _ | refine blk_drew ?_ | refine blk_alloc ?_ _ )); refine blk_far ?_ NB817_828.out _; (with_reducible repeat (first | refine blk_drewN ?_ _ | refine blk_drew ?_ | refine blk_alloc ?_ _ )); refine blk_far ?_ NB817_828.out _; (with_reducible repeat (first | refine blk_drewN ?_ _ | refine blk_drew ?_ | refine blk_alloc ?_ _ )); refine blk_far ?_ NB817_828.out _; (with_reducible repeat (first | refine blk_drewN ?_ _ | refine blk_drew ?_ | refine blk_alloc ?_ _ )); exact BK817.out⟩, ⟨by (with_reducible repeat (first | refine blk_drewN ?_ _ | refine blk_drew ?_ | refine blk_alloc ?_ _ )); refine blk_put (cs := #[.int .i64 t857, .slice Ao53 t858.length co53, .slice Ao50 x829002_1.length co50]) ?_ 2 _ rfl; (with_reducible repeat (first | refine blk_drewN ?_ _ | refine blk_drew ?_ | refine blk_alloc ?_ _ )); refine blk_put (cs := #[.int .i64 t857, .slice Ao49 x829001_1.length co49, .slice Ao50 x829002_1.length co50]) ?_ 1 _ rfl; (with_reducible repeat (first | refine blk_drewN ?_ _ | refine blk_drew ?_ | refine blk_alloc ?_ _ )); refine blk_put (cs := #[.int .i64 x829000_1, .slice Ao49 x829001_1.length co49, .slice Ao50 x829002_1.length co50]) ?_ 0 _ rfl; (with_reducible repeat (first | refine blk_drewN ?_ _ | refine blk_drew ?_ | refine blk_alloc ?_ _ )); exact BK828.out⟩, ⟨by repeat ((with_reducible first | exact HI0.out | refine IsS73.far ?_ NB0_828.out _))⟩, ⟨by repeat ((with_reducible first | exact HK.out | refine keep_far ?_ GW828.out _))⟩, ⟨by repeat ((with_reducible first | exact HB.out | refine below_set ?_ GE828.out))⟩⟩
            · rw [if_neg c44] at H
              have c44b0 : (t835 == 2) = false := beq_eq_false_iff_ne.mpr c44
              have c44b1 : (t835 != 2) = true := bne_iff_ne.mpr c44
              by_cases c57 : t835 = 3
              · rw [if_pos c57] at H
                have c57b0 : (t835 == 3) = true := beq_iff_eq.mpr c57
                have c57b1 : (t835 != 3) = false := bne_eq_false_iff_eq.mpr c57
                clear c57
                replace H := Option.bind_eq_some_iff.mp H
                obtain ⟨⟨t865, t866, t869, t872⟩, A580, H⟩ := H
                replace H : (spec_l08Epochs.l0 k1 (wrap64 (x4_1 + 1)) s0_0 t836 t837 t865 t866 t869) = some (r1, r2, r3, r4, r5) := H
                have A58 := Aside0.mk A580
                clear A580
                have H' := Aside0.mk H
                clear H
                have hnb59 := NB828_817.out
                have hnc59 := NB817_828.out
                have hnb60 := NB828_0.out
                have hnc60 := NB0_828.out
                have hcz61_0 : w21.cell? ⟨gb828, 0, none⟩ = some (.int .i64 x829000_1) := (blk_cell BK828.out 0).trans rfl
                have hcz61_1 : w21.cell? ⟨gb828, 1, none⟩ = some (u829001) := (blk_cell BK828.out 1).trans rfl
                have hcz61_2 : w21.cell? ⟨gb828, 2, none⟩ = some (u829002) := (blk_cell BK828.out 2).trans rfl
                have hfz61_0 := blk_frozen BK828.out 0
                have hfz61_1 := blk_frozen BK828.out 1
                have hfz61_2 := blk_frozen BK828.out 2
                obtain ⟨Ao62, co62, eo62⟩ := Kd.R_slice HO_829001.out
                subst eo62
                obtain ⟨Ao63, co63, eo63⟩ := Kd.R_slice HO_829002.out
                subst eo63
                go_wp2_with (((with_reducible refine gate_callee (f := 31) rfl ?_); refine goesL_ (some 55) rfl rfl Try.func31 (by kernel_rfl) rfl #[.agg #[.int .i64 x829000_1, .slice Ao62 x829001_1.length co62, .slice Ao63 x829002_1.length co63]] rfl (by (try simp only [List.map_toArray, List.map_cons, List.map_nil]); rfl) ?_; (with_reducible refine (spec_AdvanceEpoch.calls k1 x829000_1 _ _ x829001_1 _ _ x829002_1 t865 t866 t869 t872 _ ?side1 ?side2 ?side3 ?side4 A58.out).mono ?_); (case side1 => repeat (exact (Kd.R_reads' HO_829001.out).2.2)); (case side2 => exact (Kd.R_reads' HO_829001.out).2.1); (case side3 => repeat (exact (Kd.R_reads' HO_829002.out).2.2)); (case side4 => exact (Kd.R_reads' HO_829002.out).2.1); rintro e w64 ⟨v867, v870, rfl, ho0, ho1, hb⟩; refine ⟨_, rfl, ?_⟩; have n0_ := Aside0.mk (Kd.R_elder' (by (with_reducible repeat (first | apply Kd.R_alloc | apply Kd.R_drewN | apply Kd.R_drew )); exact HO_829001.out) (Kd.R_base ho0) hb); have n1_ := Aside0.mk (Kd.R_elder' (by (with_reducible repeat (first | apply Kd.R_alloc | apply Kd.R_drewN | apply Kd.R_drew )); exact HO_829002.out) (Kd.R_base ho1) hb); have n2_ := Aside0.mk (Kd.R_lower (Kd.R_new' ho0 (Kd.R_lt (by (with_reducible repeat (first | apply Kd.R_alloc | apply Kd.R_drewN | apply Kd.R_drew )); exact HO_829001.out))) (keep_size (w := w) (g := g) (row := none) (by repeat ((with_reducible exact HK.out))))); have n3_ := Aside0.mk (Kd.R_lower (Kd.R_new' ho1 (Kd.R_lt (by (with_reducible repeat (first | apply Kd.R_alloc | apply Kd.R_drewN | apply Kd.R_drew )); exact HO_829002.out))) (keep_size (w := w) (g := g) (row := none) (by repeat ((with_reducible exact HK.out))))); have n4_ := Aside0.mk (blk_below (g := gb817) (o := .cells #[.int .i64 0, .slice none 0 0, .slice none 0 0] 25 (0, 0)) (by (with_reducible repeat (first | refine blk_drewN ?_ _ | refine blk_drew ?_ | refine blk_alloc ?_ _ )); exact BK817.out) hb); have n5_ := Aside0.mk (blk_below (g := gb828) (o := .cells #[.int .i64 x829000_1, .slice Ao62 x829001_1.length co62, .slice Ao63 x829002_1.length co63] 25 (0, 0)) (by (with_reducible repeat (first | refine blk_drewN ?_ _ | refine blk_drew ?_ | refine blk_alloc ?_ _ )); exact BK828.out) hb); have n6_ := Aside0.mk (IsS73.below (by repeat ((with_reducible exact HI0.out))) hb); have n7_ := Aside0.mk (KeepBut.trans (by repeat ((with_reducible exact HK.out))) (KeepBut.of_below hb g none) (.inl rfl)); have n8_ := Aside0.mk (below_step (by repeat ((with_reducible exact HB.out))) hb); clear HO_829001; clear HO_829002; clear BK817; clear BK828; clear HI0; clear HK; clear HB; have HO_829001 := n0_; have HO_829002 := n1_; have HO868 := n2_; have HO871 := n3_; have BK817 := n4_; have BK828 := n5_; have HI0 := n6_; have HK := n7_; have HB := n8_; clear n0_ n1_ n2_ n3_ n4_ n5_ n6_ n7_ n8_; (try clear hb); (try clear hb2); (try clear hk); (try clear hi); (try clear ho0); (try clear ho1); have hcz65_0 : w64.cell? ⟨gb828, 0, none⟩ = some (.int .i64 x829000_1) := (blk_cell BK828.out 0).trans rfl; have hcz65_1 : w64.cell? ⟨gb828, 1, none⟩ = some (.slice Ao62 x829001_1.length co62) := (blk_cell BK828.out 1).trans rfl; have hcz65_2 : w64.cell? ⟨gb828, 2, none⟩ = some (.slice Ao63 x829002_1.length co63) := (blk_cell BK828.out 2).trans rfl; have hfz65_0 := blk_frozen BK828.out 0; have hfz65_1 := blk_frozen BK828.out 1; have hfz65_2 := blk_frozen BK828.out 2; obtain ⟨Ao66, co66, eo66⟩ := Kd.R_slice HO868.out; subst eo66; obtain ⟨Ao67, co67, eo67⟩ := Kd.R_slice HO871.out; subst eo67))
                go_roundg k1
                case measure => have := HK1.out; omega
                case rel => exact ⟨(wrap64 (x4_1 + 1)), (t836), (t837), (t865), (t866), (t869), (.slice Ao66 t866.length co66), (.slice Ao67 t869.length co67), (by rfl), H', ⟨by have := HK1.out; omega⟩, ⟨by (with_reducible repeat (first | apply Kd.R_alloc | apply Kd.R_drewN | apply Kd.R_drew )); exact Kd.R_mono (Kd.R_far (p := ⟨gb828, 2, none⟩) (Kd.R_far (p := ⟨gb828, 1, none⟩) (Kd.R_far (p := ⟨gb828, 0, none⟩) (Kd.R_types HO868.out BK828.out (by decide)) (fun _ hk => hk.2) (.int .i64 t865)) (fun _ hk => hk.2) (.slice Ao66 t866.length co66)) (fun _ hk => hk.2) (.slice Ao67 t869.length co67)) (fun _ hk => trivial)⟩, ⟨by (with_reducible repeat (first | apply Kd.R_alloc | apply Kd.R_drewN | apply Kd.R_drew )); exact Kd.R_mono (Kd.R_far (p := ⟨gb828, 2, none⟩) (Kd.R_far (p := ⟨gb828, 1, none⟩) (Kd.R_far (p := ⟨gb828, 0, none⟩) (Kd.R_types HO871.out BK828.out (by decide)) (fun _ hk => hk.2) (.int .i64 t865)) (fun _ hk => hk.2) (.slice Ao66 t866.length co66)) (fun _ hk => hk.2) (.slice Ao67 t869.length co67)) (fun _ hk => trivial)⟩, ⟨by (with_reducible repeat (first | refine blk_drewN ?_ _ | refine blk_drew ?_ | refine blk_alloc ?_ _ )); refine blk_far ?_ NB817_828.out _; (with_reducible repeat (first | refine blk_drewN ?_ _ | refine blk_drew ?_ | refine blk_alloc ?_ _ )); refine blk_far ?_ NB817_828.out _; (with_reducible repeat (first | refine blk_drewN ?_ _ | refine blk_drew ?_ | refine blk_alloc ?_ _ )); refine blk_far ?_ NB817_828.out _; (with_reducible repeat (first | refine blk_drewN ?_ _ | refine blk_drew ?_ | refine blk_alloc ?_ _ )); exact BK817.out⟩, ⟨by (with_reducible repeat (first | refine blk_drewN ?_ _ | refine blk_drew ?_ | refine blk_alloc ?_ _ )); refine blk_put (cs := #[.int .i64 t865, .slice Ao66 t866.length co66, .slice Ao63 x829002_1.length co63]) ?_ 2 _ rfl; (with_reducible repeat (first | refine blk_drewN ?_ _ | refine blk_drew ?_ | refine blk_alloc ?_ _ )); refine blk_put (cs := #[.int .i64 t865, .slice Ao62 x829001_1.length co62, .slice Ao63 x829002_1.length co63]) ?_ 1 _ rfl; (with_reducible repeat (first | refine blk_drewN ?_ _ | refine blk_drew ?_ | refine blk_alloc ?_ _ )); refine blk_put (cs := #[.int .i64 x829000_1, .slice Ao62 x829001_1.length co62, .slice Ao63 x829002_1.length co63]) ?_ 0 _ rfl; (with_reducible repeat (first | refine blk_drewN ?_ _ | refine blk_drew ?_ | refine blk_alloc ?_ _ )); exact BK828.out⟩, ⟨by repeat ((with_reducible first | exact HI0.out | refine IsS73.far ?_ NB0_828.out _))⟩, ⟨by repeat ((with_reducible first | exact HK.out | refine keep_far ?_ GW828.out _))⟩, ⟨by repeat ((with_reducible first | exact HB.out | refine below_set ?_ GE828.out))⟩⟩
              · rw [if_neg c57] at H
                have c57b0 : (t835 == 3) = false := beq_eq_false_iff_ne.mpr c57
                have c57b1 : (t835 != 3) = true := bne_iff_ne.mpr c57
                replace H := Option.bind_eq_some_iff.mp H
                obtain ⟨⟨t873, t874, t877, t880⟩, A680, H⟩ := H
                replace H : (spec_l08Epochs.l0 k1 (wrap64 (x4_1 + 1)) s0_0 t836 t837 t873 t874 t877) = some (r1, r2, r3, r4, r5) := H
                have A68 := Aside0.mk A680
                clear A680
                have H' := Aside0.mk H
                clear H
                have hnb69 := NB828_817.out
                have hnc69 := NB817_828.out
                have hnb70 := NB828_0.out
                have hnc70 := NB0_828.out
                have hcz71_0 : w21.cell? ⟨gb828, 0, none⟩ = some (.int .i64 x829000_1) := (blk_cell BK828.out 0).trans rfl
                have hcz71_1 : w21.cell? ⟨gb828, 1, none⟩ = some (u829001) := (blk_cell BK828.out 1).trans rfl
                have hcz71_2 : w21.cell? ⟨gb828, 2, none⟩ = some (u829002) := (blk_cell BK828.out 2).trans rfl
                have hfz71_0 := blk_frozen BK828.out 0
                have hfz71_1 := blk_frozen BK828.out 1
                have hfz71_2 := blk_frozen BK828.out 2
                obtain ⟨Ao72, co72, eo72⟩ := Kd.R_slice HO_829001.out
                subst eo72
                obtain ⟨Ao73, co73, eo73⟩ := Kd.R_slice HO_829002.out
                subst eo73
                go_wp2_with (((with_reducible refine gate_callee (f := 26) rfl ?_); refine goesL_ (some 22) rfl rfl Try.func26 (by kernel_rfl) rfl #[.agg #[.int .i64 x829000_1, .slice Ao72 x829001_1.length co72, .slice Ao73 x829002_1.length co73]] rfl (by (try simp only [List.map_toArray, List.map_cons, List.map_nil]); rfl) ?_; (with_reducible refine (spec_FreeNodes.calls k1 x829000_1 _ _ x829001_1 _ _ x829002_1 t873 t874 t877 t880 _ ?side1 ?side2 ?side3 ?side4 A68.out).mono ?_); (case side1 => repeat (exact (Kd.R_reads' HO_829001.out).2.2)); (case side2 => exact (Kd.R_reads' HO_829001.out).2.1); (case side3 => repeat (exact (Kd.R_reads' HO_829002.out).2.2)); (case side4 => exact (Kd.R_reads' HO_829002.out).2.1); rintro e w74 ⟨v875, v878, v881, rfl, ho0, ho1, ho2, hb⟩; refine ⟨_, rfl, ?_⟩; have n0_ := Aside0.mk (Kd.R_mono (Kd.R_told (Kd.R_told (Kd.R_old (by (with_reducible repeat (first | apply Kd.R_alloc | apply Kd.R_drewN | apply Kd.R_drew )); exact HO_829001.out) hb) (Kd.R_base ho0)) (Kd.R_base ho2)) (fun _ h_ => h_.1)); have n1_ := Aside0.mk (Kd.R_elder' (by (with_reducible repeat (first | apply Kd.R_alloc | apply Kd.R_drewN | apply Kd.R_drew )); exact HO_829002.out) (Kd.R_base ho1) hb); have n2_ := Aside0.mk (Kd.R_lower (Kd.R_new' ho0 (Kd.R_lt (by (with_reducible repeat (first | apply Kd.R_alloc | apply Kd.R_drewN | apply Kd.R_drew )); exact HO_829001.out))) (keep_size (w := w) (g := g) (row := none) (by repeat ((with_reducible exact HK.out))))); have n3_ := Aside0.mk (Kd.R_lower (Kd.R_new' ho1 (Kd.R_lt (by (with_reducible repeat (first | apply Kd.R_alloc | apply Kd.R_drewN | apply Kd.R_drew )); exact HO_829002.out))) (keep_size (w := w) (g := g) (row := none) (by repeat ((with_reducible exact HK.out))))); have n4_ := Aside0.mk (Kd.R_lower (Kd.R_new' ho2 (Kd.R_lt (by (with_reducible repeat (first | apply Kd.R_alloc | apply Kd.R_drewN | apply Kd.R_drew )); exact HO_829001.out))) (keep_size (w := w) (g := g) (row := none) (by repeat ((with_reducible exact HK.out))))); have n5_ := Aside0.mk (blk_below (g := gb817) (o := .cells #[.int .i64 0, .slice none 0 0, .slice none 0 0] 25 (0, 0)) (by (with_reducible repeat (first | refine blk_drewN ?_ _ | refine blk_drew ?_ | refine blk_alloc ?_ _ )); exact BK817.out) hb); have n6_ := Aside0.mk (blk_below (g := gb828) (o := .cells #[.int .i64 x829000_1, .slice Ao72 x829001_1.length co72, .slice Ao73 x829002_1.length co73] 25 (0, 0)) (by (with_reducible repeat (first | refine blk_drewN ?_ _ | refine blk_drew ?_ | refine blk_alloc ?_ _ )); exact BK828.out) hb); have n7_ := Aside0.mk (IsS73.below (by repeat ((with_reducible exact HI0.out))) hb); have n8_ := Aside0.mk (KeepBut.trans (by repeat ((with_reducible exact HK.out))) (KeepBut.of_below hb g none) (.inl rfl)); have n9_ := Aside0.mk (below_step (by repeat ((with_reducible exact HB.out))) hb); clear HO_829001; clear HO_829002; clear BK817; clear BK828; clear HI0; clear HK; clear HB; have HO_829001 := n0_; have HO_829002 := n1_; have HO876 := n2_; have HO879 := n3_; have HO882 := n4_; have BK817 := n5_; have BK828 := n6_; have HI0 := n7_; have HK := n8_; have HB := n9_; clear n0_ n1_ n2_ n3_ n4_ n5_ n6_ n7_ n8_ n9_; (try clear hb); (try clear hb2); (try clear hk); (try clear hi); (try clear ho0); (try clear ho1); (try clear ho2); have hcz75_0 : w74.cell? ⟨gb828, 0, none⟩ = some (.int .i64 x829000_1) := (blk_cell BK828.out 0).trans rfl; have hcz75_1 : w74.cell? ⟨gb828, 1, none⟩ = some (.slice Ao72 x829001_1.length co72) := (blk_cell BK828.out 1).trans rfl; have hcz75_2 : w74.cell? ⟨gb828, 2, none⟩ = some (.slice Ao73 x829002_1.length co73) := (blk_cell BK828.out 2).trans rfl; have hfz75_0 := blk_frozen BK828.out 0; have hfz75_1 := blk_frozen BK828.out 1; have hfz75_2 := blk_frozen BK828.out 2; obtain ⟨Ao76, co76, eo76⟩ := Kd.R_slice HO876.out; subst eo76; obtain ⟨Ao77, co77, eo77⟩ := Kd.R_slice HO879.out; subst eo77))
                go_roundg k1
                case measure => have := HK1.out; omega
                case rel => exact ⟨(wrap64 (x4_1 + 1)), (t836), (t837), (t873), (t874), (t877), (.slice Ao76 t874.length co76), (.slice Ao77 t877.length co77), (by rfl), H', ⟨by have := HK1.out; omega⟩, ⟨by (with_reducible repeat (first | apply Kd.R_alloc | apply Kd.R_drewN | apply Kd.R_drew )); exact Kd.R_mono (Kd.R_far (p := ⟨gb828, 2, none⟩) (Kd.R_far (p := ⟨gb828, 1, none⟩) (Kd.R_far (p := ⟨gb828, 0, none⟩) (Kd.R_types HO876.out BK828.out (by decide)) (fun _ hk => hk.2) (.int .i64 t873)) (fun _ hk => hk.2) (.slice Ao76 t874.length co76)) (fun _ hk => hk.2) (.slice Ao77 t877.length co77)) (fun _ hk => trivial)⟩, ⟨by (with_reducible repeat (first | apply Kd.R_alloc | apply Kd.R_drewN | apply Kd.R_drew )); exact Kd.R_mono (Kd.R_far (p := ⟨gb828, 2, none⟩) (Kd.R_far (p := ⟨gb828, 1, none⟩) (Kd.R_far (p := ⟨gb828, 0, none⟩) (Kd.R_types HO879.out BK828.out (by decide)) (fun _ hk => hk.2) (.int .i64 t873)) (fun _ hk => hk.2) (.slice Ao76 t874.length co76)) (fun _ hk => hk.2) (.slice Ao77 t877.length co77)) (fun _ hk => trivial)⟩, ⟨by (with_reducible repeat (first | refine blk_drewN ?_ _ | refine blk_drew ?_ | refine blk_alloc ?_ _ )); refine blk_far ?_ NB817_828.out _; (with_reducible repeat (first | refine blk_drewN ?_ _ | refine blk_drew ?_ | refine blk_alloc ?_ _ )); refine blk_far ?_ NB817_828.out _; (with_reducible repeat (first | refine blk_drewN ?_ _ | refine blk_drew ?_ | refine blk_alloc ?_ _ )); refine blk_far ?_ NB817_828.out _; (with_reducible repeat (first | refine blk_drewN ?_ _ | refine blk_drew ?_ | refine blk_alloc ?_ _ )); exact BK817.out⟩, ⟨by (with_reducible repeat (first | refine blk_drewN ?_ _ | refine blk_drew ?_ | refine blk_alloc ?_ _ )); refine blk_put (cs := #[.int .i64 t873, .slice Ao76 t874.length co76, .slice Ao73 x829002_1.length co73]) ?_ 2 _ rfl; (with_reducible repeat (first | refine blk_drewN ?_ _ | refine blk_drew ?_ | refine blk_alloc ?_ _ )); refine blk_put (cs := #[.int .i64 t873, .slice Ao72 x829001_1.length co72, .slice Ao73 x829002_1.length co73]) ?_ 1 _ rfl; (with_reducible repeat (first | refine blk_drewN ?_ _ | refine blk_drew ?_ | refine blk_alloc ?_ _ )); refine blk_put (cs := #[.int .i64 x829000_1, .slice Ao72 x829001_1.length co72, .slice Ao73 x829002_1.length co73]) ?_ 0 _ rfl; (with_reducible repeat (first | refine blk_drewN ?_ _ | refine blk_drew ?_ | refine blk_alloc ?_ _ )); exact BK828.out⟩, ⟨by repeat ((with_reducible first | exact HI0.out | refine IsS73.far ?_ NB0_828.out _))⟩, ⟨by repeat ((with_reducible first | exact HK.out | refine keep_far ?_ GW828.out _))⟩, ⟨by repeat ((with_reducible first | exact HB.out | refine below_set ?_ GE828.out))⟩⟩
      · rw [if_neg c16] at H
        have c16b0 : decide (x4_1 < t829) = false := decide_eq_false c16
        clear c16
        (rw [c16b0])
        simp only [Option.some.injEq, Prod.mk.injEq] at H
        obtain ⟨rfl, rfl, rfl, rfl, rfl⟩ := H
        have hnb78 := NB828_817.out
        have hnc78 := NB817_828.out
        have hnb79 := NB828_0.out
        have hnc79 := NB0_828.out
        have hcz80_0 : w15.cell? ⟨gb828, 0, none⟩ = some (.int .i64 x829000_1) := (blk_cell BK828.out 0).trans rfl
        have hcz80_1 : w15.cell? ⟨gb828, 1, none⟩ = some (u829001) := (blk_cell BK828.out 1).trans rfl
        have hcz80_2 : w15.cell? ⟨gb828, 2, none⟩ = some (u829002) := (blk_cell BK828.out 2).trans rfl
        have hfz80_0 := blk_frozen BK828.out 0
        have hfz80_1 := blk_frozen BK828.out 1
        have hfz80_2 := blk_frozen BK828.out 2
        have hnb81 := NB817_0.out
        have hnc81 := NB0_817.out
        have hcz82_0 : w15.cell? ⟨gb817, 0, none⟩ = some (.int .i64 0) := (blk_cell BK817.out 0).trans rfl
        have hcz82_1 : w15.cell? ⟨gb817, 1, none⟩ = some (.slice none 0 0) := (blk_cell BK817.out 1).trans rfl
        have hcz82_2 : w15.cell? ⟨gb817, 2, none⟩ = some (.slice none 0 0) := (blk_cell BK817.out 2).trans rfl
        have hfz82_0 := blk_frozen BK817.out 0
        have hfz82_1 := blk_frozen BK817.out 1
        have hfz82_2 := blk_frozen BK817.out 2
        obtain ⟨Ao83, co83, eo83⟩ := Kd.R_slice HO_829001.out
        subst eo83
        obtain ⟨Ao84, co84, eo84⟩ := Kd.R_slice HO_829002.out
        subst eo84
        go_wp2
        refine bodyPost_ret (results_cell_row rfl _ _ gb817 25 #[.int .i64 x829000_1, .slice Ao83 x829001_1.length co83, .slice Ao84 x829002_1.length co84] (0, 0) _ rfl (by (with_reducible repeat (first | refine blk_drewN ?_ _ | refine blk_drew ?_ | refine blk_alloc ?_ _ )); refine blk_put (cs := #[.int .i64 x829000_1, .slice Ao83 x829001_1.length co83, .slice none 0 0]) ?_ 2 _ rfl; (with_reducible repeat (first | refine blk_drewN ?_ _ | refine blk_drew ?_ | refine blk_alloc ?_ _ )); refine blk_put (cs := #[.int .i64 x829000_1, .slice none 0 0, .slice none 0 0]) ?_ 1 _ rfl; (with_reducible repeat (first | refine blk_drewN ?_ _ | refine blk_drew ?_ | refine blk_alloc ?_ _ )); refine blk_put (cs := #[.int .i64 0, .slice none 0 0, .slice none 0 0]) ?_ 0 _ rfl; (with_reducible repeat (first | refine blk_drewN ?_ _ | refine blk_drew ?_ | refine blk_alloc ?_ _ )); exact BK817.out) Try.underlying25 rfl (by kernel_rfl)) rfl ?_
        exact ⟨_, _, by rfl, by (with_reducible repeat (first | apply Kd.R_alloc | apply Kd.R_drewN | apply Kd.R_drew )); exact Kd.R_mono (Kd.R_far (p := ⟨gb817, 2, none⟩) (Kd.R_far (p := ⟨gb817, 1, none⟩) (Kd.R_far (p := ⟨gb817, 0, none⟩) (Kd.R_types HO_829001.out BK817.out (by decide)) (fun _ hk => hk.2) (.int .i64 x829000_1)) (fun _ hk => hk.2) (.slice Ao83 x829001_1.length co83)) (fun _ hk => hk.2) (.slice Ao84 x829002_1.length co84)) (fun _ hk => trivial), by (with_reducible repeat (first | apply Kd.R_alloc | apply Kd.R_drewN | apply Kd.R_drew )); exact Kd.R_mono (Kd.R_far (p := ⟨gb817, 2, none⟩) (Kd.R_far (p := ⟨gb817, 1, none⟩) (Kd.R_far (p := ⟨gb817, 0, none⟩) (Kd.R_types HO_829002.out BK817.out (by decide)) (fun _ hk => hk.2) (.int .i64 x829000_1)) (fun _ hk => hk.2) (.slice Ao83 x829001_1.length co83)) (fun _ hk => hk.2) (.slice Ao84 x829002_1.length co84)) (fun _ hk => trivial), by repeat ((with_reducible first | exact HI0.out | refine IsS73.far ?_ NB0_817.out _)), by repeat ((with_reducible first | exact HB.out | refine below_set ?_ GE817.out)), by repeat ((with_reducible first | exact HK.out | refine keep_far ?_ GW817.out _))⟩
def spec_l01New.l0 : Nat → List Int → Int → Int → Option (List Int × Int × Int)
  | 0, _, _, _ => none
  | k + 1, x0, x3, x4 => if x4 < (x0.length : Int) then (if x4 < 4000 then (if 0 ≤ x4 then (spec_l01New.l0 k x0 (Go.bits .and .i64 (wrap64 ((wrap64 ((wrap64 (x3 * 131)) + (wrap64 (rd x0 x4)))) + 7)) 1073741823) (wrap64 (x4 + 1))) else (none)) else (some (x0, 0, x3))) else (some (x0, 0, x3))
def spec_l01New.f (k : Nat) (l0 : List Int) : Option (List Int × Int × Int) := spec_l01New.l0 k l0 (wrap64 (34901 + (l0.length : Int))) 0
set_option maxHeartbeats 8000000 in
set_option maxRecDepth 100000 in
theorem spec_l01New.calls (k : Nat) (A0 : Option Addr) (c0 : Nat) (l0 : List Int) (r1 : List Int) (r2 : Int) (r3 : Int) (w0 w : World) (hB : Below w0.heap.size w0 w) (hr0 : Kd.C (Kd.int .u8) w0 A0 l0.length l0) (hc0 : l0.length ≤ c0) (h : spec_l01New.f k l0 = some (r1, r2, r3)) :
    Calls Try.prog 59 #[.slice A0 l0.length c0] w fun e w' => ∃ g_ : Nat, e = .returned (.pointer (some ⟨g_, 0, none⟩)) ∧ IsS73 w0 w' g_ r1 r2 r3 ∧ Below w0.heap.size w0 w' ∧ Below w.heap.size w w' := by
  have hu73 := Try.underlying73
  have HR0 := Aside0.mk hr0
  have HC0 := Aside0.mk hc0
  clear hr0 hc0
  have HBW := Aside0.mk (Below.refl w.heap.size w)
  have HW0 := Aside0.mk hB.size
  have HB := Aside0.mk hB
  clear hB
  have H : (spec_l01New.l0 k l0 (wrap64 (34901 + (l0.length : Int))) 0) = some (r1, r2, r3) := h
  clear h
  have H' := Aside0.mk H
  clear H
  go_enter Try.func59, Try.ntmps59
  go_wp2
  go_loopg [3, 4] k (fun kq v3 v4 w' => ∃ (x3_1 : Int) (x4_1 : Int), v3 = .int .i64 x3_1 ∧ v4 = .int .i64 x4_1 ∧ Aside0 (spec_l01New.l0 kq l0 x3_1 x4_1 = some (r1, r2, r3)) ∧ Aside0 (kq ≤ k) ∧ Aside0 (Below w0.heap.size w0 w') ∧ Aside0 (Below w.heap.size w w'))
  case atStart => exact ⟨(wrap64 (34901 + (l0.length : Int))), (0), (by rfl), (by rfl), H', ⟨Nat.le_refl _⟩, ⟨by repeat ((with_reducible exact HB.out))⟩, ⟨by repeat ((with_reducible exact HBW.out))⟩⟩
  case round =>
    clear H'
    obtain ⟨x3_1, x4_1, rfl, rfl, HA, HK1, HB, HBW⟩ := hrel
    cases gk with
    | zero => exact absurd HA.out (by simp [spec_l01New.l0])
    | succ k1 =>
      have H := HA.out
      clear HA
      simp only [spec_l01New.l0] at H
      by_cases c2 : x4_1 < (l0.length : Int)
      · rw [if_pos c2] at H
        have c2b0 : decide (x4_1 < (l0.length : Int)) = true := decide_eq_true c2
        clear c2
        by_cases c3 : x4_1 < 4000
        · rw [if_pos c3] at H
          have c3b0 : decide (x4_1 < 4000) = true := decide_eq_true c3
          clear c3
          by_cases c4 : 0 ≤ x4_1
          · rw [if_pos c4] at H
            have c4b0 : decide (0 ≤ x4_1) = true := decide_eq_true c4
            clear c4
            have H' := Aside0.mk H
            clear H
            have p883 : 0 ≤ (x4_1 : Int) := of_decide_eq_true (by (with_reducible assumption))
            have q883 : x4_1 < (l0.length : Int) := of_decide_eq_true (by (with_reducible assumption))
            obtain ⟨ad883, e883, hx883_0⟩ := Kd.at_int HR0.out x4_1 p883 q883
            cases e883
            replace hx883_0 := pw_cell_below HB.out hx883_0
            replace p883 := eq_true p883
            replace q883 := eq_true q883
            go_wp2
            go_roundg k1
            case measure => have := HK1.out; omega
            case rel => exact ⟨(Go.bits .and .i64 (wrap64 ((wrap64 ((wrap64 (x3_1 * 131)) + (wrap64 (rd l0 x4_1)))) + 7)) 1073741823), (wrap64 (x4_1 + 1)), (by rfl), (by rfl), H', ⟨by have := HK1.out; omega⟩, ⟨by repeat ((with_reducible exact HB.out))⟩, ⟨by repeat ((with_reducible exact HBW.out))⟩⟩
          · rw [if_neg c4] at H
            exact absurd H (by simp)
        · rw [if_neg c3] at H
          have c3b0 : decide (x4_1 < 4000) = false := decide_eq_false c3
          clear c3
          simp only [Option.some.injEq, Prod.mk.injEq] at H
          obtain ⟨rfl, rfl, rfl⟩ := H
          go_wp2_with (((with_reducible refine gate_dst (N := 31) rfl ?_); refine box_event ?hg (N := 31) ?hd (cs := #[.slice A0 l0.length c0, .int .i64 0, .int .i64 x3_1]) (t := 73) ?hr ?_; (case hd => rfl); (case hg => rfl); (case hr => (go_simp; done)); intro gb884 hg w5 hbox hb; have n0_ := Aside0.mk (below_step HBW.out hb); have n1_ := Aside0.mk (below_step (by repeat ((with_reducible exact HB.out))) hb); have n2_ := Aside0.mk (hbox); have n3_ := Aside0.mk ((by rw [hg]; exact (below_size (by repeat ((with_reducible exact HBW.out)))) : w.heap.size ≤ gb884)); have n4_ := Aside0.mk ((Nat.le_trans HW0.out (by rw [hg]; exact (below_size (by repeat ((with_reducible exact HBW.out)))) : w.heap.size ≤ gb884) : w0.heap.size ≤ gb884)); clear HBW; clear HB; have HBW := n0_; have HB := n1_; have BK884 := n2_; have GW884 := n3_; have GE884 := n4_; clear n0_ n1_ n2_ n3_ n4_; clear hb hbox hg))
          go_ret
          exact ⟨_, rfl, (show IsS73 w0 _ gb884 l0 0 x3_1 from ⟨_, _, by (with_reducible repeat (first | refine blk_drewN ?_ _ | refine blk_drew ?_ | refine blk_alloc ?_ _ )); exact BK884.out, GE884.out, HR0.out⟩), by repeat ((with_reducible exact HB.out)), by repeat ((with_reducible exact HBW.out))⟩
      · rw [if_neg c2] at H
        have c2b0 : decide (x4_1 < (l0.length : Int)) = false := decide_eq_false c2
        clear c2
        simp only [Option.some.injEq, Prod.mk.injEq] at H
        obtain ⟨rfl, rfl, rfl⟩ := H
        go_wp2_with (((with_reducible refine gate_dst (N := 31) rfl ?_); refine box_event ?hg (N := 31) ?hd (cs := #[.slice A0 l0.length c0, .int .i64 0, .int .i64 x3_1]) (t := 73) ?hr ?_; (case hd => rfl); (case hg => rfl); (case hr => (go_simp; done)); intro gb885 hg w6 hbox hb; have n0_ := Aside0.mk (below_step HBW.out hb); have n1_ := Aside0.mk (below_step (by repeat ((with_reducible exact HB.out))) hb); have n2_ := Aside0.mk (hbox); have n3_ := Aside0.mk ((by rw [hg]; exact (below_size (by repeat ((with_reducible exact HBW.out)))) : w.heap.size ≤ gb885)); have n4_ := Aside0.mk ((Nat.le_trans HW0.out (by rw [hg]; exact (below_size (by repeat ((with_reducible exact HBW.out)))) : w.heap.size ≤ gb885) : w0.heap.size ≤ gb885)); clear HBW; clear HB; have HBW := n0_; have HB := n1_; have BK885 := n2_; have GW885 := n3_; have GE885 := n4_; clear n0_ n1_ n2_ n3_ n4_; clear hb hbox hg))
        go_ret
        exact ⟨_, rfl, (show IsS73 w0 _ gb885 l0 0 x3_1 from ⟨_, _, by (with_reducible repeat (first | refine blk_drewN ?_ _ | refine blk_drew ?_ | refine blk_alloc ?_ _ )); exact BK885.out, GE885.out, HR0.out⟩), by repeat ((with_reducible exact HB.out)), by repeat ((with_reducible exact HBW.out))⟩
def spec_DrawEpochs.f (k : Nat) (l0 : List Int) : Option (Int × List Int × (List (S57))) := (spec_l01New.f k l0).bind fun bt887 => ((spec_l08Epochs.f k bt887.1 bt887.2.1 bt887.2.2).bind fun bt891 => (some (bt891.1, bt891.2.1, bt891.2.2.1)))
set_option maxHeartbeats 8000000 in
set_option maxRecDepth 100000 in
theorem spec_DrawEpochs.calls (k : Nat) (A0 : Option Addr) (c0 : Nat) (l0 : List Int) (r1 : Int) (r2 : List Int) (r3 : List (S57)) (w : World) (hr0 : Kd.C (Kd.int .u8) w A0 l0.length l0) (hc0 : l0.length ≤ c0) (h : spec_DrawEpochs.f k l0 = some (r1, r2, r3)) :
    Calls Try.prog 36 #[.slice A0 l0.length c0] w fun e w' => ∃ v1_ v2_ : Value, e = .returned (.agg #[.int .i64 r1, v1_, v2_]) ∧ Kd.R (Kd.int .i64) 3 w' w.heap.size (fun _ => True) v1_ r2 ∧ Kd.R k57 57 w' w.heap.size (fun _ => True) v2_ r3 ∧ Below w.heap.size w w' := by
  have hu25 := Try.underlying25
  have HR0 := Aside0.mk hr0
  have HC0 := Aside0.mk hc0
  clear hr0 hc0
  have HB := Aside0.mk (Below.refl w.heap.size w)
  have H : ((spec_l01New.f k l0).bind fun bt887 => ((spec_l08Epochs.f k bt887.1 bt887.2.1 bt887.2.2).bind fun bt891 => (some (bt891.1, bt891.2.1, bt891.2.2.1)))) = some (r1, r2, r3) := h
  clear h
  replace H := Option.bind_eq_some_iff.mp H
  obtain ⟨⟨t887, t888, t889⟩, A20, H⟩ := H
  replace H : ((spec_l08Epochs.f k t887 t888 t889).bind fun bt891 => (some (bt891.1, bt891.2.1, bt891.2.2.1))) = some (r1, r2, r3) := H
  have A2 := Aside0.mk A20
  clear A20
  replace H := Option.bind_eq_some_iff.mp H
  obtain ⟨⟨t891, t892, t895, t898, t899⟩, A30, H⟩ := H
  replace H : (some (t891, t892, t895)) = some (r1, r2, r3) := H
  have A3 := Aside0.mk A30
  clear A30
  simp only [Option.some.injEq, Prod.mk.injEq] at H
  obtain ⟨rfl, rfl, rfl⟩ := H
  go_enter Try.func36, Try.ntmps36
  go_wp2_with (first | ((with_reducible refine gate_dst (N := 2) rfl ?_); refine box_event ?hg (N := 2) ?hd (cs := #[.int .i64 0, .slice none 0 0, .slice none 0 0]) (t := 25) ?hr ?_; (case hd => rfl); (case hg => rfl); (case hr => (go_simp; done)); intro gb886 hg w4 hbox hb; have n0_ := Aside0.mk (below_step (by repeat ((with_reducible exact HB.out))) hb); have n1_ := Aside0.mk (hbox); have n2_ := Aside0.mk ((by rw [hg]; exact (below_size (by repeat ((with_reducible exact HB.out)))) : w.heap.size ≤ gb886)); have n3_ := Aside0.mk ((by rw [hg]; exact (below_size (by repeat ((with_reducible exact HB.out)))) : w.heap.size ≤ gb886)); clear HB; have HB := n0_; have BK886 := n1_; have GW886 := n2_; have GE886 := n3_; clear n0_ n1_ n2_ n3_; clear hb hbox hg) | ((with_reducible refine gate_callee (f := 59) rfl ?_); refine goesL_ (some 4) rfl rfl Try.func59 (by kernel_rfl) rfl #[.slice A0 l0.length c0] rfl (by (try simp only [List.map_toArray, List.map_cons, List.map_nil]); rfl) ?_; (with_reducible refine (spec_l01New.calls k _ _ l0 t887 t888 t889 w _ ?side1 ?side2 ?side3 A2.out).mono ?_); (case side1 => repeat ((with_reducible exact HB.out))); (case side2 => exact HR0.out); (case side3 => exact HC0.out); rintro e w5 ⟨g890, rfl, hi, hb, hb2⟩; refine ⟨_, rfl, ?_⟩; have n0_ := Aside0.mk (blk_below (g := gb886) (o := .cells #[.int .i64 0, .slice none 0 0, .slice none 0 0] 25 (0, 0)) (by (with_reducible repeat (first | refine blk_drewN ?_ _ | refine blk_drew ?_ | refine blk_alloc ?_ _ )); exact BK886.out) hb2); have n1_ := Aside0.mk (hb); have n2_ := Aside0.mk (hi); have n3_ := Aside0.mk (IsS73.ne_blk hi (blk_below (g := gb886) (o := .cells #[.int .i64 0, .slice none 0 0, .slice none 0 0] 25 (0, 0)) (by (with_reducible repeat (first | refine blk_drewN ?_ _ | refine blk_drew ?_ | refine blk_alloc ?_ _ )); exact BK886.out) hb2) (by decide)); have n4_ := Aside0.mk (Ne.symm (IsS73.ne_blk hi (blk_below (g := gb886) (o := .cells #[.int .i64 0, .slice none 0 0, .slice none 0 0] 25 (0, 0)) (by (with_reducible repeat (first | refine blk_drewN ?_ _ | refine blk_drew ?_ | refine blk_alloc ?_ _ )); exact BK886.out) hb2) (by decide))); clear BK886; clear HB; have BK886 := n0_; have HB := n1_; have HI890 := n2_; have NB890_886 := n3_; have NB886_890 := n4_; clear n0_ n1_ n2_ n3_ n4_; (try clear hb); (try clear hb2); (try clear hk); (try clear hi)) | ((with_reducible refine gate_callee (f := 58) rfl ?_); refine goesL_ (some 5) rfl rfl Try.func58 (by kernel_rfl) rfl #[.pointer (some ⟨g890, 0, none⟩)] rfl (by (try simp only [List.map_toArray, List.map_cons, List.map_nil]); rfl) ?_; (with_reducible refine (spec_l08Epochs.calls k g890 t887 t888 t889 t891 t892 t895 t898 t899 w _ ?side1 ?side2 A3.out).mono ?_); (case side1 => repeat ((with_reducible exact HI890.out))); (case side2 => repeat ((with_reducible exact HB.out))); rintro e w6 ⟨v893, v896, rfl, ho0, ho1, hi, hb, hk⟩; refine ⟨_, rfl, ?_⟩; have n0_ := Aside0.mk (KeepBut.blk hk (g' := gb886) (o := .cells #[.int .i64 0, .slice none 0 0, .slice none 0 0] 25 (0, 0)) (by (with_reducible repeat (first | refine blk_drewN ?_ _ | refine blk_drew ?_ | refine blk_alloc ?_ _ )); exact BK886.out) NB886_890.out (by simp)); have n1_ := Aside0.mk (Kd.R_lower ho0 (below_size (by repeat ((with_reducible exact HB.out))))); have n2_ := Aside0.mk (Kd.R_lower ho1 (below_size (by repeat ((with_reducible exact HB.out))))); have n3_ := Aside0.mk (hb); have n4_ := Aside0.mk (hi); clear BK886; clear HB; clear HI890; have BK886 := n0_; have HO894 := n1_; have HO897 := n2_; have HB := n3_; have HI890 := n4_; clear n0_ n1_ n2_ n3_ n4_; (try clear hb); (try clear hb2); (try clear hk); (try clear hi); (try clear ho0); (try clear ho1); have hnb7 := NB886_890.out; have hnc7 := NB890_886.out; have hcz8_0 : w6.cell? ⟨gb886, 0, none⟩ = some (.int .i64 0) := (blk_cell BK886.out 0).trans rfl; have hcz8_1 : w6.cell? ⟨gb886, 1, none⟩ = some (.slice none 0 0) := (blk_cell BK886.out 1).trans rfl; have hcz8_2 : w6.cell? ⟨gb886, 2, none⟩ = some (.slice none 0 0) := (blk_cell BK886.out 2).trans rfl; have hfz8_0 := blk_frozen BK886.out 0; have hfz8_1 := blk_frozen BK886.out 1; have hfz8_2 := blk_frozen BK886.out 2; obtain ⟨Ao9, co9, eo9⟩ := Kd.R_slice HO894.out; subst eo9; obtain ⟨Ao10, co10, eo10⟩ := Kd.R_slice HO897.out; subst eo10))
  refine bodyPost_ret (results_cell_row rfl _ _ gb886 25 #[.int .i64 t891, .slice Ao9 t892.length co9, .slice Ao10 t895.length co10] (0, 0) _ rfl (by (with_reducible repeat (first | refine blk_drewN ?_ _ | refine blk_drew ?_ | refine blk_alloc ?_ _ )); refine blk_put (cs := #[.int .i64 t891, .slice Ao9 t892.length co9, .slice none 0 0]) ?_ 2 _ rfl; (with_reducible repeat (first | refine blk_drewN ?_ _ | refine blk_drew ?_ | refine blk_alloc ?_ _ )); refine blk_put (cs := #[.int .i64 t891, .slice none 0 0, .slice none 0 0]) ?_ 1 _ rfl; (with_reducible repeat (first | refine blk_drewN ?_ _ | refine blk_drew ?_ | refine blk_alloc ?_ _ )); refine blk_put (cs := #[.int .i64 0, .slice none 0 0, .slice none 0 0]) ?_ 0 _ rfl; (with_reducible repeat (first | refine blk_drewN ?_ _ | refine blk_drew ?_ | refine blk_alloc ?_ _ )); exact BK886.out) Try.underlying25 rfl (by kernel_rfl)) rfl ?_
  exact ⟨_, _, by rfl, by (with_reducible repeat (first | apply Kd.R_alloc | apply Kd.R_drewN | apply Kd.R_drew )); exact Kd.R_mono (Kd.R_far (p := ⟨gb886, 2, none⟩) (Kd.R_far (p := ⟨gb886, 1, none⟩) (Kd.R_far (p := ⟨gb886, 0, none⟩) (Kd.R_types HO894.out BK886.out (by decide)) (fun _ hk => hk.2) (.int .i64 t891)) (fun _ hk => hk.2) (.slice Ao9 t892.length co9)) (fun _ hk => hk.2) (.slice Ao10 t895.length co10)) (fun _ hk => trivial), by (with_reducible repeat (first | apply Kd.R_alloc | apply Kd.R_drewN | apply Kd.R_drew )); exact Kd.R_mono (Kd.R_far (p := ⟨gb886, 2, none⟩) (Kd.R_far (p := ⟨gb886, 1, none⟩) (Kd.R_far (p := ⟨gb886, 0, none⟩) (Kd.R_types HO897.out BK886.out (by decide)) (fun _ hk => hk.2) (.int .i64 t891)) (fun _ hk => hk.2) (.slice Ao9 t892.length co9)) (fun _ hk => hk.2) (.slice Ao10 t895.length co10)) (fun _ hk => trivial), by repeat ((with_reducible first | exact HB.out | refine below_set ?_ GE886.out))⟩
end Go.Proofs.Ytdbhpcekjcohdaa.Q
