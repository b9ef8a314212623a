import Derived.Test.YtdbhpcekjcohdaaZpB0
import Derived.Test.YtdbhpcekjcohdaaZpG13
import Derived.Test.YtdbhpcekjcohdaaZpG24
import Derived.Test.YtdbhpcekjcohdaaZpWords
namespace Go.Proofs.Ytdbhpcekjcohdaa.Q
open Go.RowKit Go.Proofs.YtdbhpcekjcohdaaW.PrintWords Go.Proofs.YtdbhpcekjcohdaaW.PrintLast Go.Proofs.YtdbhpcekjcohdaaW.PrintMore
attribute [local go_sem] max2_int min2_int max_two min_two max_three min_three max_four min_four   -- for this text's walks alone
set_option linter.unusedVariables false
set_option linter.unusedSimpArgs false
def slices_Index_int_int.l0 : Nat → List Int → Int → Int → Int → Option (Int)
  | 0, _, _, _, _ => none
  | k + 1, x0, x1, x7, x8 => if x8 < x7 then (if 0 ≤ x8 then (if x8 < (x0.length : Int) then (if x1 = (rd x0 x8) then (some x8) else (slices_Index_int_int.l0 k x0 x1 x7 (wrap64 (x8 + 1)))) else (none)) else (none)) else (some (-1))
def slices_Index_int_int.f (k : Nat) (l0 : List Int) (a1 : Int) : Option (Int) := slices_Index_int_int.l0 k l0 a1 (l0.length : Int) 0
set_option maxHeartbeats 8000000 in
set_option maxRecDepth 100000 in
theorem slices_Index_int_int.calls (k : Nat) (A0 : Option Addr) (c0 : Nat) (l0 : List Int) (a1 : Int) (r : Int) (w : World) (hr0 : Kd.C (Kd.int .i64) w A0 l0.length l0) (hc0 : l0.length ≤ c0) (h : slices_Index_int_int.f k l0 a1 = some r) :
    Calls Try.prog 67 #[.slice A0 l0.length c0, .int .i64 a1] w fun e w' => e = .returned (.int .i64 r) ∧ Drawn0 w w' := by
  have HR0 := Aside0.mk hr0
  have HC0 := Aside0.mk hc0
  clear hr0 hc0
  have H : (slices_Index_int_int.l0 k l0 a1 (l0.length : Int) 0) = some r := h
  clear h
  have H' := Aside0.mk H
  clear H
  go_enter Try.func67, Try.ntmps67
  go_wp2
  go_loopg [8] k (fun kq v8 w' => ∃ (x8_1 : Int), v8 = .int .i64 x8_1 ∧ Aside0 (slices_Index_int_int.l0 kq l0 a1 (l0.length : Int) x8_1 = some r) ∧ Aside0 (kq ≤ k) ∧ Drawn0 w w')
  case atStart => exact ⟨(0), (by rfl), H', ⟨Nat.le_refl _⟩, by repeat (exact Drawn0.refl _)⟩
  case round =>
    clear H'
    obtain ⟨x8_1, rfl, HA, HK1, ⟨m1, rfl⟩⟩ := hrel
    cases gk with
    | zero => exact absurd HA.out (by simp [slices_Index_int_int.l0])
    | succ k1 =>
      have H := HA.out
      clear HA
      simp only [slices_Index_int_int.l0] at H
      by_cases c3 : x8_1 < (l0.length : Int)
      rotate_left
      · rw [if_neg c3] at H
        have c3b0 : decide (x8_1 < (l0.length : Int)) = false := decide_eq_false c3
        clear c3
        obtain rfl := Option.some.inj H
        go_wp2
        go_ret
        exact ⟨by rfl, by repeat (first | exact Drawn0.refl _ | apply Drawn0.step)⟩

      rw [if_pos c3] at H
      have c3b0 : decide (x8_1 < (l0.length : Int)) = true := decide_eq_true c3
      clear c3
      by_cases c4 : 0 ≤ x8_1
      rotate_left
      · rw [if_neg c4] at H
        exact absurd H (by simp)
      rw [if_pos c4] at H
      have c4b0 : decide (0 ≤ x8_1) = true := decide_eq_true c4
      clear c4
      by_cases c5 : x8_1 < (l0.length : Int)
      rotate_left
      · rw [if_neg c5] at H
        exact absurd H (by simp)
      rw [if_pos c5] at H
      have c5b0 : decide (x8_1 < (l0.length : Int)) = true := decide_eq_true c5
      clear c5
      by_cases c6 : a1 = (rd l0 x8_1)
      · rw [if_pos c6] at H
        have c6b0 : (a1 == (rd l0 x8_1)) = true := beq_iff_eq.mpr c6
        have c6b1 : (a1 != (rd l0 x8_1)) = false := bne_eq_false_iff_eq.mpr c6
        clear c6
        obtain rfl := Option.some.inj H
        have p614 : 0 ≤ (x8_1 : Int) := of_decide_eq_true (by (with_reducible assumption))
        have q614 : x8_1 < (l0.length : Int) := of_decide_eq_true (by (with_reducible assumption))
        obtain ⟨ad614, e614, hx614_0⟩ := Kd.at_int HR0.out x8_1 p614 q614
        cases e614
        replace p614 := eq_true p614
        replace q614 := eq_true q614
        go_wp2
        go_ret
        exact ⟨by rfl, by repeat (first | exact Drawn0.refl _ | apply Drawn0.step)⟩
      · rw [if_neg c6] at H
        have c6b0 : (a1 == (rd l0 x8_1)) = false := beq_eq_false_iff_ne.mpr c6
        have c6b1 : (a1 != (rd l0 x8_1)) = true := bne_iff_ne.mpr c6
        have H' := Aside0.mk H
        clear H
        have p614 : 0 ≤ (x8_1 : Int) := of_decide_eq_true (by (with_reducible assumption))
        have q614 : x8_1 < (l0.length : Int) := of_decide_eq_true (by (with_reducible assumption))
        obtain ⟨ad614, e614, hx614_0⟩ := Kd.at_int HR0.out x8_1 p614 q614
        cases e614
        replace p614 := eq_true p614
        replace q614 := eq_true q614
        go_wp2
        go_roundg k1
        case measure => have := HK1.out; omega
        case rel => exact ⟨(wrap64 (x8_1 + 1)), (by rfl), H', ⟨by have := HK1.out; omega⟩, by repeat (first | exact Drawn0.refl _ | apply Drawn0.step)⟩
def slices_Contains_int_int.f (k : Nat) (l0 : List Int) (a1 : Int) : Option (Bool) := (slices_Index_int_int.f k l0 a1).bind fun t615 => (some (decide (t615 ≥ 0)))
set_option maxHeartbeats 8000000 in
set_option maxRecDepth 100000 in
theorem slices_Contains_int_int.calls (k : Nat) (A0 : Option Addr) (c0 : Nat) (l0 : List Int) (a1 : Int) (r : Bool) (w : World) (hr0 : Kd.C (Kd.int .i64) w A0 l0.length l0) (hc0 : l0.length ≤ c0) (h : slices_Contains_int_int.f k l0 a1 = some r) :
    Calls Try.prog 55 #[.slice A0 l0.length c0, .int .i64 a1] w fun e w' => e = .returned (.bool r) ∧ Drawn0 w w' := by
  have HR0 := Aside0.mk hr0
  have HC0 := Aside0.mk hc0
  clear hr0 hc0
  have H : ((slices_Index_int_int.f k l0 a1).bind fun t615 => (some (decide (t615 ≥ 0)))) = some r := h
  clear h
  replace H := Option.bind_eq_some_iff.mp H
  obtain ⟨t615, A30, H⟩ := H
  replace H : (some (decide (t615 ≥ 0))) = some r := H
  have A3 := Aside0.mk A30
  clear A30
  obtain rfl := Option.some.inj H
  go_enter Try.func55, Try.ntmps55
  go_wp2_with (((with_reducible refine gate_callee (f := 67) rfl ?_); refine goesL_ (some 7) rfl rfl Try.func67 (by kernel_rfl) rfl #[.slice A0 l0.length c0, .int .i64 a1] rfl (by (try simp only [List.map_toArray, List.map_cons, List.map_nil]); rfl) ?_; (with_reducible refine (slices_Index_int_int.calls k _ _ l0 a1 t615 _ ?side1 ?side2 A3.out).mono ?_); (case side1 => repeat (exact HR0.out)); (case side2 => exact HC0.out); rintro e w' ⟨rfl, ⟨nd, rfl⟩⟩; refine ⟨_, rfl, ?_⟩))
  go_ret
  exact ⟨by rfl, by repeat (first | exact Drawn0.refl _ | apply Drawn0.step)⟩
def impl_AdvanceEpoch.f (k : Nat) (a0_0 : Int) (l0_1 : List Int) (l0_2 : List (S57)) : Option (Int × List Int × (List (S57)) × Bool) := (impl_copyEpochs.f a0_0 l0_1 l0_2).bind fun bt618 => ((impl_EpochsOk.f k a0_0 l0_1 l0_2).bind fun t626 => (if t626 = true then (if a0_0 = 1000000000 then (some (bt618.1, bt618.2.1, bt618.2.2, false)) else ((slices_Contains_int_int.f k l0_1 a0_0).bind fun t627 => (if t627 = true then (some (bt618.1, bt618.2.1, bt618.2.2, false)) else (some (wrap64 (bt618.1 + 1), bt618.2.1, bt618.2.2, true))))) else (some (bt618.1, bt618.2.1, bt618.2.2, false))))
set_option maxHeartbeats 8000000 in
set_option maxRecDepth 100000 in
theorem impl_AdvanceEpoch.calls (k : Nat) (a0_0 : Int) (A0_1 : Option Addr) (c0_1 : Nat) (l0_1 : List Int) (A0_2 : Option Addr) (c0_2 : Nat) (l0_2 : List (S57)) (r1 : Int) (r2 : List Int) (r3 : List (S57)) (r4 : Bool) (w : World) (hr0_1 : Kd.C (Kd.int .i64) w A0_1 l0_1.length l0_1) (hc0_1 : l0_1.length ≤ c0_1) (hr0_2 : Kd.C k57 w A0_2 l0_2.length l0_2) (hc0_2 : l0_2.length ≤ c0_2) (h : impl_AdvanceEpoch.f k a0_0 l0_1 l0_2 = some (r1, r2, r3, r4)) :
    Calls Try.prog 32 #[.agg #[.int .i64 a0_0, .slice A0_1 l0_1.length c0_1, .slice A0_2 l0_2.length c0_2]] w fun e w' => ∃ v1_ v2_ : Value, e = .returned (.tuple #[.agg #[.int .i64 r1, v1_, v2_], .bool r4]) ∧ Kd.R (Kd.int .i64) 3 w' w.heap.size (fun _ => True) v1_ r2 ∧ Kd.R k57 57 w' w.heap.size (fun _ => True) v2_ r3 ∧ Below w.heap.size w w' := by
  have hu25 := Try.underlying25
  have HR0_1 := Aside0.mk hr0_1
  have HC0_1 := Aside0.mk hc0_1
  clear hr0_1 hc0_1
  have HR0_2 := Aside0.mk hr0_2
  have HC0_2 := Aside0.mk hc0_2
  clear hr0_2 hc0_2
  have HB := Aside0.mk (Below.refl w.heap.size w)
  have H : ((impl_copyEpochs.f a0_0 l0_1 l0_2).bind fun bt618 => ((impl_EpochsOk.f k a0_0 l0_1 l0_2).bind fun t626 => (if t626 = true then (if a0_0 = 1000000000 then (some (bt618.1, bt618.2.1, bt618.2.2, false)) else ((slices_Contains_int_int.f k l0_1 a0_0).bind fun t627 => (if t627 = true then (some (bt618.1, bt618.2.1, bt618.2.2, false)) else (some (wrap64 (bt618.1 + 1), bt618.2.1, bt618.2.2, true))))) else (some (bt618.1, bt618.2.1, bt618.2.2, false))))) = some (r1, r2, r3, r4) := h
  clear h
  replace H := Option.bind_eq_some_iff.mp H
  obtain ⟨⟨t618, t619, t622⟩, A20, H⟩ := H
  replace H : ((impl_EpochsOk.f k a0_0 l0_1 l0_2).bind fun t626 => (if t626 = true then (if a0_0 = 1000000000 then (some (t618, t619, t622, false)) else ((slices_Contains_int_int.f k l0_1 a0_0).bind fun t627 => (if t627 = true then (some (t618, t619, t622, false)) else (some (wrap64 (t618 + 1), t619, t622, true))))) else (some (t618, t619, t622, false)))) = some (r1, r2, r3, r4) := H
  have A2 := Aside0.mk A20
  clear A20
  have HS3 := Aside0.mk H
  clear H
  go_enter Try.func32, Try.ntmps32
  go_upto_region 2 with (first | ((with_reducible refine gate_dst (N := 1) rfl ?_); refine box_event ?hg (N := 1) ?hd (cs := #[.int .i64 a0_0, .slice A0_1 l0_1.length c0_1, .slice A0_2 l0_2.length c0_2]) (t := 25) ?hr ?_; (case hd => rfl); (case hg => rfl); (case hr => (go_simp; done)); intro gb616 hg w4 hbox hb; have n0_ := Aside0.mk (below_step (by repeat ((with_reducible exact HB.out))) hb); have n1_ := Aside0.mk (hbox); have n2_ := Aside0.mk ((by rw [hg]; exact (below_size (by repeat ((with_reducible exact HB.out)))) : w.heap.size ≤ gb616)); have n3_ := Aside0.mk ((by rw [hg]; exact (below_size (by repeat ((with_reducible exact HB.out)))) : w.heap.size ≤ gb616)); clear HB; have HB := n0_; have BK616 := n1_; have GW616 := n2_; have GE616 := n3_; clear n0_ n1_ n2_ n3_; clear hb hbox hg) | ((with_reducible refine gate_dst (N := 2) rfl ?_); refine box_event ?hg (N := 2) ?hd (cs := #[.int .i64 0, .slice none 0 0, .slice none 0 0]) (t := 25) ?hr ?_; (case hd => rfl); (case hg => rfl); (case hr => (go_simp; done)); intro gb617 hg w5 hbox hb; have n0_ := Aside0.mk (blk_below (g := gb616) (o := .cells #[.int .i64 a0_0, .slice A0_1 l0_1.length c0_1, .slice A0_2 l0_2.length c0_2] 25 (0, 0)) (by (with_reducible repeat (first | refine blk_drewN ?_ _ | refine blk_drew ?_ | refine blk_alloc ?_ _ )); exact BK616.out) hb); have n1_ := Aside0.mk (below_step (by repeat ((with_reducible exact HB.out))) hb); have n2_ := Aside0.mk (hbox); have n3_ := Aside0.mk ((by rw [hg]; exact (below_size (by repeat ((with_reducible exact HB.out)))) : w.heap.size ≤ gb617)); have n4_ := Aside0.mk ((by rw [hg]; exact (below_size (by repeat ((with_reducible exact HB.out)))) : w.heap.size ≤ gb617)); have n5_ := Aside0.mk ((by rw [hg]; exact Nat.ne_of_lt (blk_lt (g := gb616) (o := .cells #[.int .i64 a0_0, .slice A0_1 l0_1.length c0_1, .slice A0_2 l0_2.length c0_2] 25 (0, 0)) (by (with_reducible repeat (first | refine blk_drewN ?_ _ | refine blk_drew ?_ | refine blk_alloc ?_ _ )); exact BK616.out)) : gb616 ≠ gb617)); have n6_ := Aside0.mk ((by rw [hg]; exact Nat.ne_of_gt (blk_lt (g := gb616) (o := .cells #[.int .i64 a0_0, .slice A0_1 l0_1.length c0_1, .slice A0_2 l0_2.length c0_2] 25 (0, 0)) (by (with_reducible repeat (first | refine blk_drewN ?_ _ | refine blk_drew ?_ | refine blk_alloc ?_ _ )); exact BK616.out)) : gb617 ≠ gb616)); clear BK616; clear HB; have BK616 := n0_; have HB := n1_; have BK617 := n2_; have GW617 := n3_; have GE617 := n4_; have NB616_617 := n5_; have NB617_616 := n6_; clear n0_ n1_ n2_ n3_ n4_ n5_ n6_; clear hb hbox hg; have hnb6 := NB616_617.out; have hnc6 := NB617_616.out; have hcz7_0 : w5.cell? ⟨gb616, 0, none⟩ = some (.int .i64 a0_0) := (blk_cell BK616.out 0).trans rfl; have hcz7_1 : w5.cell? ⟨gb616, 1, none⟩ = some (.slice A0_1 l0_1.length c0_1) := (blk_cell BK616.out 1).trans rfl; have hcz7_2 : w5.cell? ⟨gb616, 2, none⟩ = some (.slice A0_2 l0_2.length c0_2) := (blk_cell BK616.out 2).trans rfl; have hfz7_0 := blk_frozen BK616.out 0; have hfz7_1 := blk_frozen BK616.out 1; have hfz7_2 := blk_frozen BK616.out 2) | ((with_reducible refine gate_callee (f := 53) rfl ?_); refine goesL_ (some 6) rfl rfl Try.func53 (by kernel_rfl) rfl #[.agg #[.int .i64 a0_0, .slice A0_1 l0_1.length c0_1, .slice A0_2 l0_2.length c0_2]] rfl (by (try simp only [List.map_toArray, List.map_cons, List.map_nil]); rfl) ?_; (with_reducible refine (impl_copyEpochs.calls a0_0 _ _ l0_1 _ _ l0_2 t618 t619 t622 _ ?side1 ?side2 ?side3 ?side4 A2.out).mono ?_); (case side1 => repeat (exact (Kd.C_below HR0_1.out HB.out))); (case side2 => exact HC0_1.out); (case side3 => repeat (exact (Kd.C_below HR0_2.out HB.out))); (case side4 => exact HC0_2.out); rintro e w8 ⟨v620, v623, rfl, ho0, ho1, hb⟩; refine ⟨_, rfl, ?_⟩; have n0_ := Aside0.mk (Kd.R_lower ho0 (below_size (by repeat ((with_reducible exact HB.out))))); have n1_ := Aside0.mk (Kd.R_lower ho1 (below_size (by repeat ((with_reducible exact HB.out))))); have n2_ := Aside0.mk (blk_below (g := gb616) (o := .cells #[.int .i64 a0_0, .slice A0_1 l0_1.length c0_1, .slice A0_2 l0_2.length c0_2] 25 (0, 0)) (by (with_reducible repeat (first | refine blk_drewN ?_ _ | refine blk_drew ?_ | refine blk_alloc ?_ _ )); exact BK616.out) hb); have n3_ := Aside0.mk (blk_below (g := gb617) (o := .cells #[.int .i64 0, .slice none 0 0, .slice none 0 0] 25 (0, 0)) (by (with_reducible repeat (first | refine blk_drewN ?_ _ | refine blk_drew ?_ | refine blk_alloc ?_ _ )); exact BK617.out) hb); have n4_ := Aside0.mk (below_step (by repeat ((with_reducible exact HB.out))) hb); clear BK616; clear BK617; clear HB; have HO621 := n0_; have HO624 := n1_; have BK616 := n2_; have BK617 := n3_; have HB := n4_; clear n0_ n1_ n2_ n3_ n4_; (try clear hb); (try clear hb2); (try clear hk); (try clear hi); (try clear ho0); (try clear ho1)) | ((with_reducible refine gate_dst (N := 4) rfl ?_); refine box_event ?hg (N := 4) ?hd (cs := #[.int .i64 0, .slice none 0 0, .slice none 0 0]) (t := 25) ?hr ?_; (case hd => rfl); (case hg => rfl); (case hr => (go_simp; done)); intro gb625 hg w9 hbox hb; have n0_ := Aside0.mk (Kd.R_below (by (with_reducible repeat (first | apply Kd.R_alloc | apply Kd.R_drewN | apply Kd.R_drew )); exact HO621.out) hb); have n1_ := Aside0.mk (Kd.R_below (by (with_reducible repeat (first | apply Kd.R_alloc | apply Kd.R_drewN | apply Kd.R_drew )); exact HO624.out) hb); have n2_ := Aside0.mk (blk_below (g := gb616) (o := .cells #[.int .i64 a0_0, .slice A0_1 l0_1.length c0_1, .slice A0_2 l0_2.length c0_2] 25 (0, 0)) (by (with_reducible repeat (first | refine blk_drewN ?_ _ | refine blk_drew ?_ | refine blk_alloc ?_ _ )); exact BK616.out) hb); have n3_ := Aside0.mk (blk_below (g := gb617) (o := .cells #[.int .i64 0, .slice none 0 0, .slice none 0 0] 25 (0, 0)) (by (with_reducible repeat (first | refine blk_drewN ?_ _ | refine blk_drew ?_ | refine blk_alloc ?_ _ )); exact BK617.out) hb); have n4_ := Aside0.mk (below_step (by repeat ((with_reducible exact HB.out))) hb); have n5_ := Aside0.mk (hbox); have n6_ := Aside0.mk ((by rw [hg]; exact (below_size (by repeat ((with_reducible exact HB.out)))) : w.heap.size ≤ gb625)); have n7_ := Aside0.mk ((by rw [hg]; exact (below_size (by repeat ((with_reducible exact HB.out)))) : w.heap.size ≤ gb625)); have n8_ := Aside0.mk ((by rw [hg]; exact Nat.ne_of_lt (blk_lt (g := gb616) (o := .cells #[.int .i64 a0_0, .slice A0_1 l0_1.length c0_1, .slice A0_2 l0_2.length c0_2] 25 (0, 0)) (by (with_reducible repeat (first | refine blk_drewN ?_ _ | refine blk_drew ?_ | refine blk_alloc ?_ _ )); exact BK616.out)) : gb616 ≠ gb625)); have n9_ := Aside0.mk ((by rw [hg]; exact Nat.ne_of_gt (blk_lt (g := gb616) (o := .cells #[.int .i64 a0_0, .slice A0_1 l0_1.length c0_1, .slice A0_2 l0_2.length c0_2] 25 (0, 0)) (by (with_reducible repeat (first | refine blk_drewN ?_ _ | refine blk_drew ?_ | refine blk_alloc ?_ _ )); exact BK616.out)) : gb625 ≠ gb616)); have n10_ := Aside0.mk ((by rw [hg]; exact Nat.ne_of_lt (blk_lt (g := gb617) (o := .cells #[.int .i64 0, .slice none 0 0, .slice none 0 0] 25 (0, 0)) (by (with_reducible repeat (first | refine blk_drewN ?_ _ | refine blk_drew ?_ | refine blk_alloc ?_ _ )); exact BK617.out)) : gb617 ≠ gb625)); have n11_ := Aside0.mk ((by rw [hg]; exact Nat.ne_of_gt (blk_lt (g := gb617) (o := .cells #[.int .i64 0, .slice none 0 0, .slice none 0 0] 25 (0, 0)) (by (with_reducible repeat (first | refine blk_drewN ?_ _ | refine blk_drew ?_ | refine blk_alloc ?_ _ )); exact BK617.out)) : gb625 ≠ gb617)); clear HO621; clear HO624; clear BK616; clear BK617; clear HB; have HO621 := n0_; have HO624 := n1_; have BK616 := n2_; have BK617 := n3_; have HB := n4_; have BK625 := n5_; have GW625 := n6_; have GE625 := n7_; have NB616_625 := n8_; have NB625_616 := n9_; have NB617_625 := n10_; have NB625_617 := n11_; clear n0_ n1_ n2_ n3_ n4_ n5_ n6_ n7_ n8_ n9_ n10_ n11_; clear hb hbox hg; have hnb10 := NB625_616.out; have hnc10 := NB616_625.out; have hnb11 := NB625_617.out; have hnc11 := NB617_625.out; have hcz12_0 : w9.cell? ⟨gb625, 0, none⟩ = some (.int .i64 0) := (blk_cell BK625.out 0).trans rfl; have hcz12_1 : w9.cell? ⟨gb625, 1, none⟩ = some (.slice none 0 0) := (blk_cell BK625.out 1).trans rfl; have hcz12_2 : w9.cell? ⟨gb625, 2, none⟩ = some (.slice none 0 0) := (blk_cell BK625.out 2).trans rfl; have hfz12_0 := blk_frozen BK625.out 0; have hfz12_1 := blk_frozen BK625.out 1; have hfz12_2 := blk_frozen BK625.out 2; obtain ⟨Ao13, co13, eo13⟩ := Kd.R_slice HO621.out; subst eo13; obtain ⟨Ao14, co14, eo14⟩ := Kd.R_slice HO624.out; subst eo14))
  (try simp only [Act.put, List.setIfInBounds_toArray, List.set_cons_zero, List.set_cons_succ])
  have H := HS3.out
  clear HS3
  replace H := Option.bind_eq_some_iff.mp H
  obtain ⟨t626, A150, H⟩ := H
  replace H : (if t626 = true then (if a0_0 = 1000000000 then (some (t618, t619, t622, false)) else ((slices_Contains_int_int.f k l0_1 a0_0).bind fun t627 => (if t627 = true then (some (t618, t619, t622, false)) else (some (wrap64 (t618 + 1), t619, t622, true))))) else (some (t618, t619, t622, false))) = some (r1, r2, r3, r4) := H
  have A15 := Aside0.mk A150
  clear A150
  by_cases c16 : t626 = true
  · subst c16
    have H1 : (if a0_0 = 1000000000 then (some (t618, t619, t622, false)) else ((slices_Contains_int_int.f k l0_1 a0_0).bind fun t627 => (if t627 = true then (some (t618, t619, t622, false)) else (some (wrap64 (t618 + 1), t619, t622, true))))) = some (r1, r2, r3, r4) := by rw [if_pos rfl] at H; exact H
    clear H
    have H := H1
    clear H1
    by_cases c17 : a0_0 = 1000000000
    · rw [if_pos c17] at H
      have c17b0 : (a0_0 == 1000000000) = true := beq_iff_eq.mpr c17
      have c17b1 : (a0_0 != 1000000000) = false := bne_eq_false_iff_eq.mpr c17
      clear c17
      simp only [Option.some.injEq, Prod.mk.injEq] at H
      obtain ⟨rfl, rfl, rfl, rfl⟩ := H
      have hnb18 := NB616_617.out
      have hnc18 := NB617_616.out
      have hnb19 := NB616_625.out
      have hnc19 := NB625_616.out
      have hcz20_0 : w9.cell? ⟨gb616, 0, none⟩ = some (.int .i64 a0_0) := (blk_cell BK616.out 0).trans rfl
      have hcz20_1 : w9.cell? ⟨gb616, 1, none⟩ = some (.slice A0_1 l0_1.length c0_1) := (blk_cell BK616.out 1).trans rfl
      have hcz20_2 : w9.cell? ⟨gb616, 2, none⟩ = some (.slice A0_2 l0_2.length c0_2) := (blk_cell BK616.out 2).trans rfl
      have hfz20_0 := blk_frozen BK616.out 0
      have hfz20_1 := blk_frozen BK616.out 1
      have hfz20_2 := blk_frozen BK616.out 2
      go_wp2_with (((with_reducible refine gate_callee (f := 21) rfl ?_); refine goesL_ (some 8) rfl rfl Try.func21 (by kernel_rfl) rfl #[.agg #[.int .i64 a0_0, .slice A0_1 l0_1.length c0_1, .slice A0_2 l0_2.length c0_2]] rfl (by (try simp only [List.map_toArray, List.map_cons, List.map_nil]); rfl) ?_; (with_reducible refine (impl_EpochsOk.calls k a0_0 _ _ l0_1 _ _ l0_2 true _ ?side1 ?side2 ?side3 ?side4 A15.out).mono ?_); (case side1 => exact Kd.C_below HR0_1.out (by repeat ((with_reducible first | exact HB.out | refine below_set ?_ GE625.out)))); (case side2 => exact HC0_1.out); (case side3 => exact Kd.C_below HR0_2.out (by repeat ((with_reducible first | exact HB.out | refine below_set ?_ GE625.out)))); (case side4 => exact HC0_2.out); rintro e w21 ⟨rfl, hb⟩; refine ⟨_, rfl, ?_⟩; have n0_ := Aside0.mk (Kd.R_below (by (with_reducible repeat (first | apply Kd.R_alloc | apply Kd.R_drewN | apply Kd.R_drew )); exact (Kd.R_mono (Kd.R_far (p := ⟨gb625, 2, none⟩) (Kd.R_far (p := ⟨gb625, 1, none⟩) (Kd.R_far (p := ⟨gb625, 0, none⟩) (Kd.R_types HO621.out BK625.out (by decide)) (fun _ hk => hk.2) (.int .i64 t618)) (fun _ hk => hk.2) (.slice Ao13 t619.length co13)) (fun _ hk => hk.2) (.slice Ao14 t622.length co14)) (fun _ h_ => by exact h_.1))) hb); have n1_ := Aside0.mk (Kd.R_below (by (with_reducible repeat (first | apply Kd.R_alloc | apply Kd.R_drewN | apply Kd.R_drew )); exact (Kd.R_mono (Kd.R_far (p := ⟨gb625, 2, none⟩) (Kd.R_far (p := ⟨gb625, 1, none⟩) (Kd.R_far (p := ⟨gb625, 0, none⟩) (Kd.R_types HO624.out BK625.out (by decide)) (fun _ hk => hk.2) (.int .i64 t618)) (fun _ hk => hk.2) (.slice Ao13 t619.length co13)) (fun _ hk => hk.2) (.slice Ao14 t622.length co14)) (fun _ h_ => by exact h_.1))) hb); have n2_ := Aside0.mk (blk_below (g := gb616) (o := .cells #[.int .i64 a0_0, .slice A0_1 l0_1.length c0_1, .slice A0_2 l0_2.length c0_2] 25 (0, 0)) (by (with_reducible repeat (first | refine blk_drewN ?_ _ | refine blk_drew ?_ | refine blk_alloc ?_ _ )); refine blk_far ?_ NB616_625.out _; (with_reducible repeat (first | refine blk_drewN ?_ _ | refine blk_drew ?_ | refine blk_alloc ?_ _ )); refine blk_far ?_ NB616_625.out _; (with_reducible repeat (first | refine blk_drewN ?_ _ | refine blk_drew ?_ | refine blk_alloc ?_ _ )); refine blk_far ?_ NB616_625.out _; (with_reducible repeat (first | refine blk_drewN ?_ _ | refine blk_drew ?_ | refine blk_alloc ?_ _ )); exact BK616.out) hb); have n3_ := Aside0.mk (blk_below (g := gb617) (o := .cells #[.int .i64 0, .slice none 0 0, .slice none 0 0] 25 (0, 0)) (by (with_reducible repeat (first | refine blk_drewN ?_ _ | refine blk_drew ?_ | refine blk_alloc ?_ _ )); refine blk_far ?_ NB617_625.out _; (with_reducible repeat (first | refine blk_drewN ?_ _ | refine blk_drew ?_ | refine blk_alloc ?_ _ )); refine blk_far ?_ NB617_625.out _; (with_reducible repeat (first | refine blk_drewN ?_ _ | refine blk_drew ?_ | refine blk_alloc ?_ _ )); refine blk_far ?_ NB617_625.out _; (with_reducible repeat (first | refine blk_drewN ?_ _ | refine blk_drew ?_ | refine blk_alloc ?_ _ )); exact BK617.out) hb); have n4_ := Aside0.mk (blk_below (g := gb625) (o := .cells #[.int .i64 t618, .slice Ao13 t619.length co13, .slice Ao14 t622.length co14] 25 (0, 0)) (by (with_reducible repeat (first | refine blk_drewN ?_ _ | refine blk_drew ?_ | refine blk_alloc ?_ _ )); refine blk_put (cs := #[.int .i64 t618, .slice Ao13 t619.length co13, .slice none 0 0]) ?_ 2 _ rfl; (with_reducible repeat (first | refine blk_drewN ?_ _ | refine blk_drew ?_ | refine blk_alloc ?_ _ )); refine blk_put (cs := #[.int .i64 t618, .slice none 0 0, .slice none 0 0]) ?_ 1 _ rfl; (with_reducible repeat (first | refine blk_drewN ?_ _ | refine blk_drew ?_ | refine blk_alloc ?_ _ )); refine blk_put (cs := #[.int .i64 0, .slice none 0 0, .slice none 0 0]) ?_ 0 _ rfl; (with_reducible repeat (first | refine blk_drewN ?_ _ | refine blk_drew ?_ | refine blk_alloc ?_ _ )); exact BK625.out) hb); have n5_ := Aside0.mk (below_step (by repeat ((with_reducible first | exact HB.out | refine below_set ?_ GE625.out))) hb); clear HO621; clear HO624; clear BK616; clear BK617; clear BK625; clear HB; have HO621 := n0_; have HO624 := n1_; have BK616 := n2_; have BK617 := n3_; have BK625 := n4_; have HB := n5_; clear n0_ n1_ n2_ n3_ n4_ n5_; (try clear hb); (try clear hb2); (try clear hk); (try clear hi); have hcz22_0 : w21.cell? ⟨gb616, 0, none⟩ = some (.int .i64 a0_0) := (blk_cell BK616.out 0).trans rfl; have hcz22_1 : w21.cell? ⟨gb616, 1, none⟩ = some (.slice A0_1 l0_1.length c0_1) := (blk_cell BK616.out 1).trans rfl; have hcz22_2 : w21.cell? ⟨gb616, 2, none⟩ = some (.slice A0_2 l0_2.length c0_2) := (blk_cell BK616.out 2).trans rfl; have hfz22_0 := blk_frozen BK616.out 0; have hfz22_1 := blk_frozen BK616.out 1; have hfz22_2 := blk_frozen BK616.out 2; have hnb23 := NB625_617.out; have hnc23 := NB617_625.out; have hcz24_0 : w21.cell? ⟨gb625, 0, none⟩ = some (.int .i64 t618) := (blk_cell BK625.out 0).trans rfl; have hcz24_1 : w21.cell? ⟨gb625, 1, none⟩ = some (.slice Ao13 t619.length co13) := (blk_cell BK625.out 1).trans rfl; have hcz24_2 : w21.cell? ⟨gb625, 2, none⟩ = some (.slice Ao14 t622.length co14) := (blk_cell BK625.out 2).trans rfl; have hfz24_0 := blk_frozen BK625.out 0; have hfz24_1 := blk_frozen BK625.out 1; have hfz24_2 := blk_frozen BK625.out 2; have hcz25_0 : w21.cell? ⟨gb617, 0, none⟩ = some (.int .i64 0) := (blk_cell BK617.out 0).trans rfl; have hcz25_1 : w21.cell? ⟨gb617, 1, none⟩ = some (.slice none 0 0) := (blk_cell BK617.out 1).trans rfl; have hcz25_2 : w21.cell? ⟨gb617, 2, none⟩ = some (.slice none 0 0) := (blk_cell BK617.out 2).trans rfl; have hfz25_0 := blk_frozen BK617.out 0; have hfz25_1 := blk_frozen BK617.out 1; have hfz25_2 := blk_frozen BK617.out 2))
      refine bodyPost_ret (results_ct rfl _ _ gb617 25 #[.int .i64 t618, .slice Ao13 t619.length co13, .slice Ao14 t622.length co14] (0, 0) _ rfl (by (with_reducible repeat (first | refine blk_drewN ?_ _ | refine blk_drew ?_ | refine blk_alloc ?_ _ )); refine blk_put (cs := #[.int .i64 t618, .slice Ao13 t619.length co13, .slice none 0 0]) ?_ 2 _ rfl; (with_reducible repeat (first | refine blk_drewN ?_ _ | refine blk_drew ?_ | refine blk_alloc ?_ _ )); refine blk_put (cs := #[.int .i64 t618, .slice none 0 0, .slice none 0 0]) ?_ 1 _ rfl; (with_reducible repeat (first | refine blk_drewN ?_ _ | refine blk_drew ?_ | refine blk_alloc ?_ _ )); refine blk_put (cs := #[.int .i64 0, .slice none 0 0, .slice none 0 0]) ?_ 0 _ rfl; (with_reducible repeat (first | refine blk_drewN ?_ _ | refine blk_drew ?_ | refine blk_alloc ?_ _ )); exact BK617.out) Try.underlying25 rfl (by kernel_rfl)) rfl ?_
      exact ⟨_, _, by rfl, by (with_reducible repeat (first | apply Kd.R_alloc | apply Kd.R_drewN | apply Kd.R_drew )); exact Kd.R_mono (Kd.R_far (p := ⟨gb617, 2, none⟩) (Kd.R_far (p := ⟨gb617, 1, none⟩) (Kd.R_far (p := ⟨gb617, 0, none⟩) (Kd.R_types HO621.out BK617.out (by decide)) (fun _ hk => hk.2) (.int .i64 t618)) (fun _ hk => hk.2) (.slice Ao13 t619.length co13)) (fun _ hk => hk.2) (.slice Ao14 t622.length co14)) (fun _ hk => trivial), by (with_reducible repeat (first | apply Kd.R_alloc | apply Kd.R_drewN | apply Kd.R_drew )); exact Kd.R_mono (Kd.R_far (p := ⟨gb617, 2, none⟩) (Kd.R_far (p := ⟨gb617, 1, none⟩) (Kd.R_far (p := ⟨gb617, 0, none⟩) (Kd.R_types HO624.out BK617.out (by decide)) (fun _ hk => hk.2) (.int .i64 t618)) (fun _ hk => hk.2) (.slice Ao13 t619.length co13)) (fun _ hk => hk.2) (.slice Ao14 t622.length co14)) (fun _ hk => trivial), by repeat ((with_reducible first | exact HB.out | refine below_set ?_ GE617.out))⟩
    · rw [if_neg c17] at H
      have c17b0 : (a0_0 == 1000000000) = false := beq_eq_false_iff_ne.mpr c17
      have c17b1 : (a0_0 != 1000000000) = true := bne_iff_ne.mpr c17
      replace H := Option.bind_eq_some_iff.mp H
      obtain ⟨t627, A260, H⟩ := H
      replace H : (if t627 = true then (some (t618, t619, t622, false)) else (some (wrap64 (t618 + 1), t619, t622, true))) = some (r1, r2, r3, r4) := H
      have A26 := Aside0.mk A260
      clear A260
      have HS27 := Aside0.mk H
      clear H
      have hnb28 := NB616_617.out
      have hnc28 := NB617_616.out
      have hnb29 := NB616_625.out
      have hnc29 := NB625_616.out
      have hcz30_0 : w9.cell? ⟨gb616, 0, none⟩ = some (.int .i64 a0_0) := (blk_cell BK616.out 0).trans rfl
      have hcz30_1 : w9.cell? ⟨gb616, 1, none⟩ = some (.slice A0_1 l0_1.length c0_1) := (blk_cell BK616.out 1).trans rfl
      have hcz30_2 : w9.cell? ⟨gb616, 2, none⟩ = some (.slice A0_2 l0_2.length c0_2) := (blk_cell BK616.out 2).trans rfl
      have hfz30_0 := blk_frozen BK616.out 0
      have hfz30_1 := blk_frozen BK616.out 1
      have hfz30_2 := blk_frozen BK616.out 2
      go_upto_if 21 with (first | ((with_reducible refine gate_callee (f := 21) rfl ?_); refine goesL_ (some 8) rfl rfl Try.func21 (by kernel_rfl) rfl #[.agg #[.int .i64 a0_0, .slice A0_1 l0_1.length c0_1, .slice A0_2 l0_2.length c0_2]] rfl (by (try simp only [List.map_toArray, List.map_cons, List.map_nil]); rfl) ?_; (with_reducible refine (impl_EpochsOk.calls k a0_0 _ _ l0_1 _ _ l0_2 true _ ?side1 ?side2 ?side3 ?side4 A15.out).mono ?_); (case side1 => exact Kd.C_below HR0_1.out (by repeat ((with_reducible first | exact HB.out | refine below_set ?_ GE625.out)))); (case side2 => exact HC0_1.out); (case side3 => exact Kd.C_below HR0_2.out (by repeat ((with_reducible first | exact HB.out | refine below_set ?_ GE625.out)))); (case side4 => exact HC0_2.out); rintro e w31 ⟨rfl, hb⟩; refine ⟨_, rfl, ?_⟩; have n0_ := Aside0.mk (Kd.R_below (by (with_reducible repeat (first | apply Kd.R_alloc | apply Kd.R_drewN | apply Kd.R_drew )); exact (Kd.R_mono (Kd.R_far (p := ⟨gb625, 2, none⟩) (Kd.R_far (p := ⟨gb625, 1, none⟩) (Kd.R_far (p := ⟨gb625, 0, none⟩) (Kd.R_types HO621.out BK625.out (by decide)) (fun _ hk => hk.2) (.int .i64 t618)) (fun _ hk => hk.2) (.slice Ao13 t619.length co13)) (fun _ hk => hk.2) (.slice Ao14 t622.length co14)) (fun _ h_ => by exact h_.1))) hb); have n1_ := Aside0.mk (Kd.R_below (by (with_reducible repeat (first | apply Kd.R_alloc | apply Kd.R_drewN | apply Kd.R_drew )); exact (Kd.R_mono (Kd.R_far (p := ⟨gb625, 2, none⟩) (Kd.R_far (p := ⟨gb625, 1, none⟩) (Kd.R_far (p := ⟨gb625, 0, none⟩) (Kd.R_types HO624.out BK625.out (by decide)) (fun _ hk => hk.2) (.int .i64 t618)) (fun _ hk => hk.2) (.slice Ao13 t619.length co13)) (fun _ hk => hk.2) (.slice Ao14 t622.length co14)) (fun _ h_ => by exact h_.1))) hb); have n2_ := Aside0.mk (blk_below (g := gb616) (o := .cells #[.int .i64 a0_0, .slice A0_1 l0_1.length c0_1, .slice A0_2 l0_2.length c0_2] 25 (0, 0)) (by (with_reducible repeat (first | refine blk_drewN ?_ _ | refine blk_drew ?_ | refine blk_alloc ?_ _ )); refine blk_far ?_ NB616_625.out _; (with_reducible repeat (first | refine blk_drewN ?_ _ | refine blk_drew ?_ | refine blk_alloc ?_ _ )); refine blk_far ?_ NB616_625.out _; (with_reducible repeat (first | refine blk_drewN ?_ _ | refine blk_drew ?_ | refine blk_alloc ?_ _ )); refine blk_far ?_ NB616_625.out _; (with_reducible repeat (first | refine blk_drewN ?_ _ | refine blk_drew ?_ | refine blk_alloc ?_ _ )); exact BK616.out) hb); have n3_ := Aside0.mk (blk_below (g := gb617) (o := .cells #[.int .i64 0, .slice none 0 0, .slice none 0 0] 25 (0, 0)) (by (with_reducible repeat (first | refine blk_drewN ?_ _ | refine blk_drew ?_ | refine blk_alloc ?_ _ )); refine blk_far ?_ NB617_625.out _; (with_reducible repeat (first | refine blk_drewN ?_ _ | refine blk_drew ?_ | refine blk_alloc ?_ _ )); refine blk_far ?_ NB617_625.out _; (with_reducible repeat (first | refine blk_drewN ?_ _ | refine blk_drew ?_ | refine blk_alloc ?_ _ )); refine blk_far ?_ NB617_625.out _; (with_reducible repeat (first | refine blk_drewN ?_ _ | refine blk_drew ?_ | refine blk_alloc ?_ _ )); exact BK617.out) hb); have n4_ := Aside0.mk (blk_below (g := gb625) (o := .cells #[.int .i64 t618, .slice Ao13 t619.length co13, .slice Ao14 t622.length co14] 25 (0, 0)) (by (with_reducible repeat (first | refine blk_drewN ?_ _ | refine blk_drew ?_ | refine blk_alloc ?_ _ )); refine blk_put (cs := #[.int .i64 t618, .slice Ao13 t619.length co13, .slice none 0 0]) ?_ 2 _ rfl; (with_reducible repeat (first | refine blk_drewN ?_ _ | refine blk_drew ?_ | refine blk_alloc ?_ _ )); refine blk_put (cs := #[.int .i64 t618, .slice none 0 0, .slice none 0 0]) ?_ 1 _ rfl; (with_reducible repeat (first | refine blk_drewN ?_ _ | refine blk_drew ?_ | refine blk_alloc ?_ _ )); refine blk_put (cs := #[.int .i64 0, .slice none 0 0, .slice none 0 0]) ?_ 0 _ rfl; (with_reducible repeat (first | refine blk_drewN ?_ _ | refine blk_drew ?_ | refine blk_alloc ?_ _ )); exact BK625.out) hb); have n5_ := Aside0.mk (below_step (by repeat ((with_reducible first | exact HB.out | refine below_set ?_ GE625.out))) hb); clear HO621; clear HO624; clear BK616; clear BK617; clear BK625; clear HB; have HO621 := n0_; have HO624 := n1_; have BK616 := n2_; have BK617 := n3_; have BK625 := n4_; have HB := n5_; clear n0_ n1_ n2_ n3_ n4_ n5_; (try clear hb); (try clear hb2); (try clear hk); (try clear hi); have hcz32_0 : w31.cell? ⟨gb616, 0, none⟩ = some (.int .i64 a0_0) := (blk_cell BK616.out 0).trans rfl; have hcz32_1 : w31.cell? ⟨gb616, 1, none⟩ = some (.slice A0_1 l0_1.length c0_1) := (blk_cell BK616.out 1).trans rfl; have hcz32_2 : w31.cell? ⟨gb616, 2, none⟩ = some (.slice A0_2 l0_2.length c0_2) := (blk_cell BK616.out 2).trans rfl; have hfz32_0 := blk_frozen BK616.out 0; have hfz32_1 := blk_frozen BK616.out 1; have hfz32_2 := blk_frozen BK616.out 2) | (go_at_call 55; (with_reducible refine (slices_Contains_int_int.calls k _ _ l0_1 a0_0 t627 _ ?side1 ?side2 A26.out).mono ?_); (case side1 => repeat (exact (Kd.C_below HR0_1.out HB.out))); (case side2 => exact HC0_1.out); rintro e w' ⟨rfl, ⟨nd, rfl⟩⟩))
      (try simp only [Act.put, List.setIfInBounds_toArray, List.set_cons_zero, List.set_cons_succ])
      have H := HS27.out
      clear HS27
      by_cases c33 : t627 = true
      · subst c33
        have H1 : (some (t618, t619, t622, false)) = some (r1, r2, r3, r4) := by rw [if_pos rfl] at H; exact H
        clear H
        have H := H1
        clear H1
        simp only [Option.some.injEq, Prod.mk.injEq] at H
        obtain ⟨rfl, rfl, rfl, rfl⟩ := H
        have hnb34 := NB625_616.out
        have hnc34 := NB616_625.out
        have hnb35 := NB625_617.out
        have hnc35 := NB617_625.out
        have hcz36_0 : w31.cell? ⟨gb625, 0, none⟩ = some (.int .i64 t618) := (blk_cell BK625.out 0).trans rfl
        have hcz36_1 : w31.cell? ⟨gb625, 1, none⟩ = some (.slice Ao13 t619.length co13) := (blk_cell BK625.out 1).trans rfl
        have hcz36_2 : w31.cell? ⟨gb625, 2, none⟩ = some (.slice Ao14 t622.length co14) := (blk_cell BK625.out 2).trans rfl
        have hfz36_0 := blk_frozen BK625.out 0
        have hfz36_1 := blk_frozen BK625.out 1
        have hfz36_2 := blk_frozen BK625.out 2
        have hnb37 := NB617_616.out
        have hnc37 := NB616_617.out
        have hcz38_0 : w31.cell? ⟨gb617, 0, none⟩ = some (.int .i64 0) := (blk_cell BK617.out 0).trans rfl
        have hcz38_1 : w31.cell? ⟨gb617, 1, none⟩ = some (.slice none 0 0) := (blk_cell BK617.out 1).trans rfl
        have hcz38_2 : w31.cell? ⟨gb617, 2, none⟩ = some (.slice none 0 0) := (blk_cell BK617.out 2).trans rfl
        have hfz38_0 := blk_frozen BK617.out 0
        have hfz38_1 := blk_frozen BK617.out 1
        have hfz38_2 := blk_frozen BK617.out 2
        go_wp2
        refine bodyPost_ret (results_ct rfl _ _ gb617 25 #[.int .i64 t618, .slice Ao13 t619.length co13, .slice Ao14 t622.length co14] (0, 0) _ rfl (by (with_reducible repeat (first | refine blk_drewN ?_ _ | refine blk_drew ?_ | refine blk_alloc ?_ _ )); refine blk_put (cs := #[.int .i64 t618, .slice Ao13 t619.length co13, .slice none 0 0]) ?_ 2 _ rfl; (with_reducible repeat (first | refine blk_drewN ?_ _ | refine blk_drew ?_ | refine blk_alloc ?_ _ )); refine blk_put (cs := #[.int .i64 t618, .slice none 0 0, .slice none 0 0]) ?_ 1 _ rfl; (with_reducible repeat (first | refine blk_drewN ?_ _ | refine blk_drew ?_ | refine blk_alloc ?_ _ )); refine blk_put (cs := #[.int .i64 0, .slice none 0 0, .slice none 0 0]) ?_ 0 _ rfl; (with_reducible repeat (refine blk_drewN ?_ _)); exact BK617.out) Try.underlying25 rfl (by kernel_rfl)) rfl ?_
        exact ⟨_, _, by rfl, by (with_reducible repeat (first | apply Kd.R_alloc | apply Kd.R_drewN | apply Kd.R_drew )); exact Kd.R_mono (Kd.R_far (p := ⟨gb617, 2, none⟩) (Kd.R_far (p := ⟨gb617, 1, none⟩) (Kd.R_far (p := ⟨gb617, 0, none⟩) (Kd.R_types HO621.out BK617.out (by decide)) (fun _ hk => hk.2) (.int .i64 t618)) (fun _ hk => hk.2) (.slice Ao13 t619.length co13)) (fun _ hk => hk.2) (.slice Ao14 t622.length co14)) (fun _ hk => trivial), by (with_reducible repeat (first | apply Kd.R_alloc | apply Kd.R_drewN | apply Kd.R_drew )); exact Kd.R_mono (Kd.R_far (p := ⟨gb617, 2, none⟩) (Kd.R_far (p := ⟨gb617, 1, none⟩) (Kd.R_far (p := ⟨gb617, 0, none⟩) (Kd.R_types HO624.out BK617.out (by decide)) (fun _ hk => hk.2) (.int .i64 t618)) (fun _ hk => hk.2) (.slice Ao13 t619.length co13)) (fun _ hk => hk.2) (.slice Ao14 t622.length co14)) (fun _ hk => trivial), by repeat ((with_reducible first | exact HB.out | apply pw_below_drewN | refine below_set ?_ GE617.out))⟩
      · replace c33 := Bool.eq_false_iff.mpr c33
        subst c33
        have H1 : (some (wrap64 (t618 + 1), t619, t622, true)) = some (r1, r2, r3, r4) := by rw [if_neg (show ¬ (false = true) by decide)] at H; exact H
        clear H
        have H := H1
        clear H1
        simp only [Option.some.injEq, Prod.mk.injEq] at H
        obtain ⟨rfl, rfl, rfl, rfl⟩ := H
        have hnb39 := NB625_616.out
        have hnc39 := NB616_625.out
        have hnb40 := NB625_617.out
        have hnc40 := NB617_625.out
        have hcz41_0 : w31.cell? ⟨gb625, 0, none⟩ = some (.int .i64 t618) := (blk_cell BK625.out 0).trans rfl
        have hcz41_1 : w31.cell? ⟨gb625, 1, none⟩ = some (.slice Ao13 t619.length co13) := (blk_cell BK625.out 1).trans rfl
        have hcz41_2 : w31.cell? ⟨gb625, 2, none⟩ = some (.slice Ao14 t622.length co14) := (blk_cell BK625.out 2).trans rfl
        have hfz41_0 := blk_frozen BK625.out 0
        have hfz41_1 := blk_frozen BK625.out 1
        have hfz41_2 := blk_frozen BK625.out 2
        have hnb42 := NB617_616.out
        have hnc42 := NB616_617.out
        have hcz43_0 : w31.cell? ⟨gb617, 0, none⟩ = some (.int .i64 0) := (blk_cell BK617.out 0).trans rfl
        have hcz43_1 : w31.cell? ⟨gb617, 1, none⟩ = some (.slice none 0 0) := (blk_cell BK617.out 1).trans rfl
        have hcz43_2 : w31.cell? ⟨gb617, 2, none⟩ = some (.slice none 0 0) := (blk_cell BK617.out 2).trans rfl
        have hfz43_0 := blk_frozen BK617.out 0
        have hfz43_1 := blk_frozen BK617.out 1
        have hfz43_2 := blk_frozen BK617.out 2
        go_wp2
        refine bodyPost_ret (results_ct rfl _ _ gb617 25 #[.int .i64 (wrap64 (t618 + 1)), .slice Ao13 t619.length co13, .slice Ao14 t622.length co14] (0, 0) _ rfl (by (with_reducible repeat (first | refine blk_drewN ?_ _ | refine blk_drew ?_ | refine blk_alloc ?_ _ )); refine blk_put (cs := #[.int .i64 (wrap64 (t618 + 1)), .slice Ao13 t619.length co13, .slice none 0 0]) ?_ 2 _ rfl; (with_reducible repeat (first | refine blk_drewN ?_ _ | refine blk_drew ?_ | refine blk_alloc ?_ _ )); refine blk_put (cs := #[.int .i64 (wrap64 (t618 + 1)), .slice none 0 0, .slice none 0 0]) ?_ 1 _ rfl; (with_reducible repeat (first | refine blk_drewN ?_ _ | refine blk_drew ?_ | refine blk_alloc ?_ _ )); refine blk_put (cs := #[.int .i64 0, .slice none 0 0, .slice none 0 0]) ?_ 0 _ rfl; (with_reducible repeat (first | refine blk_drewN ?_ _ | refine blk_drew ?_ | refine blk_alloc ?_ _ )); refine blk_far ?_ NB617_625.out _; (with_reducible repeat (refine blk_drewN ?_ _)); exact BK617.out) Try.underlying25 rfl (by kernel_rfl)) rfl ?_
        exact ⟨_, _, by rfl, by (with_reducible repeat (first | apply Kd.R_alloc | apply Kd.R_drewN | apply Kd.R_drew )); exact Kd.R_mono (Kd.R_far (p := ⟨gb617, 2, none⟩) (Kd.R_far (p := ⟨gb617, 1, none⟩) (Kd.R_far (p := ⟨gb617, 0, none⟩) (Kd.R_far (p := ⟨gb625, 0, none⟩) (Kd.R_types (Kd.R_types HO621.out BK625.out (by decide)) BK617.out (by decide)) (fun _ hk => hk.1.2) (.int .i64 (wrap64 (t618 + 1)))) (fun _ hk => hk.2) (.int .i64 (wrap64 (t618 + 1)))) (fun _ hk => hk.2) (.slice Ao13 t619.length co13)) (fun _ hk => hk.2) (.slice Ao14 t622.length co14)) (fun _ hk => trivial), by (with_reducible repeat (first | apply Kd.R_alloc | apply Kd.R_drewN | apply Kd.R_drew )); exact Kd.R_mono (Kd.R_far (p := ⟨gb617, 2, none⟩) (Kd.R_far (p := ⟨gb617, 1, none⟩) (Kd.R_far (p := ⟨gb617, 0, none⟩) (Kd.R_far (p := ⟨gb625, 0, none⟩) (Kd.R_types (Kd.R_types HO624.out BK625.out (by decide)) BK617.out (by decide)) (fun _ hk => hk.1.2) (.int .i64 (wrap64 (t618 + 1)))) (fun _ hk => hk.2) (.int .i64 (wrap64 (t618 + 1)))) (fun _ hk => hk.2) (.slice Ao13 t619.length co13)) (fun _ hk => hk.2) (.slice Ao14 t622.length co14)) (fun _ hk => trivial), by repeat ((with_reducible first | exact HB.out | apply pw_below_drewN | refine below_set ?_ GE617.out | refine below_set ?_ GE625.out))⟩
  · replace c16 := Bool.eq_false_iff.mpr c16
    subst c16
    have H1 : (some (t618, t619, t622, false)) = some (r1, r2, r3, r4) := by rw [if_neg (show ¬ (false = true) by decide)] at H; exact H
    clear H
    have H := H1
    clear H1
    simp only [Option.some.injEq, Prod.mk.injEq] at H
    obtain ⟨rfl, rfl, rfl, rfl⟩ := H
    have hnb44 := NB616_617.out
    have hnc44 := NB617_616.out
    have hnb45 := NB616_625.out
    have hnc45 := NB625_616.out
    have hcz46_0 : w9.cell? ⟨gb616, 0, none⟩ = some (.int .i64 a0_0) := (blk_cell BK616.out 0).trans rfl
    have hcz46_1 : w9.cell? ⟨gb616, 1, none⟩ = some (.slice A0_1 l0_1.length c0_1) := (blk_cell BK616.out 1).trans rfl
    have hcz46_2 : w9.cell? ⟨gb616, 2, none⟩ = some (.slice A0_2 l0_2.length c0_2) := (blk_cell BK616.out 2).trans rfl
    have hfz46_0 := blk_frozen BK616.out 0
    have hfz46_1 := blk_frozen BK616.out 1
    have hfz46_2 := blk_frozen BK616.out 2
    go_wp2_with (((with_reducible refine gate_callee (f := 21) rfl ?_); refine goesL_ (some 8) rfl rfl Try.func21 (by kernel_rfl) rfl #[.agg #[.int .i64 a0_0, .slice A0_1 l0_1.length c0_1, .slice A0_2 l0_2.length c0_2]] rfl (by (try simp only [List.map_toArray, List.map_cons, List.map_nil]); rfl) ?_; (with_reducible refine (impl_EpochsOk.calls k a0_0 _ _ l0_1 _ _ l0_2 false _ ?side1 ?side2 ?side3 ?side4 A15.out).mono ?_); (case side1 => exact Kd.C_below HR0_1.out (by repeat ((with_reducible first | exact HB.out | refine below_set ?_ GE625.out)))); (case side2 => exact HC0_1.out); (case side3 => exact Kd.C_below HR0_2.out (by repeat ((with_reducible first | exact HB.out | refine below_set ?_ GE625.out)))); (case side4 => exact HC0_2.out); rintro e w47 ⟨rfl, hb⟩; refine ⟨_, rfl, ?_⟩; have n0_ := Aside0.mk (Kd.R_below (by (with_reducible repeat (first | apply Kd.R_alloc | apply Kd.R_drewN | apply Kd.R_drew )); exact (Kd.R_mono (Kd.R_far (p := ⟨gb625, 2, none⟩) (Kd.R_far (p := ⟨gb625, 1, none⟩) (Kd.R_far (p := ⟨gb625, 0, none⟩) (Kd.R_types HO621.out BK625.out (by decide)) (fun _ hk => hk.2) (.int .i64 t618)) (fun _ hk => hk.2) (.slice Ao13 t619.length co13)) (fun _ hk => hk.2) (.slice Ao14 t622.length co14)) (fun _ h_ => by exact h_.1))) hb); have n1_ := Aside0.mk (Kd.R_below (by (with_reducible repeat (first | apply Kd.R_alloc | apply Kd.R_drewN | apply Kd.R_drew )); exact (Kd.R_mono (Kd.R_far (p := ⟨gb625, 2, none⟩) (Kd.R_far (p := ⟨gb625, 1, none⟩) (Kd.R_far (p := ⟨gb625, 0, none⟩) (Kd.R_types HO624.out BK625.out (by decide)) (fun _ hk => hk.2) (.int .i64 t618)) (fun _ hk => hk.2) (.slice Ao13 t619.length co13)) (fun _ hk => hk.2) (.slice Ao14 t622.length co14)) (fun _ h_ => by exact h_.1))) hb); have n2_ := Aside0.mk (blk_below (g := gb616) (o := .cells #[.int .i64 a0_0, .slice A0_1 l0_1.length c0_1, .slice A0_2 l0_2.length c0_2] 25 (0, 0)) (by (with_reducible repeat (first | refine blk_drewN ?_ _ | refine blk_drew ?_ | refine blk_alloc ?_ _ )); refine blk_far ?_ NB616_625.out _; (with_reducible repeat (first | refine blk_drewN ?_ _ | refine blk_drew ?_ | refine blk_alloc ?_ _ )); refine blk_far ?_ NB616_625.out _; (with_reducible repeat (first | refine blk_drewN ?_ _ | refine blk_drew ?_ | refine blk_alloc ?_ _ )); refine blk_far ?_ NB616_625.out _; (with_reducible repeat (first | refine blk_drewN ?_ _ | refine blk_drew ?_ | refine blk_alloc ?_ _ )); exact BK616.out) hb); have n3_ := Aside0.mk (blk_below (g := gb617) (o := .cells #[.int .i64 0, .slice none 0 0, .slice none 0 0] 25 (0, 0)) (by (with_reducible repeat (first | refine blk_drewN ?_ _ | refine blk_drew ?_ | refine blk_alloc ?_ _ )); refine blk_far ?_ NB617_625.out _; (with_reducible repeat (first | refine blk_drewN ?_ _ | refine blk_drew ?_ | refine blk_alloc ?_ _ )); refine blk_far ?_ NB617_625.out _; (with_reducible repeat (first | refine blk_drewN ?_ _ | refine blk_drew ?_ | refine blk_alloc ?_ _ )); refine blk_far ?_ NB617_625.out _; (with_reducible repeat (first | refine blk_drewN ?_ _ | refine blk_drew ?_ | refine blk_alloc ?_ _ )); exact BK617.out) hb); have n4_ := Aside0.mk (blk_below (g := gb625) (o := .cells #[.int .i64 t618, .slice Ao13 t619.length co13, .slice Ao14 t622.length co14] 25 (0, 0)) (by (with_reducible repeat (first | refine blk_drewN ?_ _ | refine blk_drew ?_ | refine blk_alloc ?_ _ )); refine blk_put (cs := #[.int .i64 t618, .slice Ao13 t619.length co13, .slice none 0 0]) ?_ 2 _ rfl; (with_reducible repeat (first | refine blk_drewN ?_ _ | refine blk_drew ?_ | refine blk_alloc ?_ _ )); refine blk_put (cs := #[.int .i64 t618, .slice none 0 0, .slice none 0 0]) ?_ 1 _ rfl; (with_reducible repeat (first | refine blk_drewN ?_ _ | refine blk_drew ?_ | refine blk_alloc ?_ _ )); refine blk_put (cs := #[.int .i64 0, .slice none 0 0, .slice none 0 0]) ?_ 0 _ rfl; (with_reducible repeat (first | refine blk_drewN ?_ _ | refine blk_drew ?_ | refine blk_alloc ?_ _ )); exact BK625.out) hb); have n5_ := Aside0.mk (below_step (by repeat ((with_reducible first | exact HB.out | refine below_set ?_ GE625.out))) hb); clear HO621; clear HO624; clear BK616; clear BK617; clear BK625; clear HB; have HO621 := n0_; have HO624 := n1_; have BK616 := n2_; have BK617 := n3_; have BK625 := n4_; have HB := n5_; clear n0_ n1_ n2_ n3_ n4_ n5_; (try clear hb); (try clear hb2); (try clear hk); (try clear hi); have hnb48 := NB625_617.out; have hnc48 := NB617_625.out; have hcz49_0 : w47.cell? ⟨gb625, 0, none⟩ = some (.int .i64 t618) := (blk_cell BK625.out 0).trans rfl; have hcz49_1 : w47.cell? ⟨gb625, 1, none⟩ = some (.slice Ao13 t619.length co13) := (blk_cell BK625.out 1).trans rfl; have hcz49_2 : w47.cell? ⟨gb625, 2, none⟩ = some (.slice Ao14 t622.length co14) := (blk_cell BK625.out 2).trans rfl; have hfz49_0 := blk_frozen BK625.out 0; have hfz49_1 := blk_frozen BK625.out 1; have hfz49_2 := blk_frozen BK625.out 2; have hcz50_0 : w47.cell? ⟨gb617, 0, none⟩ = some (.int .i64 0) := (blk_cell BK617.out 0).trans rfl; have hcz50_1 : w47.cell? ⟨gb617, 1, none⟩ = some (.slice none 0 0) := (blk_cell BK617.out 1).trans rfl; have hcz50_2 : w47.cell? ⟨gb617, 2, none⟩ = some (.slice none 0 0) := (blk_cell BK617.out 2).trans rfl; have hfz50_0 := blk_frozen BK617.out 0; have hfz50_1 := blk_frozen BK617.out 1; have hfz50_2 := blk_frozen BK617.out 2))
    refine bodyPost_ret (results_ct rfl _ _ gb617 25 #[.int .i64 t618, .slice Ao13 t619.length co13, .slice Ao14 t622.length co14] (0, 0) _ rfl (by (with_reducible repeat (first | refine blk_drewN ?_ _ | refine blk_drew ?_ | refine blk_alloc ?_ _ )); refine blk_put (cs := #[.int .i64 t618, .slice Ao13 t619.length co13, .slice none 0 0]) ?_ 2 _ rfl; (with_reducible repeat (first | refine blk_drewN ?_ _ | refine blk_drew ?_ | refine blk_alloc ?_ _ )); refine blk_put (cs := #[.int .i64 t618, .slice none 0 0, .slice none 0 0]) ?_ 1 _ rfl; (with_reducible repeat (first | refine blk_drewN ?_ _ | refine blk_drew ?_ | refine blk_alloc ?_ _ )); refine blk_put (cs := #[.int .i64 0, .slice none 0 0, .slice none 0 0]) ?_ 0 _ rfl; (with_reducible repeat (first | refine blk_drewN ?_ _ | refine blk_drew ?_ | refine blk_alloc ?_ _ )); exact BK617.out) Try.underlying25 rfl (by kernel_rfl)) rfl ?_
    exact ⟨_, _, by rfl, by (with_reducible repeat (first | apply Kd.R_alloc | apply Kd.R_drewN | apply Kd.R_drew )); exact Kd.R_mono (Kd.R_far (p := ⟨gb617, 2, none⟩) (Kd.R_far (p := ⟨gb617, 1, none⟩) (Kd.R_far (p := ⟨gb617, 0, none⟩) (Kd.R_types HO621.out BK617.out (by decide)) (fun _ hk => hk.2) (.int .i64 t618)) (fun _ hk => hk.2) (.slice Ao13 t619.length co13)) (fun _ hk => hk.2) (.slice Ao14 t622.length co14)) (fun _ hk => trivial), by (with_reducible repeat (first | apply Kd.R_alloc | apply Kd.R_drewN | apply Kd.R_drew )); exact Kd.R_mono (Kd.R_far (p := ⟨gb617, 2, none⟩) (Kd.R_far (p := ⟨gb617, 1, none⟩) (Kd.R_far (p := ⟨gb617, 0, none⟩) (Kd.R_types HO624.out BK617.out (by decide)) (fun _ hk => hk.2) (.int .i64 t618)) (fun _ hk => hk.2) (.slice Ao13 t619.length co13)) (fun _ hk => hk.2) (.slice Ao14 t622.length co14)) (fun _ hk => trivial), by repeat ((with_reducible first | exact HB.out | refine below_set ?_ GE617.out))⟩
mutual
def spec_RetireNode.j0 : Nat → Int → Bool → Int → List Int → List (S57) → Int → List Int → List (S57) → Option (Int × List Int × (List (S57)) × Bool)
  | 0, _, _, _, _, _, _, _, _ => none
  | k + 1, x1, x23, x699000, x699001, x699002, x708000, x708001, x708002 => if x23 = true then (some (x708000, x708001, x708002, false)) else (spec_RetireNode.l0 k x1 0 x699000 x699001 x699002 x708000 x708001 x708002)
def spec_RetireNode.l0 : Nat → Int → Int → Int → List Int → List (S57) → Int → List Int → List (S57) → Option (Int × List Int × (List (S57)) × Bool)
  | 0, _, _, _, _, _, _, _, _ => none
  | k + 1, x1, x7, x699000, x699001, x699002, x708000, x708001, x708002 => if x7 < (x699002.length : Int) then (if 0 ≤ x7 then (if ((rd_T57 x699002 x7).f0) = x1 then (some (x708000, x708001, x708002, false)) else (spec_RetireNode.l0 k x1 (wrap64 (x7 + 1)) x699000 x699001 x699002 x708000 x708001 x708002)) else (none)) else (if x708002.length < 8796093022208 then (some (x708000, x708001, (x708002 ++ [(⟨x1, x699000⟩ : S57)]), true)) else (none))
end
def spec_RetireNode.f (k : Nat) (a0_0 : Int) (l0_1 : List Int) (l0_2 : List (S57)) (a1 : Int) : Option (Int × List Int × (List (S57)) × Bool) := (spec_l08Copy.f a0_0 l0_1 l0_2).bind fun bt700 => ((spec_EpochsOk.f k a0_0 l0_1 l0_2).bind fun t708 => (if t708 = true then ((spec_l01In.f a1 1 20).bind fun t709 => (if t709 = true then (spec_RetireNode.j0 k a1 ((l0_2.length : Int) == 40) a0_0 l0_1 l0_2 bt700.1 bt700.2.1 bt700.2.2) else (spec_RetireNode.j0 k a1 true a0_0 l0_1 l0_2 bt700.1 bt700.2.1 bt700.2.2))) else (spec_RetireNode.j0 k a1 true a0_0 l0_1 l0_2 bt700.1 bt700.2.1 bt700.2.2)))
set_option maxHeartbeats 8000000 in
set_option maxRecDepth 100000 in
theorem spec_RetireNode.calls (k : Nat) (a0_0 : Int) (A0_1 : Option Addr) (c0_1 : Nat) (l0_1 : List Int) (A0_2 : Option Addr) (c0_2 : Nat) (l0_2 : List (S57)) (a1 : Int) (r1 : Int) (r2 : List Int) (r3 : List (S57)) (r4 : Bool) (w : World) (hr0_1 : Kd.C (Kd.int .i64) w A0_1 l0_1.length l0_1) (hc0_1 : l0_1.length ≤ c0_1) (hr0_2 : Kd.C k57 w A0_2 l0_2.length l0_2) (hc0_2 : l0_2.length ≤ c0_2) (h : spec_RetireNode.f k a0_0 l0_1 l0_2 a1 = some (r1, r2, r3, r4)) :
    Calls Try.prog 33 #[.agg #[.int .i64 a0_0, .slice A0_1 l0_1.length c0_1, .slice A0_2 l0_2.length c0_2], .int .i64 a1] w fun e w' => ∃ v1_ v2_ : Value, e = .returned (.tuple #[.agg #[.int .i64 r1, v1_, v2_], .bool r4]) ∧ Kd.R (Kd.int .i64) 3 w' w.heap.size (fun _ => True) v1_ r2 ∧ Kd.R k57 57 w' w.heap.size (fun _ => True) v2_ r3 ∧ Below w.heap.size w w' := by
  have hu25 := Try.underlying25
  have hu57 := Try.underlying57
  have HR0_1 := Aside0.mk hr0_1
  have HC0_1 := Aside0.mk hc0_1
  clear hr0_1 hc0_1
  have HR0_2 := Aside0.mk hr0_2
  have HC0_2 := Aside0.mk hc0_2
  clear hr0_2 hc0_2
  have HB := Aside0.mk (Below.refl w.heap.size w)
  have H : ((spec_l08Copy.f a0_0 l0_1 l0_2).bind fun bt700 => ((spec_EpochsOk.f k a0_0 l0_1 l0_2).bind fun t708 => (if t708 = true then ((spec_l01In.f a1 1 20).bind fun t709 => (if t709 = true then (spec_RetireNode.j0 k a1 ((l0_2.length : Int) == 40) a0_0 l0_1 l0_2 bt700.1 bt700.2.1 bt700.2.2) else (spec_RetireNode.j0 k a1 true a0_0 l0_1 l0_2 bt700.1 bt700.2.1 bt700.2.2))) else (spec_RetireNode.j0 k a1 true a0_0 l0_1 l0_2 bt700.1 bt700.2.1 bt700.2.2)))) = some (r1, r2, r3, r4) := h
  clear h
  replace H := Option.bind_eq_some_iff.mp H
  obtain ⟨⟨t700, t701, t704⟩, A30, H⟩ := H
  replace H : ((spec_EpochsOk.f k a0_0 l0_1 l0_2).bind fun t708 => (if t708 = true then ((spec_l01In.f a1 1 20).bind fun t709 => (if t709 = true then (spec_RetireNode.j0 k a1 ((l0_2.length : Int) == 40) a0_0 l0_1 l0_2 t700 t701 t704) else (spec_RetireNode.j0 k a1 true a0_0 l0_1 l0_2 t700 t701 t704))) else (spec_RetireNode.j0 k a1 true a0_0 l0_1 l0_2 t700 t701 t704))) = some (r1, r2, r3, r4) := H
  have A3 := Aside0.mk A30
  clear A30
  have HC4 := Aside0.mk H
  clear H
  go_enter Try.func33, Try.ntmps33
  go_upto_region 2 with (first | ((with_reducible refine gate_dst (N := 2) rfl ?_); (try (refine gate_guard (by rfl) ?_; dsimp only)); refine box_event ?hg (N := 2) ?hd (cs := #[.int .i64 a0_0, .slice A0_1 l0_1.length c0_1, .slice A0_2 l0_2.length c0_2]) (t := 25) ?hr ?_; (case hd => rfl); (case hg => rfl); (case hr => (go_simp; done)); intro gb698 hg w5 hbox hb; have n0_ := Aside0.mk (below_step (by repeat ((with_reducible exact HB.out))) hb); have n1_ := Aside0.mk (hbox); have n2_ := Aside0.mk ((by rw [hg]; exact (below_size (by repeat ((with_reducible exact HB.out)))) : w.heap.size ≤ gb698)); have n3_ := Aside0.mk ((by rw [hg]; exact (below_size (by repeat ((with_reducible exact HB.out)))) : w.heap.size ≤ gb698)); clear HB; have HB := n0_; have BK698 := n1_; have GW698 := n2_; have GE698 := n3_; clear n0_ n1_ n2_ n3_; clear hb hbox hg) | ((with_reducible refine gate_dst (N := 4) rfl ?_); (try (refine gate_guard (by rfl) ?_; dsimp only)); refine box_event ?hg (N := 4) ?hd (cs := #[.int .i64 0, .slice none 0 0, .slice none 0 0]) (t := 25) ?hr ?_; (case hd => rfl); (case hg => rfl); (case hr => (go_simp; done)); intro gb699 hg w6 hbox hb; have n0_ := Aside0.mk (blk_below (g := gb698) (o := .cells #[.int .i64 a0_0, .slice A0_1 l0_1.length c0_1, .slice A0_2 l0_2.length c0_2] 25 (0, 0)) (by (with_reducible repeat (first | refine blk_drewN ?_ _ | refine blk_drew ?_ | refine blk_alloc ?_ _ )); exact BK698.out) hb); have n1_ := Aside0.mk (below_step (by repeat ((with_reducible exact HB.out))) hb); have n2_ := Aside0.mk (hbox); have n3_ := Aside0.mk ((by rw [hg]; exact (below_size (by repeat ((with_reducible exact HB.out)))) : w.heap.size ≤ gb699)); have n4_ := Aside0.mk ((by rw [hg]; exact (below_size (by repeat ((with_reducible exact HB.out)))) : w.heap.size ≤ gb699)); have n5_ := Aside0.mk ((by rw [hg]; exact Nat.ne_of_lt (blk_lt (g := gb698) (o := .cells #[.int .i64 a0_0, .slice A0_1 l0_1.length c0_1, .slice A0_2 l0_2.length c0_2] 25 (0, 0)) (by (with_reducible repeat (first | refine blk_drewN ?_ _ | refine blk_drew ?_ | refine blk_alloc ?_ _ )); exact BK698.out)) : gb698 ≠ gb699)); have n6_ := Aside0.mk ((by rw [hg]; exact Nat.ne_of_gt (blk_lt (g := gb698) (o := .cells #[.int .i64 a0_0, .slice A0_1 l0_1.length c0_1, .slice A0_2 l0_2.length c0_2] 25 (0, 0)) (by (with_reducible repeat (first | refine blk_drewN ?_ _ | refine blk_drew ?_ | refine blk_alloc ?_ _ )); exact BK698.out)) : gb699 ≠ gb698)); clear BK698; clear HB; have BK698 := n0_; have HB := n1_; have BK699 := n2_; have GW699 := n3_; have GE699 := n4_; have NB698_699 := n5_; have NB699_698 := n6_; clear n0_ n1_ n2_ n3_ n4_ n5_ n6_; clear hb hbox hg; have hnb7 := NB698_699.out; have hnc7 := NB699_698.out; have hcz8_0 : w6.cell? ⟨gb698, 0, none⟩ = some (.int .i64 a0_0) := (blk_cell BK698.out 0).trans rfl; have hcz8_1 : w6.cell? ⟨gb698, 1, none⟩ = some (.slice A0_1 l0_1.length c0_1) := (blk_cell BK698.out 1).trans rfl; have hcz8_2 : w6.cell? ⟨gb698, 2, none⟩ = some (.slice A0_2 l0_2.length c0_2) := (blk_cell BK698.out 2).trans rfl; have hfz8_0 := blk_frozen BK698.out 0; have hfz8_1 := blk_frozen BK698.out 1; have hfz8_2 := blk_frozen BK698.out 2) | ((with_reducible refine gate_callee (f := 52) rfl ?_); refine goesL_ (some 9) rfl rfl Try.func52 (by kernel_rfl) rfl #[.agg #[.int .i64 a0_0, .slice A0_1 l0_1.length c0_1, .slice A0_2 l0_2.length c0_2]] rfl (by (try simp only [List.map_toArray, List.map_cons, List.map_nil]); rfl) ?_; (with_reducible refine (spec_l08Copy.calls a0_0 _ _ l0_1 _ _ l0_2 t700 t701 t704 _ ?side1 ?side2 ?side3 ?side4 A3.out).mono ?_); (case side1 => repeat (exact (Kd.C_below HR0_1.out HB.out))); (case side2 => exact HC0_1.out); (case side3 => repeat (exact (Kd.C_below HR0_2.out HB.out))); (case side4 => exact HC0_2.out); rintro e w9 ⟨v702, v705, rfl, ho0, ho1, hb⟩; refine ⟨_, rfl, ?_⟩; have n0_ := Aside0.mk (Kd.R_lower ho0 (below_size (by repeat ((with_reducible exact HB.out))))); have n1_ := Aside0.mk (Kd.R_lower ho1 (below_size (by repeat ((with_reducible exact HB.out))))); have n2_ := Aside0.mk (blk_below (g := gb698) (o := .cells #[.int .i64 a0_0, .slice A0_1 l0_1.length c0_1, .slice A0_2 l0_2.length c0_2] 25 (0, 0)) (by (with_reducible repeat (first | refine blk_drewN ?_ _ | refine blk_drew ?_ | refine blk_alloc ?_ _ )); exact BK698.out) hb); have n3_ := Aside0.mk (blk_below (g := gb699) (o := .cells #[.int .i64 0, .slice none 0 0, .slice none 0 0] 25 (0, 0)) (by (with_reducible repeat (first | refine blk_drewN ?_ _ | refine blk_drew ?_ | refine blk_alloc ?_ _ )); exact BK699.out) hb); have n4_ := Aside0.mk (below_step (by repeat ((with_reducible exact HB.out))) hb); clear BK698; clear BK699; clear HB; have HO703 := n0_; have HO706 := n1_; have BK698 := n2_; have BK699 := n3_; have HB := n4_; clear n0_ n1_ n2_ n3_ n4_; (try clear hb); (try clear hb2); (try clear hk); (try clear hi); (try clear ho0); (try clear ho1)) | ((with_reducible refine gate_dst (N := 6) rfl ?_); (try (refine gate_guard (by rfl) ?_; dsimp only)); refine box_event ?hg (N := 6) ?hd (cs := #[.int .i64 0, .slice none 0 0, .slice none 0 0]) (t := 25) ?hr ?_; (case hd => rfl); (case hg => rfl); (case hr => (go_simp; done)); intro gb707 hg w10 hbox hb; have n0_ := Aside0.mk (Kd.R_below (by (with_reducible repeat (first | apply Kd.R_alloc | apply Kd.R_drewN | apply Kd.R_drew )); exact HO703.out) hb); have n1_ := Aside0.mk (Kd.R_below (by (with_reducible repeat (first | apply Kd.R_alloc | apply Kd.R_drewN | apply Kd.R_drew )); exact HO706.out) hb); have n2_ := Aside0.mk (blk_below (g := gb698) (o := .cells #[.int .i64 a0_0, .slice A0_1 l0_1.length c0_1, .slice A0_2 l0_2.length c0_2] 25 (0, 0)) (by (with_reducible repeat (first | refine blk_drewN ?_ _ | refine blk_drew ?_ | refine blk_alloc ?_ _ )); exact BK698.out) hb); have n3_ := Aside0.mk (blk_below (g := gb699) (o := .cells #[.int .i64 0, .slice none 0 0, .slice none 0 0] 25 (0, 0)) (by (with_reducible repeat (first | refine blk_drewN ?_ _ | refine blk_drew ?_ | refine blk_alloc ?_ _ )); exact BK699.out) hb); have n4_ := Aside0.mk (below_step (by repeat ((with_reducible exact HB.out))) hb); have n5_ := Aside0.mk (hbox); have n6_ := Aside0.mk ((by rw [hg]; exact (below_size (by repeat ((with_reducible exact HB.out)))) : w.heap.size ≤ gb707)); have n7_ := Aside0.mk ((by rw [hg]; exact (below_size (by repeat ((with_reducible exact HB.out)))) : w.heap.size ≤ gb707)); have n8_ := Aside0.mk ((by rw [hg]; exact Nat.ne_of_lt (blk_lt (g := gb698) (o := .cells #[.int .i64 a0_0, .slice A0_1 l0_1.length c0_1, .slice A0_2 l0_2.length c0_2] 25 (0, 0)) (by (with_reducible repeat (first | refine blk_drewN ?_ _ | refine blk_drew ?_ | refine blk_alloc ?_ _ )); exact BK698.out)) : gb698 ≠ gb707)); have n9_ := Aside0.mk ((by rw [hg]; exact Nat.ne_of_gt (blk_lt (g := gb698) (o := .cells #[.int .i64 a0_0, .slice A0_1 l0_1.length c0_1, .slice A0_2 l0_2.length c0_2] 25 (0, 0)) (by (with_reducible repeat (first | refine blk_drewN ?_ _ | refine blk_drew ?_ | refine blk_alloc ?_ _ )); exact BK698.out)) : gb707 ≠ gb698)); have n10_ := Aside0.mk ((by rw [hg]; exact Nat.ne_of_lt (blk_lt (g := gb699) (o := .cells #[.int .i64 0, .slice none 0 0, .slice none 0 0] 25 (0, 0)) (by (with_reducible repeat (first | refine blk_drewN ?_ _ | refine blk_drew ?_ | refine blk_alloc ?_ _ )); exact BK699.out)) : gb699 ≠ gb707)); have n11_ := Aside0.mk ((by rw [hg]; exact Nat.ne_of_gt (blk_lt (g := gb699) (o := .cells #[.int .i64 0, .slice none 0 0, .slice none 0 0] 25 (0, 0)) (by (with_reducible repeat (first | refine blk_drewN ?_ _ | refine blk_drew ?_ | refine blk_alloc ?_ _ )); exact BK699.out)) : gb707 ≠ gb699)); clear HO703; clear HO706; clear BK698; clear BK699; clear HB; have HO703 := n0_; have HO706 := n1_; have BK698 := n2_; have BK699 := n3_; have HB := n4_; have BK707 := n5_; have GW707 := n6_; have GE707 := n7_; have NB698_707 := n8_; have NB707_698 := n9_; have NB699_707 := n10_; have NB707_699 := n11_; clear n0_ n1_ n2_ n3_ n4_ n5_ n6_ n7_ n8_ n9_ n10_ n11_; clear hb hbox hg; have hnb11 := NB707_698.out; have hnc11 := NB698_707.out; have hnb12 := NB707_699.out; have hnc12 := NB699_707.out; have hcz13_0 : w10.cell? ⟨gb707, 0, none⟩ = some (.int .i64 0) := (blk_cell BK707.out 0).trans rfl; have hcz13_1 : w10.cell? ⟨gb707, 1, none⟩ = some (.slice none 0 0) := (blk_cell BK707.out 1).trans rfl; have hcz13_2 : w10.cell? ⟨gb707, 2, none⟩ = some (.slice none 0 0) := (blk_cell BK707.out 2).trans rfl; have hfz13_0 := blk_frozen BK707.out 0; have hfz13_1 := blk_frozen BK707.out 1; have hfz13_2 := blk_frozen BK707.out 2; obtain ⟨Ao14, co14, eo14⟩ := Kd.R_slice HO703.out; subst eo14; obtain ⟨Ao15, co15, eo15⟩ := Kd.R_slice HO706.out; subst eo15))
  (try simp only [Act.put, List.setIfInBounds_toArray, List.set_cons_zero, List.set_cons_succ])
  go_cut [23] (fun v23 wc => ∃ (kq : Nat) (x23_3 : Bool), v23 = .bool x23_3 ∧ Aside0 (spec_RetireNode.j0 kq a1 x23_3 a0_0 l0_1 l0_2 t700 t701 t704 = some (r1, r2, r3, r4)) ∧ Aside0 (kq ≤ k) ∧ Aside0 (Kd.R (Kd.int .i64) 3 wc w.heap.size (fun _ => True) (.slice Ao14 t701.length co14) t701) ∧ Aside0 (Kd.R k57 57 wc w.heap.size (fun _ => True) (.slice Ao15 t704.length co15) t704) ∧ Aside0 (wc.heap[gb698]? = some (.cells #[.int .i64 a0_0, (.slice A0_1 l0_1.length c0_1), (.slice A0_2 l0_2.length c0_2)] 25 (0, 0))) ∧ Aside0 (wc.heap[gb699]? = some (.cells #[.int .i64 0, (.slice none 0 0), (.slice none 0 0)] 25 (0, 0))) ∧ Aside0 (wc.heap[gb707]? = some (.cells #[.int .i64 t700, (.slice Ao14 t701.length co14), (.slice Ao15 t704.length co15)] 25 (0, 0))) ∧ Aside0 (Below w.heap.size w wc))
  case first =>
    have H := HC4.out
    clear HC4
    replace H := Option.bind_eq_some_iff.mp H
    obtain ⟨t708, A160, H⟩ := H
    replace H : (if t708 = true then ((spec_l01In.f a1 1 20).bind fun t709 => (if t709 = true then (spec_RetireNode.j0 k a1 ((l0_2.length : Int) == 40) a0_0 l0_1 l0_2 t700 t701 t704) else (spec_RetireNode.j0 k a1 true a0_0 l0_1 l0_2 t700 t701 t704))) else (spec_RetireNode.j0 k a1 true a0_0 l0_1 l0_2 t700 t701 t704)) = some (r1, r2, r3, r4) := H
    have A16 := Aside0.mk A160
    clear A160
    by_cases c17 : t708 = true
    · subst c17
      have H1 : ((spec_l01In.f a1 1 20).bind fun t709 => (if t709 = true then (spec_RetireNode.j0 k a1 ((l0_2.length : Int) == 40) a0_0 l0_1 l0_2 t700 t701 t704) else (spec_RetireNode.j0 k a1 true a0_0 l0_1 l0_2 t700 t701 t704))) = some (r1, r2, r3, r4) := by rw [if_pos rfl] at H; exact H
      clear H
      have H := H1
      clear H1
      replace H := Option.bind_eq_some_iff.mp H
      obtain ⟨t709, A180, H⟩ := H
      replace H : (if t709 = true then (spec_RetireNode.j0 k a1 ((l0_2.length : Int) == 40) a0_0 l0_1 l0_2 t700 t701 t704) else (spec_RetireNode.j0 k a1 true a0_0 l0_1 l0_2 t700 t701 t704)) = some (r1, r2, r3, r4) := H
      have A18 := Aside0.mk A180
      clear A180
      by_cases c19 : t709 = true
      · subst c19
        have H1 : (spec_RetireNode.j0 k a1 ((l0_2.length : Int) == 40) a0_0 l0_1 l0_2 t700 t701 t704) = some (r1, r2, r3, r4) := by rw [if_pos rfl] at H; exact H
        clear H
        have H := H1
        clear H1
        have H' := Aside0.mk H
        clear H
        have hnb20 := NB698_699.out
        have hnc20 := NB699_698.out
        have hnb21 := NB698_707.out
        have hnc21 := NB707_698.out
        have hcz22_0 : w10.cell? ⟨gb698, 0, none⟩ = some (.int .i64 a0_0) := (blk_cell BK698.out 0).trans rfl
        have hcz22_1 : w10.cell? ⟨gb698, 1, none⟩ = some (.slice A0_1 l0_1.length c0_1) := (blk_cell BK698.out 1).trans rfl
        have hcz22_2 : w10.cell? ⟨gb698, 2, none⟩ = some (.slice A0_2 l0_2.length c0_2) := (blk_cell BK698.out 2).trans rfl
        have hfz22_0 := blk_frozen BK698.out 0
        have hfz22_1 := blk_frozen BK698.out 1
        have hfz22_2 := blk_frozen BK698.out 2
        go_wp2_with (first | ((with_reducible refine gate_callee (f := 19) rfl ?_); refine goesL_ (some 11) rfl rfl Try.func19 (by kernel_rfl) rfl #[.agg #[.int .i64 a0_0, .slice A0_1 l0_1.length c0_1, .slice A0_2 l0_2.length c0_2]] rfl (by (try simp only [List.map_toArray, List.map_cons, List.map_nil]); rfl) ?_; (with_reducible refine (spec_EpochsOk.calls k a0_0 _ _ l0_1 _ _ l0_2 true _ ?side1 ?side2 ?side3 ?side4 A16.out).mono ?_); (case side1 => exact Kd.C_below HR0_1.out (by repeat ((with_reducible first | exact HB.out | refine below_set ?_ GE707.out)))); (case side2 => exact HC0_1.out); (case side3 => exact Kd.C_below HR0_2.out (by repeat ((with_reducible first | exact HB.out | refine below_set ?_ GE707.out)))); (case side4 => exact HC0_2.out); rintro e w23 ⟨rfl, hb⟩; refine ⟨_, rfl, ?_⟩; have n0_ := Aside0.mk (Kd.R_below (by (with_reducible repeat (first | apply Kd.R_alloc | apply Kd.R_drewN | apply Kd.R_drew )); exact (Kd.R_mono (Kd.R_far (p := ⟨gb707, 2, none⟩) (Kd.R_far (p := ⟨gb707, 1, none⟩) (Kd.R_far (p := ⟨gb707, 0, none⟩) (Kd.R_types HO703.out BK707.out (by decide)) (fun _ hk => hk.2) (.int .i64 t700)) (fun _ hk => hk.2) (.slice Ao14 t701.length co14)) (fun _ hk => hk.2) (.slice Ao15 t704.length co15)) (fun _ h_ => by exact h_.1))) hb); have n1_ := Aside0.mk (Kd.R_below (by (with_reducible repeat (first | apply Kd.R_alloc | apply Kd.R_drewN | apply Kd.R_drew )); exact (Kd.R_mono (Kd.R_far (p := ⟨gb707, 2, none⟩) (Kd.R_far (p := ⟨gb707, 1, none⟩) (Kd.R_far (p := ⟨gb707, 0, none⟩) (Kd.R_types HO706.out BK707.out (by decide)) (fun _ hk => hk.2) (.int .i64 t700)) (fun _ hk => hk.2) (.slice Ao14 t701.length co14)) (fun _ hk => hk.2) (.slice Ao15 t704.length co15)) (fun _ h_ => by exact h_.1))) hb); have n2_ := Aside0.mk (blk_below (g := gb698) (o := .cells #[.int .i64 a0_0, .slice A0_1 l0_1.length c0_1, .slice A0_2 l0_2.length c0_2] 25 (0, 0)) (by (with_reducible repeat (first | refine blk_drewN ?_ _ | refine blk_drew ?_ | refine blk_alloc ?_ _ )); refine blk_far ?_ NB698_707.out _; (with_reducible repeat (first | refine blk_drewN ?_ _ | refine blk_drew ?_ | refine blk_alloc ?_ _ )); refine blk_far ?_ NB698_707.out _; (with_reducible repeat (first | refine blk_drewN ?_ _ | refine blk_drew ?_ | refine blk_alloc ?_ _ )); refine blk_far ?_ NB698_707.out _; (with_reducible repeat (first | refine blk_drewN ?_ _ | refine blk_drew ?_ | refine blk_alloc ?_ _ )); exact BK698.out) hb); have n3_ := Aside0.mk (blk_below (g := gb699) (o := .cells #[.int .i64 0, .slice none 0 0, .slice none 0 0] 25 (0, 0)) (by (with_reducible repeat (first | refine blk_drewN ?_ _ | refine blk_drew ?_ | refine blk_alloc ?_ _ )); refine blk_far ?_ NB699_707.out _; (with_reducible repeat (first | refine blk_drewN ?_ _ | refine blk_drew ?_ | refine blk_alloc ?_ _ )); refine blk_far ?_ NB699_707.out _; (with_reducible repeat (first | refine blk_drewN ?_ _ | refine blk_drew ?_ | refine blk_alloc ?_ _ )); refine blk_far ?_ NB699_707.out _; (with_reducible repeat (first | refine blk_drewN ?_ _ | refine blk_drew ?_ | refine blk_alloc ?_ _ )); exact BK699.out) hb); have n4_ := Aside0.mk (blk_below (g := gb707) (o := .cells #[.int .i64 t700, .slice Ao14 t701.length co14, .slice Ao15 t704.length co15] 25 (0, 0)) (by (with_reducible repeat (first | refine blk_drewN ?_ _ | refine blk_drew ?_ | refine blk_alloc ?_ _ )); refine blk_put (cs := #[.int .i64 t700, .slice Ao14 t701.length co14, .slice none 0 0]) ?_ 2 _ rfl; (with_reducible repeat (first | refine blk_drewN ?_ _ | refine blk_drew ?_ | refine blk_alloc ?_ _ )); refine blk_put (cs := #[.int .i64 t700, .slice none 0 0, .slice none 0 0]) ?_ 1 _ rfl; (with_reducible repeat (first | refine blk_drewN ?_ _ | refine blk_drew ?_ | refine blk_alloc ?_ _ )); refine blk_put (cs := #[.int .i64 0, .slice none 0 0, .slice none 0 0]) ?_ 0 _ rfl; (with_reducible repeat (first | refine blk_drewN ?_ _ | refine blk_drew ?_ | refine blk_alloc ?_ _ )); exact BK707.out) hb); have n5_ := Aside0.mk (below_step (by repeat ((with_reducible first | exact HB.out | refine below_set ?_ GE707.out))) hb); clear HO703; clear HO706; clear BK698; clear BK699; clear BK707; clear HB; have HO703 := n0_; have HO706 := n1_; have BK698 := n2_; have BK699 := n3_; have BK707 := n4_; have HB := n5_; clear n0_ n1_ n2_ n3_ n4_ n5_; (try clear hb); (try clear hb2); (try clear hk); (try clear hi)) | (go_at_call 48; (with_reducible refine (spec_l01In.calls a1 1 20 true _ A18.out).mono ?_); rintro e w' ⟨rfl, rfl⟩; have hcz24_0 : w23.cell? ⟨gb698, 0, none⟩ = some (.int .i64 a0_0) := (blk_cell BK698.out 0).trans rfl; have hcz24_1 : w23.cell? ⟨gb698, 1, none⟩ = some (.slice A0_1 l0_1.length c0_1) := (blk_cell BK698.out 1).trans rfl; have hcz24_2 : w23.cell? ⟨gb698, 2, none⟩ = some (.slice A0_2 l0_2.length c0_2) := (blk_cell BK698.out 2).trans rfl; have hfz24_0 := blk_frozen BK698.out 0; have hfz24_1 := blk_frozen BK698.out 1; have hfz24_2 := blk_frozen BK698.out 2))
        go_meet
        case rel => exact ⟨_, (((l0_2.length : Int) == 40)), (by rfl), H', ⟨by omega⟩, ⟨by (with_reducible repeat (first | apply Kd.R_alloc | apply Kd.R_drewN | apply Kd.R_drew )); exact HO703.out⟩, ⟨by (with_reducible repeat (first | apply Kd.R_alloc | apply Kd.R_drewN | apply Kd.R_drew )); exact HO706.out⟩, ⟨by (with_reducible repeat (first | refine blk_drewN ?_ _ | refine blk_drew ?_ | refine blk_alloc ?_ _ )); exact BK698.out⟩, ⟨by (with_reducible repeat (first | refine blk_drewN ?_ _ | refine blk_drew ?_ | refine blk_alloc ?_ _ )); exact BK699.out⟩, ⟨by (with_reducible repeat (first | refine blk_drewN ?_ _ | refine blk_drew ?_ | refine blk_alloc ?_ _ )); exact BK707.out⟩, ⟨by repeat ((with_reducible exact HB.out))⟩⟩
      · replace c19 := Bool.eq_false_iff.mpr c19
        subst c19
        have H1 : (spec_RetireNode.j0 k a1 true a0_0 l0_1 l0_2 t700 t701 t704) = some (r1, r2, r3, r4) := by rw [if_neg (show ¬ (false = true) by decide)] at H; exact H
        clear H
        have H := H1
        clear H1
        have H' := Aside0.mk H
        clear H
        have hnb25 := NB698_699.out
        have hnc25 := NB699_698.out
        have hnb26 := NB698_707.out
        have hnc26 := NB707_698.out
        have hcz27_0 : w10.cell? ⟨gb698, 0, none⟩ = some (.int .i64 a0_0) := (blk_cell BK698.out 0).trans rfl
        have hcz27_1 : w10.cell? ⟨gb698, 1, none⟩ = some (.slice A0_1 l0_1.length c0_1) := (blk_cell BK698.out 1).trans rfl
        have hcz27_2 : w10.cell? ⟨gb698, 2, none⟩ = some (.slice A0_2 l0_2.length c0_2) := (blk_cell BK698.out 2).trans rfl
        have hfz27_0 := blk_frozen BK698.out 0
        have hfz27_1 := blk_frozen BK698.out 1
        have hfz27_2 := blk_frozen BK698.out 2
        go_wp2_with (first | ((with_reducible refine gate_callee (f := 19) rfl ?_); refine goesL_ (some 11) rfl rfl Try.func19 (by kernel_rfl) rfl #[.agg #[.int .i64 a0_0, .slice A0_1 l0_1.length c0_1, .slice A0_2 l0_2.length c0_2]] rfl (by (try simp only [List.map_toArray, List.map_cons, List.map_nil]); rfl) ?_; (with_reducible refine (spec_EpochsOk.calls k a0_0 _ _ l0_1 _ _ l0_2 true _ ?side1 ?side2 ?side3 ?side4 A16.out).mono ?_); (case side1 => exact Kd.C_below HR0_1.out (by repeat ((with_reducible first | exact HB.out | refine below_set ?_ GE707.out)))); (case side2 => exact HC0_1.out); (case side3 => exact Kd.C_below HR0_2.out (by repeat ((with_reducible first | exact HB.out | refine below_set ?_ GE707.out)))); (case side4 => exact HC0_2.out); rintro e w28 ⟨rfl, hb⟩; refine ⟨_, rfl, ?_⟩; have n0_ := Aside0.mk (Kd.R_below (by (with_reducible repeat (first | apply Kd.R_alloc | apply Kd.R_drewN | apply Kd.R_drew )); exact (Kd.R_mono (Kd.R_far (p := ⟨gb707, 2, none⟩) (Kd.R_far (p := ⟨gb707, 1, none⟩) (Kd.R_far (p := ⟨gb707, 0, none⟩) (Kd.R_types HO703.out BK707.out (by decide)) (fun _ hk => hk.2) (.int .i64 t700)) (fun _ hk => hk.2) (.slice Ao14 t701.length co14)) (fun _ hk => hk.2) (.slice Ao15 t704.length co15)) (fun _ h_ => by exact h_.1))) hb); have n1_ := Aside0.mk (Kd.R_below (by (with_reducible repeat (first | apply Kd.R_alloc | apply Kd.R_drewN | apply Kd.R_drew )); exact (Kd.R_mono (Kd.R_far (p := ⟨gb707, 2, none⟩) (Kd.R_far (p := ⟨gb707, 1, none⟩) (Kd.R_far (p := ⟨gb707, 0, none⟩) (Kd.R_types HO706.out BK707.out (by decide)) (fun _ hk => hk.2) (.int .i64 t700)) (fun _ hk => hk.2) (.slice Ao14 t701.length co14)) (fun _ hk => hk.2) (.slice Ao15 t704.length co15)) (fun _ h_ => by exact h_.1))) hb); have n2_ := Aside0.mk (blk_below (g := gb698) (o := .cells #[.int .i64 a0_0, .slice A0_1 l0_1.length c0_1, .slice A0_2 l0_2.length c0_2] 25 (0, 0)) (by (with_reducible repeat (first | refine blk_drewN ?_ _ | refine blk_drew ?_ | refine blk_alloc ?_ _ )); refine blk_far ?_ NB698_707.out _; (with_reducible repeat (first | refine blk_drewN ?_ _ | refine blk_drew ?_ | refine blk_alloc ?_ _ )); refine blk_far ?_ NB698_707.out _; (with_reducible repeat (first | refine blk_drewN ?_ _ | refine blk_drew ?_ | refine blk_alloc ?_ _ )); refine blk_far ?_ NB698_707.out _; (with_reducible repeat (first | refine blk_drewN ?_ _ | refine blk_drew ?_ | refine blk_alloc ?_ _ )); exact BK698.out) hb); have n3_ := Aside0.mk (blk_below (g := gb699) (o := .cells #[.int .i64 0, .slice none 0 0, .slice none 0 0] 25 (0, 0)) (by (with_reducible repeat (first | refine blk_drewN ?_ _ | refine blk_drew ?_ | refine blk_alloc ?_ _ )); refine blk_far ?_ NB699_707.out _; (with_reducible repeat (first | refine blk_drewN ?_ _ | refine blk_drew ?_ | refine blk_alloc ?_ _ )); refine blk_far ?_ NB699_707.out _; (with_reducible repeat (first | refine blk_drewN ?_ _ | refine blk_drew ?_ | refine blk_alloc ?_ _ )); refine blk_far ?_ NB699_707.out _; (with_reducible repeat (first | refine blk_drewN ?_ _ | refine blk_drew ?_ | refine blk_alloc ?_ _ )); exact BK699.out) hb); have n4_ := Aside0.mk (blk_below (g := gb707) (o := .cells #[.int .i64 t700, .slice Ao14 t701.length co14, .slice Ao15 t704.length co15] 25 (0, 0)) (by (with_reducible repeat (first | refine blk_drewN ?_ _ | refine blk_drew ?_ | refine blk_alloc ?_ _ )); refine blk_put (cs := #[.int .i64 t700, .slice Ao14 t701.length co14, .slice none 0 0]) ?_ 2 _ rfl; (with_reducible repeat (first | refine blk_drewN ?_ _ | refine blk_drew ?_ | refine blk_alloc ?_ _ )); refine blk_put (cs := #[.int .i64 t700, .slice none 0 0, .slice none 0 0]) ?_ 1 _ rfl; (with_reducible repeat (first | refine blk_drewN ?_ _ | refine blk_drew ?_ | refine blk_alloc ?_ _ )); refine blk_put (cs := #[.int .i64 0, .slice none 0 0, .slice none 0 0]) ?_ 0 _ rfl; (with_reducible repeat (first | refine blk_drewN ?_ _ | refine blk_drew ?_ | refine blk_alloc ?_ _ )); exact BK707.out) hb); have n5_ := Aside0.mk (below_step (by repeat ((with_reducible first | exact HB.out | refine below_set ?_ GE707.out))) hb); clear HO703; clear HO706; clear BK698; clear BK699; clear BK707; clear HB; have HO703 := n0_; have HO706 := n1_; have BK698 := n2_; have BK699 := n3_; have BK707 := n4_; have HB := n5_; clear n0_ n1_ n2_ n3_ n4_ n5_; (try clear hb); (try clear hb2); (try clear hk); (try clear hi)) | (go_at_call 48; (with_reducible refine (spec_l01In.calls a1 1 20 false _ A18.out).mono ?_); rintro e w' ⟨rfl, rfl⟩))
        go_meet
        case rel => exact ⟨_, (true), (by rfl), H', ⟨by omega⟩, ⟨by (with_reducible repeat (first | apply Kd.R_alloc | apply Kd.R_drewN | apply Kd.R_drew )); exact HO703.out⟩, ⟨by (with_reducible repeat (first | apply Kd.R_alloc | apply Kd.R_drewN | apply Kd.R_drew )); exact HO706.out⟩, ⟨by (with_reducible repeat (first | refine blk_drewN ?_ _ | refine blk_drew ?_ | refine blk_alloc ?_ _ )); exact BK698.out⟩, ⟨by (with_reducible repeat (first | refine blk_drewN ?_ _ | refine blk_drew ?_ | refine blk_alloc ?_ _ )); exact BK699.out⟩, ⟨by (with_reducible repeat (first | refine blk_drewN ?_ _ | refine blk_drew ?_ | refine blk_alloc ?_ _ )); exact BK707.out⟩, ⟨by repeat ((with_reducible exact HB.out))⟩⟩
    · replace c17 := Bool.eq_false_iff.mpr c17
      subst c17
      have H1 : (spec_RetireNode.j0 k a1 true a0_0 l0_1 l0_2 t700 t701 t704) = some (r1, r2, r3, r4) := by rw [if_neg (show ¬ (false = true) by decide)] at H; exact H
      clear H
      have H := H1
      clear H1
      have H' := Aside0.mk H
      clear H
      have hnb29 := NB698_699.out
      have hnc29 := NB699_698.out
      have hnb30 := NB698_707.out
      have hnc30 := NB707_698.out
      have hcz31_0 : w10.cell? ⟨gb698, 0, none⟩ = some (.int .i64 a0_0) := (blk_cell BK698.out 0).trans rfl
      have hcz31_1 : w10.cell? ⟨gb698, 1, none⟩ = some (.slice A0_1 l0_1.length c0_1) := (blk_cell BK698.out 1).trans rfl
      have hcz31_2 : w10.cell? ⟨gb698, 2, none⟩ = some (.slice A0_2 l0_2.length c0_2) := (blk_cell BK698.out 2).trans rfl
      have hfz31_0 := blk_frozen BK698.out 0
      have hfz31_1 := blk_frozen BK698.out 1
      have hfz31_2 := blk_frozen BK698.out 2
      go_wp2_with (((with_reducible refine gate_callee (f := 19) rfl ?_); refine goesL_ (some 11) rfl rfl Try.func19 (by kernel_rfl) rfl #[.agg #[.int .i64 a0_0, .slice A0_1 l0_1.length c0_1, .slice A0_2 l0_2.length c0_2]] rfl (by (try simp only [List.map_toArray, List.map_cons, List.map_nil]); rfl) ?_; (with_reducible refine (spec_EpochsOk.calls k a0_0 _ _ l0_1 _ _ l0_2 false _ ?side1 ?side2 ?side3 ?side4 A16.out).mono ?_); (case side1 => exact Kd.C_below HR0_1.out (by repeat ((with_reducible first | exact HB.out | refine below_set ?_ GE707.out)))); (case side2 => exact HC0_1.out); (case side3 => exact Kd.C_below HR0_2.out (by repeat ((with_reducible first | exact HB.out | refine below_set ?_ GE707.out)))); (case side4 => exact HC0_2.out); rintro e w32 ⟨rfl, hb⟩; refine ⟨_, rfl, ?_⟩; have n0_ := Aside0.mk (Kd.R_below (by (with_reducible repeat (first | apply Kd.R_alloc | apply Kd.R_drewN | apply Kd.R_drew )); exact (Kd.R_mono (Kd.R_far (p := ⟨gb707, 2, none⟩) (Kd.R_far (p := ⟨gb707, 1, none⟩) (Kd.R_far (p := ⟨gb707, 0, none⟩) (Kd.R_types HO703.out BK707.out (by decide)) (fun _ hk => hk.2) (.int .i64 t700)) (fun _ hk => hk.2) (.slice Ao14 t701.length co14)) (fun _ hk => hk.2) (.slice Ao15 t704.length co15)) (fun _ h_ => by exact h_.1))) hb); have n1_ := Aside0.mk (Kd.R_below (by (with_reducible repeat (first | apply Kd.R_alloc | apply Kd.R_drewN | apply Kd.R_drew )); exact (Kd.R_mono (Kd.R_far (p := ⟨gb707, 2, none⟩) (Kd.R_far (p := ⟨gb707, 1, none⟩) (Kd.R_far (p := ⟨gb707, 0, none⟩) (Kd.R_types HO706.out BK707.out (by decide)) (fun _ hk => hk.2) (.int .i64 t700)) (fun _ hk => hk.2) (.slice Ao14 t701.length co14)) (fun _ hk => hk.2) (.slice Ao15 t704.length co15)) (fun _ h_ => by exact h_.1))) hb); have n2_ := Aside0.mk (blk_below (g := gb698) (o := .cells #[.int .i64 a0_0, .slice A0_1 l0_1.length c0_1, .slice A0_2 l0_2.length c0_2] 25 (0, 0)) (by (with_reducible repeat (first | refine blk_drewN ?_ _ | refine blk_drew ?_ | refine blk_alloc ?_ _ )); refine blk_far ?_ NB698_707.out _; (with_reducible repeat (first | refine blk_drewN ?_ _ | refine blk_drew ?_ | refine blk_alloc ?_ _ )); refine blk_far ?_ NB698_707.out _; (with_reducible repeat (first | refine blk_drewN ?_ _ | refine blk_drew ?_ | refine blk_alloc ?_ _ )); refine blk_far ?_ NB698_707.out _; (with_reducible repeat (first | refine blk_drewN ?_ _ | refine blk_drew ?_ | refine blk_alloc ?_ _ )); exact BK698.out) hb); have n3_ := Aside0.mk (blk_below (g := gb699) (o := .cells #[.int .i64 0, .slice none 0 0, .slice none 0 0] 25 (0, 0)) (by (with_reducible repeat (first | refine blk_drewN ?_ _ | refine blk_drew ?_ | refine blk_alloc ?_ _ )); refine blk_far ?_ NB699_707.out _; (with_reducible repeat (first | refine blk_drewN ?_ _ | refine blk_drew ?_ | refine blk_alloc ?_ _ )); refine blk_far ?_ NB699_707.out _; (with_reducible repeat (first | refine blk_drewN ?_ _ | refine blk_drew ?_ | refine blk_alloc ?_ _ )); refine blk_far ?_ NB699_707.out _; (with_reducible repeat (first | refine blk_drewN ?_ _ | refine blk_drew ?_ | refine blk_alloc ?_ _ )); exact BK699.out) hb); have n4_ := Aside0.mk (blk_below (g := gb707) (o := .cells #[.int .i64 t700, .slice Ao14 t701.length co14, .slice Ao15 t704.length co15] 25 (0, 0)) (by (with_reducible repeat (first | refine blk_drewN ?_ _ | refine blk_drew ?_ | refine blk_alloc ?_ _ )); refine blk_put (cs := #[.int .i64 t700, .slice Ao14 t701.length co14, .slice none 0 0]) ?_ 2 _ rfl; (with_reducible repeat (first | refine blk_drewN ?_ _ | refine blk_drew ?_ | refine blk_alloc ?_ _ )); refine blk_put (cs := #[.int .i64 t700, .slice none 0 0, .slice none 0 0]) ?_ 1 _ rfl; (with_reducible repeat (first | refine blk_drewN ?_ _ | refine blk_drew ?_ | refine blk_alloc ?_ _ )); refine blk_put (cs := #[.int .i64 0, .slice none 0 0, .slice none 0 0]) ?_ 0 _ rfl; (with_reducible repeat (first | refine blk_drewN ?_ _ | refine blk_drew ?_ | refine blk_alloc ?_ _ )); exact BK707.out) hb); have n5_ := Aside0.mk (below_step (by repeat ((with_reducible first | exact HB.out | refine below_set ?_ GE707.out))) hb); clear HO703; clear HO706; clear BK698; clear BK699; clear BK707; clear HB; have HO703 := n0_; have HO706 := n1_; have BK698 := n2_; have BK699 := n3_; have BK707 := n4_; have HB := n5_; clear n0_ n1_ n2_ n3_ n4_ n5_; (try clear hb); (try clear hb2); (try clear hk); (try clear hi)))
      go_meet
      case rel => exact ⟨_, (true), (by rfl), H', ⟨by omega⟩, ⟨by (with_reducible repeat (first | apply Kd.R_alloc | apply Kd.R_drewN | apply Kd.R_drew )); exact HO703.out⟩, ⟨by (with_reducible repeat (first | apply Kd.R_alloc | apply Kd.R_drewN | apply Kd.R_drew )); exact HO706.out⟩, ⟨by (with_reducible repeat (first | refine blk_drewN ?_ _ | refine blk_drew ?_ | refine blk_alloc ?_ _ )); exact BK698.out⟩, ⟨by (with_reducible repeat (first | refine blk_drewN ?_ _ | refine blk_drew ?_ | refine blk_alloc ?_ _ )); exact BK699.out⟩, ⟨by (with_reducible repeat (first | refine blk_drewN ?_ _ | refine blk_drew ?_ | refine blk_alloc ?_ _ )); exact BK707.out⟩, ⟨by repeat ((with_reducible exact HB.out))⟩⟩
  case rest =>
    clear HC4
    clear hcz13_0
    clear hcz13_1
    clear hcz13_2
    clear hcz8_0
    clear hcz8_1
    clear hcz8_2
    clear hfz13_0
    clear hfz13_1
    clear hfz13_2
    clear hfz8_0
    clear hfz8_1
    clear hfz8_2
    obtain ⟨kq, x23_3, rfl, HA, HJ3, HO_708001, HO_708002, BK698, BK699, BK707, HB⟩ := hcut
    cases kq with
    | zero => exact absurd HA.out (by simp [spec_RetireNode.j0])
    | succ kj3 =>
      have H := HA.out
      clear HA
      simp only [spec_RetireNode.j0] at H
      by_cases c33 : x23_3 = true
      · subst c33
        have H1 : (some (t700, t701, t704, false)) = some (r1, r2, r3, r4) := by rw [if_pos rfl] at H; exact H
        clear H
        have H := H1
        clear H1
        simp only [Option.some.injEq, Prod.mk.injEq] at H
        obtain ⟨rfl, rfl, rfl, rfl⟩ := H
        have hnb34 := NB707_698.out
        have hnc34 := NB698_707.out
        have hnb35 := NB707_699.out
        have hnc35 := NB699_707.out
        have hcz36_0 : wc.cell? ⟨gb707, 0, none⟩ = some (.int .i64 t700) := (blk_cell BK707.out 0).trans rfl
        have hcz36_1 : wc.cell? ⟨gb707, 1, none⟩ = some (.slice Ao14 t701.length co14) := (blk_cell BK707.out 1).trans rfl
        have hcz36_2 : wc.cell? ⟨gb707, 2, none⟩ = some (.slice Ao15 t704.length co15) := (blk_cell BK707.out 2).trans rfl
        have hfz36_0 := blk_frozen BK707.out 0
        have hfz36_1 := blk_frozen BK707.out 1
        have hfz36_2 := blk_frozen BK707.out 2
        have hnb37 := NB699_698.out
        have hnc37 := NB698_699.out
        have hcz38_0 : wc.cell? ⟨gb699, 0, none⟩ = some (.int .i64 0) := (blk_cell BK699.out 0).trans rfl
        have hcz38_1 : wc.cell? ⟨gb699, 1, none⟩ = some (.slice none 0 0) := (blk_cell BK699.out 1).trans rfl
        have hcz38_2 : wc.cell? ⟨gb699, 2, none⟩ = some (.slice none 0 0) := (blk_cell BK699.out 2).trans rfl
        have hfz38_0 := blk_frozen BK699.out 0
        have hfz38_1 := blk_frozen BK699.out 1
        have hfz38_2 := blk_frozen BK699.out 2
        go_wp2
        refine bodyPost_ret (results_ct rfl _ _ gb699 25 #[.int .i64 t700, .slice Ao14 t701.length co14, .slice Ao15 t704.length co15] (0, 0) _ rfl (by (with_reducible repeat (first | refine blk_drewN ?_ _ | refine blk_drew ?_ | refine blk_alloc ?_ _ )); refine blk_put (cs := #[.int .i64 t700, .slice Ao14 t701.length co14, .slice none 0 0]) ?_ 2 _ rfl; (with_reducible repeat (first | refine blk_drewN ?_ _ | refine blk_drew ?_ | refine blk_alloc ?_ _ )); refine blk_put (cs := #[.int .i64 t700, .slice none 0 0, .slice none 0 0]) ?_ 1 _ rfl; (with_reducible repeat (first | refine blk_drewN ?_ _ | refine blk_drew ?_ | refine blk_alloc ?_ _ )); refine blk_put (cs := #[.int .i64 0, .slice none 0 0, .slice none 0 0]) ?_ 0 _ rfl; (with_reducible repeat (first | refine blk_drewN ?_ _ | refine blk_drew ?_ | refine blk_alloc ?_ _ )); exact BK699.out) Try.underlying25 rfl (by kernel_rfl)) rfl ?_
        exact ⟨_, _, by rfl, by (with_reducible repeat (first | apply Kd.R_alloc | apply Kd.R_drewN | apply Kd.R_drew )); exact Kd.R_mono (Kd.R_far (p := ⟨gb699, 2, none⟩) (Kd.R_far (p := ⟨gb699, 1, none⟩) (Kd.R_far (p := ⟨gb699, 0, none⟩) (Kd.R_types HO_708001.out BK699.out (by decide)) (fun _ hk => hk.2) (.int .i64 t700)) (fun _ hk => hk.2) (.slice Ao14 t701.length co14)) (fun _ hk => hk.2) (.slice Ao15 t704.length co15)) (fun _ hk => trivial), by (with_reducible repeat (first | apply Kd.R_alloc | apply Kd.R_drewN | apply Kd.R_drew )); exact Kd.R_mono (Kd.R_far (p := ⟨gb699, 2, none⟩) (Kd.R_far (p := ⟨gb699, 1, none⟩) (Kd.R_far (p := ⟨gb699, 0, none⟩) (Kd.R_types HO_708002.out BK699.out (by decide)) (fun _ hk => hk.2) (.int .i64 t700)) (fun _ hk => hk.2) (.slice Ao14 t701.length co14)) (fun _ hk => hk.2) (.slice Ao15 t704.length co15)) (fun _ hk => trivial), by repeat ((with_reducible first | exact HB.out | refine below_set ?_ GE699.out))⟩
      · replace c33 := Bool.eq_false_iff.mpr c33
        subst c33
        have H1 : (spec_RetireNode.l0 kj3 a1 0 a0_0 l0_1 l0_2 t700 t701 t704) = some (r1, r2, r3, r4) := by rw [if_neg (show ¬ (false = true) by decide)] at H; exact H
        clear H
        have H := H1
        clear H1
        have H' := Aside0.mk H
        clear H
        go_wp2
        go_loopg [7] kj3 (fun kq v7 w' => ∃ (x7_2 : Int) (x700000_2 : Int), v7 = .int .i64 x7_2 ∧ Aside0 (spec_RetireNode.l0 kq a1 x7_2 a0_0 l0_1 l0_2 t700 t701 t704 = some (r1, r2, r3, r4)) ∧ Aside0 (kq ≤ kj3) ∧ Aside0 (Kd.R (Kd.int .i64) 3 w' w.heap.size (fun _ => True) (.slice Ao14 t701.length co14) t701) ∧ Aside0 (Kd.R k57 57 w' w.heap.size (fun _ => True) (.slice Ao15 t704.length co15) t704) ∧ Aside0 (w'.heap[gb698]? = some (.cells #[.int .i64 a0_0, (.slice A0_1 l0_1.length c0_1), (.slice A0_2 l0_2.length c0_2)] 25 (0, 0))) ∧ Aside0 (w'.heap[gb699]? = some (.cells #[.int .i64 x700000_2, (.slice none 0 0), (.slice none 0 0)] 25 (0, 0))) ∧ Aside0 (w'.heap[gb707]? = some (.cells #[.int .i64 t700, (.slice Ao14 t701.length co14), (.slice Ao15 t704.length co15)] 25 (0, 0))) ∧ Aside0 (Below w.heap.size w w'))
        case atStart => exact ⟨(0), (0), (by rfl), H', ⟨Nat.le_refl _⟩, ⟨by (with_reducible repeat (first | apply Kd.R_alloc | apply Kd.R_drewN | apply Kd.R_drew )); exact HO_708001.out⟩, ⟨by (with_reducible repeat (first | apply Kd.R_alloc | apply Kd.R_drewN | apply Kd.R_drew )); exact HO_708002.out⟩, ⟨by (with_reducible repeat (first | refine blk_drewN ?_ _ | refine blk_drew ?_ | refine blk_alloc ?_ _ )); exact BK698.out⟩, ⟨by (with_reducible repeat (first | refine blk_drewN ?_ _ | refine blk_drew ?_ | refine blk_alloc ?_ _ )); exact BK699.out⟩, ⟨by (with_reducible repeat (first | refine blk_drewN ?_ _ | refine blk_drew ?_ | refine blk_alloc ?_ _ )); exact BK707.out⟩, ⟨by repeat ((with_reducible exact HB.out))⟩⟩
        case round =>
          clear H'
          obtain ⟨x7_2, x700000_2, rfl, HA, HK2, HO_708001, HO_708002, BK698, BK699, BK707, HB⟩ := hrel
          cases gk with
          | zero => exact absurd HA.out (by simp [spec_RetireNode.l0])
          | succ k2 =>
            have H := HA.out
            clear HA
            simp only [spec_RetireNode.l0] at H
            by_cases c39 : x7_2 < (l0_2.length : Int)
            · rw [if_pos c39] at H
              have c39b0 : decide (x7_2 < (l0_2.length : Int)) = true := decide_eq_true c39
              clear c39
              by_cases c40 : 0 ≤ x7_2
              rotate_left
              · rw [if_neg c40] at H
                exact absurd H (by simp)
              rw [if_pos c40] at H
              have c40b0 : decide (0 ≤ x7_2) = true := decide_eq_true c40
              clear c40
              by_cases c41 : ((rd_T57 l0_2 x7_2).f0) = a1
              · rw [if_pos c41] at H
                have c41b0 : (((rd_T57 l0_2 x7_2).f0) == a1) = true := beq_iff_eq.mpr c41
                have c41b1 : (((rd_T57 l0_2 x7_2).f0) != a1) = false := bne_eq_false_iff_eq.mpr c41
                clear c41
                simp only [Option.some.injEq, Prod.mk.injEq] at H
                obtain ⟨rfl, rfl, rfl, rfl⟩ := H
                have hnb42 := NB698_699.out
                have hnc42 := NB699_698.out
                have hnb43 := NB698_707.out
                have hnc43 := NB707_698.out
                have hcz44_0 : wr.cell? ⟨gb698, 0, none⟩ = some (.int .i64 a0_0) := (blk_cell BK698.out 0).trans rfl
                have hcz44_1 : wr.cell? ⟨gb698, 1, none⟩ = some (.slice A0_1 l0_1.length c0_1) := (blk_cell BK698.out 1).trans rfl
                have hcz44_2 : wr.cell? ⟨gb698, 2, none⟩ = some (.slice A0_2 l0_2.length c0_2) := (blk_cell BK698.out 2).trans rfl
                have hfz44_0 := blk_frozen BK698.out 0
                have hfz44_1 := blk_frozen BK698.out 1
                have hfz44_2 := blk_frozen BK698.out 2
                have p710 : 0 ≤ (x7_2 : Int) := of_decide_eq_true (by (with_reducible assumption))
                have q710 : x7_2 < (l0_2.length : Int) := of_decide_eq_true (by (with_reducible assumption))
                obtain ⟨ad710, e710, hx710_0, hx710_1⟩ := at_T57 HR0_2.out x7_2 p710 q710
                cases e710
                replace hx710_0 := (HB.out.cell (World.block_lt_of_cell? w _ hx710_0)).trans hx710_0
                replace hx710_1 := (HB.out.cell (World.block_lt_of_cell? w _ hx710_1)).trans hx710_1
                replace p710 := eq_true p710
                replace q710 := eq_true q710
                have hnb45 := NB707_699.out
                have hnc45 := NB699_707.out
                have hcz46_0 : wr.cell? ⟨gb707, 0, none⟩ = some (.int .i64 t700) := (blk_cell BK707.out 0).trans rfl
                have hcz46_1 : wr.cell? ⟨gb707, 1, none⟩ = some (.slice Ao14 t701.length co14) := (blk_cell BK707.out 1).trans rfl
                have hcz46_2 : wr.cell? ⟨gb707, 2, none⟩ = some (.slice Ao15 t704.length co15) := (blk_cell BK707.out 2).trans rfl
                have hfz46_0 := blk_frozen BK707.out 0
                have hfz46_1 := blk_frozen BK707.out 1
                have hfz46_2 := blk_frozen BK707.out 2
                have hcz47_0 : wr.cell? ⟨gb699, 0, none⟩ = some (.int .i64 x700000_2) := (blk_cell BK699.out 0).trans rfl
                have hcz47_1 : wr.cell? ⟨gb699, 1, none⟩ = some (.slice none 0 0) := (blk_cell BK699.out 1).trans rfl
                have hcz47_2 : wr.cell? ⟨gb699, 2, none⟩ = some (.slice none 0 0) := (blk_cell BK699.out 2).trans rfl
                have hfz47_0 := blk_frozen BK699.out 0
                have hfz47_1 := blk_frozen BK699.out 1
                have hfz47_2 := blk_frozen BK699.out 2
                go_wp2
                refine bodyPost_ret (results_ct rfl _ _ gb699 25 #[.int .i64 t700, .slice Ao14 t701.length co14, .slice Ao15 t704.length co15] (0, 0) _ rfl (by (with_reducible repeat (first | refine blk_drewN ?_ _ | refine blk_drew ?_ | refine blk_alloc ?_ _ )); refine blk_put (cs := #[.int .i64 t700, .slice Ao14 t701.length co14, .slice none 0 0]) ?_ 2 _ rfl; (with_reducible repeat (first | refine blk_drewN ?_ _ | refine blk_drew ?_ | refine blk_alloc ?_ _ )); refine blk_put (cs := #[.int .i64 t700, .slice none 0 0, .slice none 0 0]) ?_ 1 _ rfl; (with_reducible repeat (first | refine blk_drewN ?_ _ | refine blk_drew ?_ | refine blk_alloc ?_ _ )); refine blk_put (cs := #[.int .i64 x700000_2, .slice none 0 0, .slice none 0 0]) ?_ 0 _ rfl; (with_reducible repeat (first | refine blk_drewN ?_ _ | refine blk_drew ?_ | refine blk_alloc ?_ _ )); exact BK699.out) Try.underlying25 rfl (by kernel_rfl)) rfl ?_
                exact ⟨_, _, by rfl, by (with_reducible repeat (first | apply Kd.R_alloc | apply Kd.R_drewN | apply Kd.R_drew )); exact Kd.R_mono (Kd.R_far (p := ⟨gb699, 2, none⟩) (Kd.R_far (p := ⟨gb699, 1, none⟩) (Kd.R_far (p := ⟨gb699, 0, none⟩) (Kd.R_types HO_708001.out BK699.out (by decide)) (fun _ hk => hk.2) (.int .i64 t700)) (fun _ hk => hk.2) (.slice Ao14 t701.length co14)) (fun _ hk => hk.2) (.slice Ao15 t704.length co15)) (fun _ hk => trivial), by (with_reducible repeat (first | apply Kd.R_alloc | apply Kd.R_drewN | apply Kd.R_drew )); exact Kd.R_mono (Kd.R_far (p := ⟨gb699, 2, none⟩) (Kd.R_far (p := ⟨gb699, 1, none⟩) (Kd.R_far (p := ⟨gb699, 0, none⟩) (Kd.R_types HO_708002.out BK699.out (by decide)) (fun _ hk => hk.2) (.int .i64 t700)) (fun _ hk => hk.2) (.slice Ao14 t701.length co14)) (fun _ hk => hk.2) (.slice Ao15 t704.length co15)) (fun _ hk => trivial), by repeat ((with_reducible first | exact HB.out | refine below_set ?_ GE699.out))⟩
              · rw [if_neg c41] at H
                have c41b0 : (((rd_T57 l0_2 x7_2).f0) == a1) = false := beq_eq_false_iff_ne.mpr c41
                have c41b1 : (((rd_T57 l0_2 x7_2).f0) != a1) = true := bne_iff_ne.mpr c41
                have H' := Aside0.mk H
                clear H
                have hnb48 := NB698_699.out
                have hnc48 := NB699_698.out
                have hnb49 := NB698_707.out
                have hnc49 := NB707_698.out
                have hcz50_0 : wr.cell? ⟨gb698, 0, none⟩ = some (.int .i64 a0_0) := (blk_cell BK698.out 0).trans rfl
                have hcz50_1 : wr.cell? ⟨gb698, 1, none⟩ = some (.slice A0_1 l0_1.length c0_1) := (blk_cell BK698.out 1).trans rfl
                have hcz50_2 : wr.cell? ⟨gb698, 2, none⟩ = some (.slice A0_2 l0_2.length c0_2) := (blk_cell BK698.out 2).trans rfl
                have hfz50_0 := blk_frozen BK698.out 0
                have hfz50_1 := blk_frozen BK698.out 1
                have hfz50_2 := blk_frozen BK698.out 2
                have p710 : 0 ≤ (x7_2 : Int) := of_decide_eq_true (by (with_reducible assumption))
                have q710 : x7_2 < (l0_2.length : Int) := of_decide_eq_true (by (with_reducible assumption))
                obtain ⟨ad710, e710, hx710_0, hx710_1⟩ := at_T57 HR0_2.out x7_2 p710 q710
                cases e710
                replace hx710_0 := (HB.out.cell (World.block_lt_of_cell? w _ hx710_0)).trans hx710_0
                replace hx710_1 := (HB.out.cell (World.block_lt_of_cell? w _ hx710_1)).trans hx710_1
                replace p710 := eq_true p710
                replace q710 := eq_true q710
                go_wp2
                go_roundg k2
                case measure => have := HJ3.out; have := HK2.out; omega
                case rel => exact ⟨(wrap64 (x7_2 + 1)), (x700000_2), (by rfl), H', ⟨by have := HJ3.out; have := HK2.out; omega⟩, ⟨by (with_reducible repeat (first | apply Kd.R_alloc | apply Kd.R_drewN | apply Kd.R_drew )); exact HO_708001.out⟩, ⟨by (with_reducible repeat (first | apply Kd.R_alloc | apply Kd.R_drewN | apply Kd.R_drew )); exact HO_708002.out⟩, ⟨by (with_reducible repeat (first | refine blk_drewN ?_ _ | refine blk_drew ?_ | refine blk_alloc ?_ _ )); exact BK698.out⟩, ⟨by (with_reducible repeat (first | refine blk_drewN ?_ _ | refine blk_drew ?_ | refine blk_alloc ?_ _ )); exact BK699.out⟩, ⟨by (with_reducible repeat (first | refine blk_drewN ?_ _ | refine blk_drew ?_ | refine blk_alloc ?_ _ )); exact BK707.out⟩, ⟨by repeat ((with_reducible exact HB.out))⟩⟩
            · rw [if_neg c39] at H
              have c39b0 : decide (x7_2 < (l0_2.length : Int)) = false := decide_eq_false c39
              clear c39
              by_cases c51 : t704.length < 8796093022208
              rotate_left
              · rw [if_neg c51] at H
                exact absurd H (by simp)

              rw [if_pos c51] at H
              have LMc51 := Aside0.mk c51
              clear c51
              obtain ⟨y711, hy711⟩ : ∃ y_ : List (S57), y_ = (t704 ++ [(⟨a1, a0_0⟩ : S57)]) := ⟨_, rfl⟩
              replace H : (some (t700, t701, y711, true)) = some (r1, r2, r3, r4) := by (rw [hy711]; with_reducible exact H)
              have Ny711 := Aside0.mk hy711
              clear hy711
              simp only [Option.some.injEq, Prod.mk.injEq] at H
              obtain ⟨rfl, rfl, rfl, rfl⟩ := H
              have hnb52 := NB698_699.out
              have hnc52 := NB699_698.out
              have hnb53 := NB698_707.out
              have hnc53 := NB707_698.out
              have hcz54_0 : wr.cell? ⟨gb698, 0, none⟩ = some (.int .i64 a0_0) := (blk_cell BK698.out 0).trans rfl
              have hcz54_1 : wr.cell? ⟨gb698, 1, none⟩ = some (.slice A0_1 l0_1.length c0_1) := (blk_cell BK698.out 1).trans rfl
              have hcz54_2 : wr.cell? ⟨gb698, 2, none⟩ = some (.slice A0_2 l0_2.length c0_2) := (blk_cell BK698.out 2).trans rfl
              have hfz54_0 := blk_frozen BK698.out 0
              have hfz54_1 := blk_frozen BK698.out 1
              have hfz54_2 := blk_frozen BK698.out 2
              have hnb55 := NB707_699.out
              have hnc55 := NB699_707.out
              have hcz56_0 : wr.cell? ⟨gb707, 0, none⟩ = some (.int .i64 t700) := (blk_cell BK707.out 0).trans rfl
              have hcz56_1 : wr.cell? ⟨gb707, 1, none⟩ = some (.slice Ao14 t701.length co14) := (blk_cell BK707.out 1).trans rfl
              have hcz56_2 : wr.cell? ⟨gb707, 2, none⟩ = some (.slice Ao15 t704.length co15) := (blk_cell BK707.out 2).trans rfl
              have hfz56_0 := blk_frozen BK707.out 0
              have hfz56_1 := blk_frozen BK707.out 1
              have hfz56_2 := blk_frozen BK707.out 2
              go_wp2_with (((with_reducible refine gate_builtin (b := .append) (xs := #[.tmp 42, .tmp 47]) rfl ?_); (try (refine gate_guard (by rfl) ?_; dsimp only)); at_builtin; refine Kd.R_append k57 (w0 := w) w.heap.size rfl (.tmp 42) (.tmp 47) 23 57 (.agg #[(.int .i64 0), (.int .i64 0)]) 16 rfl Try.underlying23 info57 rfl (by decide) (by omega) (.slice Ao15 t704.length co15) t704 (⟨a1, a0_0⟩ : S57) [.int .i64 a1, .int .i64 a0_0] (fun _ => True) (fun _ => False) rfl rfl ?aP (fun _ hk => hk.elim) ?aF ?aO ?aB ?aS ?aL ?_; (case aP => exact k57_mkM _ _ _ (⟨a1, a0_0⟩ : S57)); (case aB => exact (by repeat ((with_reducible exact HB.out)))); (case aF => exact (fun _ _ => trivial)); (case aO => exact (by (with_reducible repeat (first | apply Kd.R_alloc | apply Kd.R_drewN | apply Kd.R_drew )); exact HO_708002.out)); (case aS => exact (below_size (by repeat ((with_reducible exact HB.out))))); (case aL => have := LMc51.out; omega); intro v712 w57 ho hb hg hat; rw [← Ny711.out] at ho; have n0_ := Aside0.mk (Kd.R_over' (by (with_reducible repeat (first | apply Kd.R_alloc | apply Kd.R_drewN | apply Kd.R_drew )); exact HO_708001.out) (Kd.R_typed (by (with_reducible repeat (first | apply Kd.R_alloc | apply Kd.R_drewN | apply Kd.R_drew )); exact HO_708002.out)) (by decide) hg); have n1_ := Aside0.mk (blk_grown (g := gb698) (o := .cells #[.int .i64 a0_0, .slice A0_1 l0_1.length c0_1, .slice A0_2 l0_2.length c0_2] 25 (0, 0)) (by (with_reducible repeat (first | refine blk_drewN ?_ _ | refine blk_drew ?_ | refine blk_alloc ?_ _ )); exact BK698.out) hg (Kd.R_ne HO_708002.out BK698.out (by decide))); have n2_ := Aside0.mk (blk_grown (g := gb699) (o := .cells #[.int .i64 x700000_2, .slice none 0 0, .slice none 0 0] 25 (0, 0)) (by (with_reducible repeat (first | refine blk_drewN ?_ _ | refine blk_drew ?_ | refine blk_alloc ?_ _ )); exact BK699.out) hg (Kd.R_ne HO_708002.out BK699.out (by decide))); have n3_ := Aside0.mk (blk_grown (g := gb707) (o := .cells #[.int .i64 t700, .slice Ao14 t701.length co14, .slice Ao15 t704.length co15] 25 (0, 0)) (by (with_reducible repeat (first | refine blk_drewN ?_ _ | refine blk_drew ?_ | refine blk_alloc ?_ _ )); exact BK707.out) hg (Kd.R_ne HO_708002.out BK707.out (by decide))); have n4_ := Aside0.mk (hb); have n5_ := Aside0.mk (ho); clear HO_708001; clear BK698; clear BK699; clear BK707; clear HB; clear HO_708002; have HO_708001 := n0_; have BK698 := n1_; have BK699 := n2_; have BK707 := n3_; have HB := n4_; have HO713 := n5_; clear n0_ n1_ n2_ n3_ n4_ n5_; clear ho hb hg hat; obtain ⟨Ao58, co58, eo58⟩ := Kd.R_slice HO713.out; subst eo58; have hcz59_0 : w57.cell? ⟨gb707, 0, none⟩ = some (.int .i64 t700) := (blk_cell BK707.out 0).trans rfl; have hcz59_1 : w57.cell? ⟨gb707, 1, none⟩ = some (.slice Ao14 t701.length co14) := (blk_cell BK707.out 1).trans rfl; have hcz59_2 : w57.cell? ⟨gb707, 2, none⟩ = some (.slice Ao15 t704.length co15) := (blk_cell BK707.out 2).trans rfl; have hfz59_0 := blk_frozen BK707.out 0; have hfz59_1 := blk_frozen BK707.out 1; have hfz59_2 := blk_frozen BK707.out 2; have hcz60_0 : w57.cell? ⟨gb699, 0, none⟩ = some (.int .i64 x700000_2) := (blk_cell BK699.out 0).trans rfl; have hcz60_1 : w57.cell? ⟨gb699, 1, none⟩ = some (.slice none 0 0) := (blk_cell BK699.out 1).trans rfl; have hcz60_2 : w57.cell? ⟨gb699, 2, none⟩ = some (.slice none 0 0) := (blk_cell BK699.out 2).trans rfl; have hfz60_0 := blk_frozen BK699.out 0; have hfz60_1 := blk_frozen BK699.out 1; have hfz60_2 := blk_frozen BK699.out 2))
              refine bodyPost_ret (results_ct rfl _ _ gb699 25 #[.int .i64 t700, .slice Ao14 t701.length co14, .slice Ao58 y711.length co58] (0, 0) _ rfl (by (with_reducible repeat (first | refine blk_drewN ?_ _ | refine blk_drew ?_ | refine blk_alloc ?_ _ )); refine blk_put (cs := #[.int .i64 t700, .slice Ao14 t701.length co14, .slice none 0 0]) ?_ 2 _ rfl; (with_reducible repeat (first | refine blk_drewN ?_ _ | refine blk_drew ?_ | refine blk_alloc ?_ _ )); refine blk_put (cs := #[.int .i64 t700, .slice none 0 0, .slice none 0 0]) ?_ 1 _ rfl; (with_reducible repeat (first | refine blk_drewN ?_ _ | refine blk_drew ?_ | refine blk_alloc ?_ _ )); refine blk_put (cs := #[.int .i64 x700000_2, .slice none 0 0, .slice none 0 0]) ?_ 0 _ rfl; (with_reducible repeat (first | refine blk_drewN ?_ _ | refine blk_drew ?_ | refine blk_alloc ?_ _ )); refine blk_far ?_ NB699_707.out _; (with_reducible repeat (first | refine blk_drewN ?_ _ | refine blk_drew ?_ | refine blk_alloc ?_ _ )); exact BK699.out) Try.underlying25 rfl (by kernel_rfl)) rfl ?_
              exact ⟨_, _, by rfl, by (with_reducible repeat (first | apply Kd.R_alloc | apply Kd.R_drewN | apply Kd.R_drew )); exact Kd.R_mono (Kd.R_far (p := ⟨gb699, 2, none⟩) (Kd.R_far (p := ⟨gb699, 1, none⟩) (Kd.R_far (p := ⟨gb699, 0, none⟩) (Kd.R_far (p := ⟨gb707, 2, none⟩) (Kd.R_types (Kd.R_types HO_708001.out BK707.out (by decide)) BK699.out (by decide)) (fun _ hk => hk.1.2) (.slice Ao58 y711.length co58)) (fun _ hk => hk.2) (.int .i64 t700)) (fun _ hk => hk.2) (.slice Ao14 t701.length co14)) (fun _ hk => hk.2) (.slice Ao58 y711.length co58)) (fun _ hk => trivial), by (with_reducible repeat (first | apply Kd.R_alloc | apply Kd.R_drewN | apply Kd.R_drew )); exact Kd.R_mono (Kd.R_far (p := ⟨gb699, 2, none⟩) (Kd.R_far (p := ⟨gb699, 1, none⟩) (Kd.R_far (p := ⟨gb699, 0, none⟩) (Kd.R_far (p := ⟨gb707, 2, none⟩) (Kd.R_types (Kd.R_types HO713.out BK707.out (by decide)) BK699.out (by decide)) (fun _ hk => hk.1.2) (.slice Ao58 y711.length co58)) (fun _ hk => hk.2) (.int .i64 t700)) (fun _ hk => hk.2) (.slice Ao14 t701.length co14)) (fun _ hk => hk.2) (.slice Ao58 y711.length co58)) (fun _ hk => trivial), by repeat ((with_reducible first | exact HB.out | refine below_set ?_ GE699.out | refine below_set ?_ GE707.out))⟩
/-- Does one bear this number? -/
def impl_RetireNode_1.f (l : List S57) (n : Int) : Option Bool := some (l.any fun g => g.f0 == n)
set_option maxHeartbeats 1000000 in
theorem impl_RetireNode_1.pred (x : S57) (g : Nat) (n : Int) (w : World) (hg : w.heap[g]? = some (.cells #[.int .i64 n] 3 (0, 0))) :
    Calls Try.prog 57 #[.agg #[.int .i64 x.f0, .int .i64 x.f1], .pointer (some ⟨g, 0, none⟩)] w fun e w' => e = .returned (.bool (x.f0 == n)) ∧ Below w.heap.size w w' := by
  have hu57 := Try.underlying57
  have hc : w.cell? ⟨g, 0, none⟩ = some (.int .i64 n) := (blk_cell hg 0).trans rfl
  have hlt := blk_lt hg
  clear hg
  go_enter Try.func57, Try.ntmps57
  go_wp2
  go_ret
  exact ⟨rfl, (Below.refl _ _).alloc (Nat.le_refl _) _⟩
def impl_RetireNode_1.Post (l : List S57) (n : Int) (w : World) (e : Ending) (w' : World) : Prop := (∃ r : Int, e = .returned (.int .i64 r) ∧ decide (0 ≤ r) = l.any fun g => g.f0 == n) ∧ Below w.heap.size w w'
theorem impl_RetireNode_1.no {l : List S57} {n : Int} (h : ∀ j, j < l.length → ∀ x, l[j]? = some x → (x.f0 == n) = false) : (l.any fun g => g.f0 == n) = false := by
  rw [List.any_eq_false]
  intro x hx
  obtain ⟨j, hj, rfl⟩ := List.mem_iff_getElem.mp hx
  rw [h j hj _ (List.getElem?_eq_getElem hj)]; simp
set_option maxHeartbeats 4000000 in
set_option maxRecDepth 100000 in
theorem impl_RetireNode_1.index (A : Option Addr) (c : Nat) (l : List S57) (g : Nat) (n : Int) (w : World) (hr : Kd.C k57 w A l.length l) (hc : l.length ≤ c) (hg : w.heap[g]? = some (.cells #[.int .i64 n] 3 (0, 0))) :
    Calls Try.prog 68 #[.slice A l.length c, .func (.func 57) #[] #[.pointer (some ⟨g, 0, none⟩)]] w (impl_RetireNode_1.Post l n w) := by
  have hm : l.length ≤ 9223372036854775807 := hr.2.1
  have HR := Aside0.mk hr
  have HG := Aside0.mk hg
  clear hr hg
  go_enter Try.func68, Try.ntmps68
  go_wp2
  go_loopw [8] (fun v8 wr => ∃ x : Int, 0 ≤ x ∧ x ≤ (l.length : Int) ∧ v8 = .int .i64 x ∧ Aside0 (∀ j : Nat, (j : Int) < x → ∀ y, l[j]? = some y → (y.f0 == n) = false) ∧ Aside0 (Below w.heap.size w wr)) (fun v8 _ => l.length - (intOf v8).toNat)
  case atStart => exact ⟨0, by omega, by omega, rfl, ⟨fun j hj => by omega⟩, ⟨Below.refl _ _⟩⟩
  case round =>
    obtain ⟨x, hx0, hx1, rfl, HA, HB⟩ := hrel
    by_cases hlt : x < (l.length : Int)
    rotate_left
    · have hd1 : decide (x < (l.length : Int)) = false := decide_eq_false hlt
      have HN := Aside0.mk (impl_RetireNode_1.no (fun j hj => HA.out j (by omega)))
      go_wp2
      go_ret
      exact ⟨⟨-1, rfl, by rw [HN.out]; rfl⟩, HB.out⟩
    have p1 : 0 ≤ (x : Int) := hx0
    obtain ⟨ad, e1, hc0, hc1⟩ := at_T57 (Kd.C_below HR.out HB.out) x p1 hlt
    cases e1
    replace p1 := eq_true p1
    have hd1 : decide (x < (l.length : Int)) = true := decide_eq_true hlt
    have hd2 : decide (0 ≤ x) = true := decide_eq_true hx0
    have HX : l[x.toNat]? = some (rd_T57 l x) := by rw [List.getElem?_eq_getElem (by omega)]; simp [rd_T57, List.getD_eq_getElem?_getD, List.getElem?_eq_getElem (show x.toNat < l.length by omega)]
    have HX := Aside0.mk HX
    by_cases hp : ((rd_T57 l x).f0 == n) = true
    · have HP := Aside0.mk hp
      clear hp
      go_wp2_with (go_at_call 57; refine (impl_RetireNode_1.pred (rd_T57 l x) g n _ (blk_below HG.out HB.out)).mono ?_; rintro e w1 ⟨rfl, hb⟩; have hb1 := below_step HB.out hb; rw [HP.out]; clear hb)
      go_ret
      exact ⟨⟨x, rfl, by rw [decide_eq_true hx0]; exact (List.any_eq_true.mpr ⟨_, List.mem_of_getElem? HX.out, HP.out⟩).symm⟩, hb1⟩
    · have HP := Aside0.mk (Bool.eq_false_iff.mpr hp)
      clear hp
      go_wp2_with (go_at_call 57; refine (impl_RetireNode_1.pred (rd_T57 l x) g n _ (blk_below HG.out HB.out)).mono ?_; rintro e w1 ⟨rfl, hb⟩; have hb1 := below_step HB.out hb; rw [HP.out]; clear hb)
      go_roundw
      case rel =>
        refine ⟨x + 1, by omega, by omega, by rfl, ⟨fun j hj y hy => ?_⟩, ⟨hb1⟩⟩
        by_cases hjx : (j : Int) < x
        · exact HA.out j hjx y hy
        · obtain rfl : j = x.toNat := by omega
          rw [HX.out] at hy; injection hy with hy; subst hy; exact HP.out
      case measure => simp [intOf]; omega
set_option maxHeartbeats 1000000 in
theorem impl_RetireNode_1.calls (A : Option Addr) (c : Nat) (l : List S57) (g : Nat) (n : Int) (r : Bool) (w : World) (hr : Kd.C k57 w A l.length l) (hc : l.length ≤ c) (hg : w.heap[g]? = some (.cells #[.int .i64 n] 3 (0, 0))) (h : impl_RetireNode_1.f l n = some r) :
    Calls Try.prog 56 #[.slice A l.length c, .func (.func 57) #[] #[.pointer (some ⟨g, 0, none⟩)]] w fun e w' => e = .returned (.bool r) ∧ Below w.heap.size w w' := by
  have HI := impl_RetireNode_1.index A c l g n w hr hc hg
  have HH := Aside0.mk (Option.some.inj h)
  clear hr hg h
  go_enter Try.func56, Try.ntmps56
  go_wp2_with (go_at_call 68; refine HI.mono ?_; rintro e w1 ⟨⟨q, rfl, hq⟩, hb⟩; have HQ := Aside0.mk hq; clear hq)
  go_ret
  exact ⟨by rw [← HH.out, ← HQ.out]; rfl, hb⟩
def impl_RetireNode.f (k : Nat) (a0_0 : Int) (l0_1 : List Int) (l0_2 : List (S57)) (a1 : Int) : Option (Int × List Int × (List (S57)) × Bool) := (impl_copyEpochs.f a0_0 l0_1 l0_2).bind fun bt717 => ((impl_RetireNode_1.f l0_2 a1).bind fun t725 => ((impl_EpochsOk.f k a0_0 l0_1 l0_2).bind fun t726 => (if t726 = true then ((impl_within.f a1 1 20).bind fun t727 => (if t727 = true then (if t725 = true then (some (bt717.1, bt717.2.1, bt717.2.2, false)) else (if (l0_2.length : Int) = 40 then (some (bt717.1, bt717.2.1, bt717.2.2, false)) else (if bt717.2.2.length < 8796093022208 then (some (bt717.1, bt717.2.1, (bt717.2.2 ++ [(⟨a1, a0_0⟩ : S57)]), true)) else (none)))) else (some (bt717.1, bt717.2.1, bt717.2.2, false)))) else (some (bt717.1, bt717.2.1, bt717.2.2, false)))))
set_option maxHeartbeats 8000000 in
set_option maxRecDepth 100000 in
theorem impl_RetireNode.calls (k : Nat) (a0_0 : Int) (A0_1 : Option Addr) (c0_1 : Nat) (l0_1 : List Int) (A0_2 : Option Addr) (c0_2 : Nat) (l0_2 : List (S57)) (a1 : Int) (r1 : Int) (r2 : List Int) (r3 : List (S57)) (r4 : Bool) (w : World) (hr0_1 : Kd.C (Kd.int .i64) w A0_1 l0_1.length l0_1) (hc0_1 : l0_1.length ≤ c0_1) (hr0_2 : Kd.C k57 w A0_2 l0_2.length l0_2) (hc0_2 : l0_2.length ≤ c0_2) (h : impl_RetireNode.f k a0_0 l0_1 l0_2 a1 = some (r1, r2, r3, r4)) :
    Calls Try.prog 34 #[.agg #[.int .i64 a0_0, .slice A0_1 l0_1.length c0_1, .slice A0_2 l0_2.length c0_2], .int .i64 a1] w fun e w' => ∃ v1_ v2_ : Value, e = .returned (.tuple #[.agg #[.int .i64 r1, v1_, v2_], .bool r4]) ∧ Kd.R (Kd.int .i64) 3 w' w.heap.size (fun _ => True) v1_ r2 ∧ Kd.R k57 57 w' w.heap.size (fun _ => True) v2_ r3 ∧ Below w.heap.size w w' := by
  have hu25 := Try.underlying25
  have hu57 := Try.underlying57
  have HR0_1 := Aside0.mk hr0_1
  have HC0_1 := Aside0.mk hc0_1
  clear hr0_1 hc0_1
  have HR0_2 := Aside0.mk hr0_2
  have HC0_2 := Aside0.mk hc0_2
  clear hr0_2 hc0_2
  have HB := Aside0.mk (Below.refl w.heap.size w)
  have H : ((impl_copyEpochs.f a0_0 l0_1 l0_2).bind fun bt717 => ((impl_RetireNode_1.f l0_2 a1).bind fun t725 => ((impl_EpochsOk.f k a0_0 l0_1 l0_2).bind fun t726 => (if t726 = true then ((impl_within.f a1 1 20).bind fun t727 => (if t727 = true then (if t725 = true then (some (bt717.1, bt717.2.1, bt717.2.2, false)) else (if (l0_2.length : Int) = 40 then (some (bt717.1, bt717.2.1, bt717.2.2, false)) else (if bt717.2.2.length < 8796093022208 then (some (bt717.1, bt717.2.1, (bt717.2.2 ++ [(⟨a1, a0_0⟩ : S57)]), true)) else (none)))) else (some (bt717.1, bt717.2.1, bt717.2.2, false)))) else (some (bt717.1, bt717.2.1, bt717.2.2, false)))))) = some (r1, r2, r3, r4) := h
  clear h
  replace H := Option.bind_eq_some_iff.mp H
  obtain ⟨⟨t717, t718, t721⟩, A30, H⟩ := H
  replace H : ((impl_RetireNode_1.f l0_2 a1).bind fun t725 => ((impl_EpochsOk.f k a0_0 l0_1 l0_2).bind fun t726 => (if t726 = true then ((impl_within.f a1 1 20).bind fun t727 => (if t727 = true then (if t725 = true then (some (t717, t718, t721, false)) else (if (l0_2.length : Int) = 40 then (some (t717, t718, t721, false)) else (if t721.length < 8796093022208 then (some (t717, t718, (t721 ++ [(⟨a1, a0_0⟩ : S57)]), true)) else (none)))) else (some (t717, t718, t721, false)))) else (some (t717, t718, t721, false))))) = some (r1, r2, r3, r4) := H
  have A3 := Aside0.mk A30
  clear A30
  replace H := Option.bind_eq_some_iff.mp H
  obtain ⟨t725, A40, H⟩ := H
  replace H : ((impl_EpochsOk.f k a0_0 l0_1 l0_2).bind fun t726 => (if t726 = true then ((impl_within.f a1 1 20).bind fun t727 => (if t727 = true then (if t725 = true then (some (t717, t718, t721, false)) else (if (l0_2.length : Int) = 40 then (some (t717, t718, t721, false)) else (if t721.length < 8796093022208 then (some (t717, t718, (t721 ++ [(⟨a1, a0_0⟩ : S57)]), true)) else (none)))) else (some (t717, t718, t721, false)))) else (some (t717, t718, t721, false)))) = some (r1, r2, r3, r4) := H
  have A4 := Aside0.mk A40
  clear A40
  have HS5 := Aside0.mk H
  clear H
  go_enter Try.func34, Try.ntmps34
  go_upto_region 3 with (first | ((with_reducible refine gate_dst (N := 2) rfl ?_); (try (refine gate_guard (by rfl) ?_; dsimp only)); refine box_event ?hg (N := 2) ?hd (cs := #[.int .i64 a0_0, .slice A0_1 l0_1.length c0_1, .slice A0_2 l0_2.length c0_2]) (t := 25) ?hr ?_; (case hd => rfl); (case hg => rfl); (case hr => (go_simp; done)); intro gb714 hg w6 hbox hb; have n0_ := Aside0.mk (below_step (by repeat ((with_reducible exact HB.out))) hb); have n1_ := Aside0.mk (hbox); have n2_ := Aside0.mk ((by rw [hg]; exact (below_size (by repeat ((with_reducible exact HB.out)))) : w.heap.size ≤ gb714)); have n3_ := Aside0.mk ((by rw [hg]; exact (below_size (by repeat ((with_reducible exact HB.out)))) : w.heap.size ≤ gb714)); clear HB; have HB := n0_; have BK714 := n1_; have GW714 := n2_; have GE714 := n3_; clear n0_ n1_ n2_ n3_; clear hb hbox hg) | ((with_reducible refine gate_dst (N := 3) rfl ?_); (try (refine gate_guard (by rfl) ?_; dsimp only)); refine box_event ?hg (N := 3) ?hd (cs := #[.int .i64 a1]) (t := 3) ?hr ?_; (case hd => rfl); (case hg => rfl); (case hr => (go_simp; done)); intro gb715 hg w7 hbox hb; have n0_ := Aside0.mk (blk_below (g := gb714) (o := .cells #[.int .i64 a0_0, .slice A0_1 l0_1.length c0_1, .slice A0_2 l0_2.length c0_2] 25 (0, 0)) (by (with_reducible repeat (first | refine blk_drewN ?_ _ | refine blk_drew ?_ | refine blk_alloc ?_ _ )); exact BK714.out) hb); have n1_ := Aside0.mk (below_step (by repeat ((with_reducible exact HB.out))) hb); have n2_ := Aside0.mk (hbox); have n3_ := Aside0.mk ((by rw [hg]; exact (below_size (by repeat ((with_reducible exact HB.out)))) : w.heap.size ≤ gb715)); have n4_ := Aside0.mk ((by rw [hg]; exact (below_size (by repeat ((with_reducible exact HB.out)))) : w.heap.size ≤ gb715)); have n5_ := Aside0.mk ((by rw [hg]; exact Nat.ne_of_lt (blk_lt (g := gb714) (o := .cells #[.int .i64 a0_0, .slice A0_1 l0_1.length c0_1, .slice A0_2 l0_2.length c0_2] 25 (0, 0)) (by (with_reducible repeat (first | refine blk_drewN ?_ _ | refine blk_drew ?_ | refine blk_alloc ?_ _ )); exact BK714.out)) : gb714 ≠ gb715)); have n6_ := Aside0.mk ((by rw [hg]; exact Nat.ne_of_gt (blk_lt (g := gb714) (o := .cells #[.int .i64 a0_0, .slice A0_1 l0_1.length c0_1, .slice A0_2 l0_2.length c0_2] 25 (0, 0)) (by (with_reducible repeat (first | refine blk_drewN ?_ _ | refine blk_drew ?_ | refine blk_alloc ?_ _ )); exact BK714.out)) : gb715 ≠ gb714)); clear BK714; clear HB; have BK714 := n0_; have HB := n1_; have BK715 := n2_; have GW715 := n3_; have GE715 := n4_; have NB714_715 := n5_; have NB715_714 := n6_; clear n0_ n1_ n2_ n3_ n4_ n5_ n6_; clear hb hbox hg) | ((with_reducible refine gate_dst (N := 4) rfl ?_); (try (refine gate_guard (by rfl) ?_; dsimp only)); refine box_event ?hg (N := 4) ?hd (cs := #[.int .i64 0, .slice none 0 0, .slice none 0 0]) (t := 25) ?hr ?_; (case hd => rfl); (case hg => rfl); (case hr => (go_simp; done)); intro gb716 hg w8 hbox hb; have n0_ := Aside0.mk (blk_below (g := gb714) (o := .cells #[.int .i64 a0_0, .slice A0_1 l0_1.length c0_1, .slice A0_2 l0_2.length c0_2] 25 (0, 0)) (by (with_reducible repeat (first | refine blk_drewN ?_ _ | refine blk_drew ?_ | refine blk_alloc ?_ _ )); exact BK714.out) hb); have n1_ := Aside0.mk (blk_below (g := gb715) (o := .cells #[.int .i64 a1] 3 (0, 0)) (by (with_reducible repeat (first | refine blk_drewN ?_ _ | refine blk_drew ?_ | refine blk_alloc ?_ _ )); exact BK715.out) hb); have n2_ := Aside0.mk (below_step (by repeat ((with_reducible exact HB.out))) hb); have n3_ := Aside0.mk (hbox); have n4_ := Aside0.mk ((by rw [hg]; exact (below_size (by repeat ((with_reducible exact HB.out)))) : w.heap.size ≤ gb716)); have n5_ := Aside0.mk ((by rw [hg]; exact (below_size (by repeat ((with_reducible exact HB.out)))) : w.heap.size ≤ gb716)); have n6_ := Aside0.mk ((by rw [hg]; exact Nat.ne_of_lt (blk_lt (g := gb714) (o := .cells #[.int .i64 a0_0, .slice A0_1 l0_1.length c0_1, .slice A0_2 l0_2.length c0_2] 25 (0, 0)) (by (with_reducible repeat (first | refine blk_drewN ?_ _ | refine blk_drew ?_ | refine blk_alloc ?_ _ )); exact BK714.out)) : gb714 ≠ gb716)); have n7_ := Aside0.mk ((by rw [hg]; exact Nat.ne_of_gt (blk_lt (g := gb714) (o := .cells #[.int .i64 a0_0, .slice A0_1 l0_1.length c0_1, .slice A0_2 l0_2.length c0_2] 25 (0, 0)) (by (with_reducible repeat (first | refine blk_drewN ?_ _ | refine blk_drew ?_ | refine blk_alloc ?_ _ )); exact BK714.out)) : gb716 ≠ gb714)); have n8_ := Aside0.mk ((by rw [hg]; exact Nat.ne_of_lt (blk_lt (g := gb715) (o := .cells #[.int .i64 a1] 3 (0, 0)) (by (with_reducible repeat (first | refine blk_drewN ?_ _ | refine blk_drew ?_ | refine blk_alloc ?_ _ )); exact BK715.out)) : gb715 ≠ gb716)); have n9_ := Aside0.mk ((by rw [hg]; exact Nat.ne_of_gt (blk_lt (g := gb715) (o := .cells #[.int .i64 a1] 3 (0, 0)) (by (with_reducible repeat (first | refine blk_drewN ?_ _ | refine blk_drew ?_ | refine blk_alloc ?_ _ )); exact BK715.out)) : gb716 ≠ gb715)); clear BK714; clear BK715; clear HB; have BK714 := n0_; have BK715 := n1_; have HB := n2_; have BK716 := n3_; have GW716 := n4_; have GE716 := n5_; have NB714_716 := n6_; have NB716_714 := n7_; have NB715_716 := n8_; have NB716_715 := n9_; clear n0_ n1_ n2_ n3_ n4_ n5_ n6_ n7_ n8_ n9_; clear hb hbox hg; have hnb9 := NB714_715.out; have hnc9 := NB715_714.out; have hnb10 := NB714_716.out; have hnc10 := NB716_714.out; have hcz11_0 : w8.cell? ⟨gb714, 0, none⟩ = some (.int .i64 a0_0) := (blk_cell BK714.out 0).trans rfl; have hcz11_1 : w8.cell? ⟨gb714, 1, none⟩ = some (.slice A0_1 l0_1.length c0_1) := (blk_cell BK714.out 1).trans rfl; have hcz11_2 : w8.cell? ⟨gb714, 2, none⟩ = some (.slice A0_2 l0_2.length c0_2) := (blk_cell BK714.out 2).trans rfl; have hfz11_0 := blk_frozen BK714.out 0; have hfz11_1 := blk_frozen BK714.out 1; have hfz11_2 := blk_frozen BK714.out 2) | ((with_reducible refine gate_callee (f := 53) rfl ?_); refine goesL_ (some 9) rfl rfl Try.func53 (by kernel_rfl) rfl #[.agg #[.int .i64 a0_0, .slice A0_1 l0_1.length c0_1, .slice A0_2 l0_2.length c0_2]] rfl (by (try simp only [List.map_toArray, List.map_cons, List.map_nil]); rfl) ?_; (with_reducible refine (impl_copyEpochs.calls a0_0 _ _ l0_1 _ _ l0_2 t717 t718 t721 _ ?side1 ?side2 ?side3 ?side4 A3.out).mono ?_); (case side1 => repeat (exact (Kd.C_below HR0_1.out HB.out))); (case side2 => exact HC0_1.out); (case side3 => repeat (exact (Kd.C_below HR0_2.out HB.out))); (case side4 => exact HC0_2.out); rintro e w12 ⟨v719, v722, rfl, ho0, ho1, hb⟩; refine ⟨_, rfl, ?_⟩; have n0_ := Aside0.mk (Kd.R_lower (Kd.R_newB ho0 (g := gb715) (o := .cells #[.int .i64 a1] 3 (0, 0)) (by (with_reducible repeat (first | refine blk_drewN ?_ _ | refine blk_drew ?_ | refine blk_alloc ?_ _ )); exact BK715.out)) (below_size (by repeat ((with_reducible exact HB.out))))); have n1_ := Aside0.mk (Kd.R_lower ho1 (below_size (by repeat ((with_reducible exact HB.out))))); have n2_ := Aside0.mk (blk_below (g := gb714) (o := .cells #[.int .i64 a0_0, .slice A0_1 l0_1.length c0_1, .slice A0_2 l0_2.length c0_2] 25 (0, 0)) (by (with_reducible repeat (first | refine blk_drewN ?_ _ | refine blk_drew ?_ | refine blk_alloc ?_ _ )); exact BK714.out) hb); have n3_ := Aside0.mk (blk_below (g := gb715) (o := .cells #[.int .i64 a1] 3 (0, 0)) (by (with_reducible repeat (first | refine blk_drewN ?_ _ | refine blk_drew ?_ | refine blk_alloc ?_ _ )); exact BK715.out) hb); have n4_ := Aside0.mk (blk_below (g := gb716) (o := .cells #[.int .i64 0, .slice none 0 0, .slice none 0 0] 25 (0, 0)) (by (with_reducible repeat (first | refine blk_drewN ?_ _ | refine blk_drew ?_ | refine blk_alloc ?_ _ )); exact BK716.out) hb); have n5_ := Aside0.mk (below_step (by repeat ((with_reducible exact HB.out))) hb); clear BK714; clear BK715; clear BK716; clear HB; have HO720 := n0_; have HO723 := n1_; have BK714 := n2_; have BK715 := n3_; have BK716 := n4_; have HB := n5_; clear n0_ n1_ n2_ n3_ n4_ n5_; (try clear hb); (try clear hb2); (try clear hk); (try clear hi); (try clear ho0); (try clear ho1)) | ((with_reducible refine gate_dst (N := 6) rfl ?_); (try (refine gate_guard (by rfl) ?_; dsimp only)); refine box_event ?hg (N := 6) ?hd (cs := #[.int .i64 0, .slice none 0 0, .slice none 0 0]) (t := 25) ?hr ?_; (case hd => rfl); (case hg => rfl); (case hr => (go_simp; done)); intro gb724 hg w13 hbox hb; have n0_ := Aside0.mk (Kd.R_below (by (with_reducible repeat (first | apply Kd.R_alloc | apply Kd.R_drewN | apply Kd.R_drew )); exact HO720.out) hb); have n1_ := Aside0.mk (Kd.R_below (by (with_reducible repeat (first | apply Kd.R_alloc | apply Kd.R_drewN | apply Kd.R_drew )); exact HO723.out) hb); have n2_ := Aside0.mk (blk_below (g := gb714) (o := .cells #[.int .i64 a0_0, .slice A0_1 l0_1.length c0_1, .slice A0_2 l0_2.length c0_2] 25 (0, 0)) (by (with_reducible repeat (first | refine blk_drewN ?_ _ | refine blk_drew ?_ | refine blk_alloc ?_ _ )); exact BK714.out) hb); have n3_ := Aside0.mk (blk_below (g := gb715) (o := .cells #[.int .i64 a1] 3 (0, 0)) (by (with_reducible repeat (first | refine blk_drewN ?_ _ | refine blk_drew ?_ | refine blk_alloc ?_ _ )); exact BK715.out) hb); have n4_ := Aside0.mk (blk_below (g := gb716) (o := .cells #[.int .i64 0, .slice none 0 0, .slice none 0 0] 25 (0, 0)) (by (with_reducible repeat (first | refine blk_drewN ?_ _ | refine blk_drew ?_ | refine blk_alloc ?_ _ )); exact BK716.out) hb); have n5_ := Aside0.mk (below_step (by repeat ((with_reducible exact HB.out))) hb); have n6_ := Aside0.mk (hbox); have n7_ := Aside0.mk ((by rw [hg]; exact (below_size (by repeat ((with_reducible exact HB.out)))) : w.heap.size ≤ gb724)); have n8_ := Aside0.mk ((by rw [hg]; exact (below_size (by repeat ((with_reducible exact HB.out)))) : w.heap.size ≤ gb724)); have n9_ := Aside0.mk ((by rw [hg]; exact Nat.ne_of_lt (blk_lt (g := gb714) (o := .cells #[.int .i64 a0_0, .slice A0_1 l0_1.length c0_1, .slice A0_2 l0_2.length c0_2] 25 (0, 0)) (by (with_reducible repeat (first | refine blk_drewN ?_ _ | refine blk_drew ?_ | refine blk_alloc ?_ _ )); exact BK714.out)) : gb714 ≠ gb724)); have n10_ := Aside0.mk ((by rw [hg]; exact Nat.ne_of_gt (blk_lt (g := gb714) (o := .cells #[.int .i64 a0_0, .slice A0_1 l0_1.length c0_1, .slice A0_2 l0_2.length c0_2] 25 (0, 0)) (by (with_reducible repeat (first | refine blk_drewN ?_ _ | refine blk_drew ?_ | refine blk_alloc ?_ _ )); exact BK714.out)) : gb724 ≠ gb714)); have n11_ := Aside0.mk ((by rw [hg]; exact Nat.ne_of_lt (blk_lt (g := gb715) (o := .cells #[.int .i64 a1] 3 (0, 0)) (by (with_reducible repeat (first | refine blk_drewN ?_ _ | refine blk_drew ?_ | refine blk_alloc ?_ _ )); exact BK715.out)) : gb715 ≠ gb724)); have n12_ := Aside0.mk ((by rw [hg]; exact Nat.ne_of_gt (blk_lt (g := gb715) (o := .cells #[.int .i64 a1] 3 (0, 0)) (by (with_reducible repeat (first | refine blk_drewN ?_ _ | refine blk_drew ?_ | refine blk_alloc ?_ _ )); exact BK715.out)) : gb724 ≠ gb715)); have n13_ := Aside0.mk ((by rw [hg]; exact Nat.ne_of_lt (blk_lt (g := gb716) (o := .cells #[.int .i64 0, .slice none 0 0, .slice none 0 0] 25 (0, 0)) (by (with_reducible repeat (first | refine blk_drewN ?_ _ | refine blk_drew ?_ | refine blk_alloc ?_ _ )); exact BK716.out)) : gb716 ≠ gb724)); have n14_ := Aside0.mk ((by rw [hg]; exact Nat.ne_of_gt (blk_lt (g := gb716) (o := .cells #[.int .i64 0, .slice none 0 0, .slice none 0 0] 25 (0, 0)) (by (with_reducible repeat (first | refine blk_drewN ?_ _ | refine blk_drew ?_ | refine blk_alloc ?_ _ )); exact BK716.out)) : gb724 ≠ gb716)); clear HO720; clear HO723; clear BK714; clear BK715; clear BK716; clear HB; have HO720 := n0_; have HO723 := n1_; have BK714 := n2_; have BK715 := n3_; have BK716 := n4_; have HB := n5_; have BK724 := n6_; have GW724 := n7_; have GE724 := n8_; have NB714_724 := n9_; have NB724_714 := n10_; have NB715_724 := n11_; have NB724_715 := n12_; have NB716_724 := n13_; have NB724_716 := n14_; clear n0_ n1_ n2_ n3_ n4_ n5_ n6_ n7_ n8_ n9_ n10_ n11_ n12_ n13_ n14_; clear hb hbox hg; have hnb14 := NB724_714.out; have hnc14 := NB714_724.out; have hnb15 := NB724_715.out; have hnc15 := NB715_724.out; have hnb16 := NB724_716.out; have hnc16 := NB716_724.out; have hcz17_0 : w13.cell? ⟨gb724, 0, none⟩ = some (.int .i64 0) := (blk_cell BK724.out 0).trans rfl; have hcz17_1 : w13.cell? ⟨gb724, 1, none⟩ = some (.slice none 0 0) := (blk_cell BK724.out 1).trans rfl; have hcz17_2 : w13.cell? ⟨gb724, 2, none⟩ = some (.slice none 0 0) := (blk_cell BK724.out 2).trans rfl; have hfz17_0 := blk_frozen BK724.out 0; have hfz17_1 := blk_frozen BK724.out 1; have hfz17_2 := blk_frozen BK724.out 2; obtain ⟨Ao18, co18, eo18⟩ := Kd.R_slice HO720.out; subst eo18; obtain ⟨Ao19, co19, eo19⟩ := Kd.R_slice HO723.out; subst eo19; have hcz20_0 : w13.cell? ⟨gb714, 0, none⟩ = some (.int .i64 a0_0) := (blk_cell BK714.out 0).trans rfl; have hcz20_1 : w13.cell? ⟨gb714, 1, none⟩ = some (.slice A0_1 l0_1.length c0_1) := (blk_cell BK714.out 1).trans rfl; have hcz20_2 : w13.cell? ⟨gb714, 2, none⟩ = some (.slice A0_2 l0_2.length c0_2) := (blk_cell BK714.out 2).trans rfl; have hfz20_0 := blk_frozen BK714.out 0; have hfz20_1 := blk_frozen BK714.out 1; have hfz20_2 := blk_frozen BK714.out 2) | ((with_reducible refine gate_callee (f := 56) rfl ?_); refine goesL_ (some 13) rfl rfl Try.func56 (by kernel_rfl) rfl #[.slice A0_2 l0_2.length c0_2, .func (.func 57) #[] #[.pointer (some ⟨gb715, 0, none⟩)]] rfl (by (try simp only [List.map_toArray, List.map_cons, List.map_nil]); rfl) ?_; (with_reducible refine (impl_RetireNode_1.calls _ _ l0_2 gb715 a1 t725 _ ?side1 ?side2 ?side3 A4.out).mono ?_); (case side1 => exact Kd.C_below HR0_2.out (by repeat ((with_reducible first | exact HB.out | refine below_set ?_ GE724.out)))); (case side2 => exact HC0_2.out); (case side3 => exact (by (with_reducible repeat (first | refine blk_drewN ?_ _ | refine blk_drew ?_ | refine blk_alloc ?_ _ )); refine blk_far ?_ NB715_724.out _; (with_reducible repeat (first | refine blk_drewN ?_ _ | refine blk_drew ?_ | refine blk_alloc ?_ _ )); refine blk_far ?_ NB715_724.out _; (with_reducible repeat (first | refine blk_drewN ?_ _ | refine blk_drew ?_ | refine blk_alloc ?_ _ )); refine blk_far ?_ NB715_724.out _; (with_reducible repeat (first | refine blk_drewN ?_ _ | refine blk_drew ?_ | refine blk_alloc ?_ _ )); exact BK715.out)); rintro e w21 ⟨rfl, hb⟩; refine ⟨_, rfl, ?_⟩; have n0_ := Aside0.mk (Kd.R_below (by (with_reducible repeat (first | apply Kd.R_alloc | apply Kd.R_drewN | apply Kd.R_drew )); exact (Kd.R_mono (Kd.R_far (p := ⟨gb724, 2, none⟩) (Kd.R_far (p := ⟨gb724, 1, none⟩) (Kd.R_far (p := ⟨gb724, 0, none⟩) (Kd.R_types HO720.out BK724.out (by decide)) (fun _ hk => hk.2) (.int .i64 t717)) (fun _ hk => hk.2) (.slice Ao18 t718.length co18)) (fun _ hk => hk.2) (.slice Ao19 t721.length co19)) (fun _ h_ => by exact h_.1))) hb); have n1_ := Aside0.mk (Kd.R_below (by (with_reducible repeat (first | apply Kd.R_alloc | apply Kd.R_drewN | apply Kd.R_drew )); exact (Kd.R_mono (Kd.R_far (p := ⟨gb724, 2, none⟩) (Kd.R_far (p := ⟨gb724, 1, none⟩) (Kd.R_far (p := ⟨gb724, 0, none⟩) (Kd.R_types HO723.out BK724.out (by decide)) (fun _ hk => hk.2) (.int .i64 t717)) (fun _ hk => hk.2) (.slice Ao18 t718.length co18)) (fun _ hk => hk.2) (.slice Ao19 t721.length co19)) (fun _ h_ => by exact h_.1))) hb); have n2_ := Aside0.mk (blk_below (g := gb714) (o := .cells #[.int .i64 a0_0, .slice A0_1 l0_1.length c0_1, .slice A0_2 l0_2.length c0_2] 25 (0, 0)) (by (with_reducible repeat (first | refine blk_drewN ?_ _ | refine blk_drew ?_ | refine blk_alloc ?_ _ )); refine blk_far ?_ NB714_724.out _; (with_reducible repeat (first | refine blk_drewN ?_ _ | refine blk_drew ?_ | refine blk_alloc ?_ _ )); refine blk_far ?_ NB714_724.out _; (with_reducible repeat (first | refine blk_drewN ?_ _ | refine blk_drew ?_ | refine blk_alloc ?_ _ )); refine blk_far ?_ NB714_724.out _; (with_reducible repeat (first | refine blk_drewN ?_ _ | refine blk_drew ?_ | refine blk_alloc ?_ _ )); exact BK714.out) hb); have n3_ := Aside0.mk (blk_below (g := gb715) (o := .cells #[.int .i64 a1] 3 (0, 0)) (by (with_reducible repeat (first | refine blk_drewN ?_ _ | refine blk_drew ?_ | refine blk_alloc ?_ _ )); refine blk_far ?_ NB715_724.out _; (with_reducible repeat (first | refine blk_drewN ?_ _ | refine blk_drew ?_ | refine blk_alloc ?_ _ )); refine blk_far ?_ NB715_724.out _; (with_reducible repeat (first | refine blk_drewN ?_ _ | refine blk_drew ?_ | refine blk_alloc ?_ _ )); refine blk_far ?_ NB715_724.out _; (with_reducible repeat (first | refine blk_drewN ?_ _ | refine blk_drew ?_ | refine blk_alloc ?_ _ )); exact BK715.out) hb); have n4_ := Aside0.mk (blk_below (g := gb716) (o := .cells #[.int .i64 0, .slice none 0 0, .slice none 0 0] 25 (0, 0)) (by (with_reducible repeat (first | refine blk_drewN ?_ _ | refine blk_drew ?_ | refine blk_alloc ?_ _ )); refine blk_far ?_ NB716_724.out _; (with_reducible repeat (first | refine blk_drewN ?_ _ | refine blk_drew ?_ | refine blk_alloc ?_ _ )); refine blk_far ?_ NB716_724.out _; (with_reducible repeat (first | refine blk_drewN ?_ _ | refine blk_drew ?_ | refine blk_alloc ?_ _ )); refine blk_far ?_ NB716_724.out _; (with_reducible repeat (first | refine blk_drewN ?_ _ | refine blk_drew ?_ | refine blk_alloc ?_ _ )); exact BK716.out) hb); have n5_ := Aside0.mk (blk_below (g := gb724) (o := .cells #[.int .i64 t717, .slice Ao18 t718.length co18, .slice Ao19 t721.length co19] 25 (0, 0)) (by (with_reducible repeat (first | refine blk_drewN ?_ _ | refine blk_drew ?_ | refine blk_alloc ?_ _ )); refine blk_put (cs := #[.int .i64 t717, .slice Ao18 t718.length co18, .slice none 0 0]) ?_ 2 _ rfl; (with_reducible repeat (first | refine blk_drewN ?_ _ | refine blk_drew ?_ | refine blk_alloc ?_ _ )); refine blk_put (cs := #[.int .i64 t717, .slice none 0 0, .slice none 0 0]) ?_ 1 _ rfl; (with_reducible repeat (first | refine blk_drewN ?_ _ | refine blk_drew ?_ | refine blk_alloc ?_ _ )); refine blk_put (cs := #[.int .i64 0, .slice none 0 0, .slice none 0 0]) ?_ 0 _ rfl; (with_reducible repeat (first | refine blk_drewN ?_ _ | refine blk_drew ?_ | refine blk_alloc ?_ _ )); exact BK724.out) hb); have n6_ := Aside0.mk (below_step (by repeat ((with_reducible first | exact HB.out | refine below_set ?_ GE724.out))) hb); clear HO720; clear HO723; clear BK714; clear BK715; clear BK716; clear BK724; clear HB; have HO720 := n0_; have HO723 := n1_; have BK714 := n2_; have BK715 := n3_; have BK716 := n4_; have BK724 := n5_; have HB := n6_; clear n0_ n1_ n2_ n3_ n4_ n5_ n6_; (try clear hb); (try clear hb2); (try clear hk); (try clear hi)))
  (try simp only [Act.put, List.setIfInBounds_toArray, List.set_cons_zero, List.set_cons_succ])
  have H := HS5.out
  clear HS5
  replace H := Option.bind_eq_some_iff.mp H
  obtain ⟨t726, A220, H⟩ := H
  replace H : (if t726 = true then ((impl_within.f a1 1 20).bind fun t727 => (if t727 = true then (if t725 = true then (some (t717, t718, t721, false)) else (if (l0_2.length : Int) = 40 then (some (t717, t718, t721, false)) else (if t721.length < 8796093022208 then (some (t717, t718, (t721 ++ [(⟨a1, a0_0⟩ : S57)]), true)) else (none)))) else (some (t717, t718, t721, false)))) else (some (t717, t718, t721, false))) = some (r1, r2, r3, r4) := H
  have A22 := Aside0.mk A220
  clear A220
  by_cases c23 : t726 = true
  · subst c23
    have H1 : ((impl_within.f a1 1 20).bind fun t727 => (if t727 = true then (if t725 = true then (some (t717, t718, t721, false)) else (if (l0_2.length : Int) = 40 then (some (t717, t718, t721, false)) else (if t721.length < 8796093022208 then (some (t717, t718, (t721 ++ [(⟨a1, a0_0⟩ : S57)]), true)) else (none)))) else (some (t717, t718, t721, false)))) = some (r1, r2, r3, r4) := by rw [if_pos rfl] at H; exact H
    clear H
    have H := H1
    clear H1
    replace H := Option.bind_eq_some_iff.mp H
    obtain ⟨t727, A240, H⟩ := H
    replace H : (if t727 = true then (if t725 = true then (some (t717, t718, t721, false)) else (if (l0_2.length : Int) = 40 then (some (t717, t718, t721, false)) else (if t721.length < 8796093022208 then (some (t717, t718, (t721 ++ [(⟨a1, a0_0⟩ : S57)]), true)) else (none)))) else (some (t717, t718, t721, false))) = some (r1, r2, r3, r4) := H
    have A24 := Aside0.mk A240
    clear A240
    by_cases c25 : t727 = true
    · subst c25
      have H1 : (if t725 = true then (some (t717, t718, t721, false)) else (if (l0_2.length : Int) = 40 then (some (t717, t718, t721, false)) else (if t721.length < 8796093022208 then (some (t717, t718, (t721 ++ [(⟨a1, a0_0⟩ : S57)]), true)) else (none)))) = some (r1, r2, r3, r4) := by rw [if_pos rfl] at H; exact H
      clear H
      have H := H1
      clear H1
      by_cases c26 : t725 = true
      · subst c26
        have H1 : (some (t717, t718, t721, false)) = some (r1, r2, r3, r4) := by rw [if_pos rfl] at H; exact H
        clear H
        have H := H1
        clear H1
        simp only [Option.some.injEq, Prod.mk.injEq] at H
        obtain ⟨rfl, rfl, rfl, rfl⟩ := H
        have hnb27 := NB714_715.out
        have hnc27 := NB715_714.out
        have hnb28 := NB714_716.out
        have hnc28 := NB716_714.out
        have hnb29 := NB714_724.out
        have hnc29 := NB724_714.out
        have hcz30_0 : w21.cell? ⟨gb714, 0, none⟩ = some (.int .i64 a0_0) := (blk_cell BK714.out 0).trans rfl
        have hcz30_1 : w21.cell? ⟨gb714, 1, none⟩ = some (.slice A0_1 l0_1.length c0_1) := (blk_cell BK714.out 1).trans rfl
        have hcz30_2 : w21.cell? ⟨gb714, 2, none⟩ = some (.slice A0_2 l0_2.length c0_2) := (blk_cell BK714.out 2).trans rfl
        have hfz30_0 := blk_frozen BK714.out 0
        have hfz30_1 := blk_frozen BK714.out 1
        have hfz30_2 := blk_frozen BK714.out 2
        go_wp2_with (first | ((with_reducible refine gate_callee (f := 21) rfl ?_); refine goesL_ (some 15) rfl rfl Try.func21 (by kernel_rfl) rfl #[.agg #[.int .i64 a0_0, .slice A0_1 l0_1.length c0_1, .slice A0_2 l0_2.length c0_2]] rfl (by (try simp only [List.map_toArray, List.map_cons, List.map_nil]); rfl) ?_; (with_reducible refine (impl_EpochsOk.calls k a0_0 _ _ l0_1 _ _ l0_2 true _ ?side1 ?side2 ?side3 ?side4 A22.out).mono ?_); (case side1 => repeat (exact (Kd.C_below HR0_1.out HB.out))); (case side2 => exact HC0_1.out); (case side3 => repeat (exact (Kd.C_below HR0_2.out HB.out))); (case side4 => exact HC0_2.out); rintro e w31 ⟨rfl, hb⟩; refine ⟨_, rfl, ?_⟩; have n0_ := Aside0.mk (Kd.R_below (by (with_reducible repeat (first | apply Kd.R_alloc | apply Kd.R_drewN | apply Kd.R_drew )); exact HO720.out) hb); have n1_ := Aside0.mk (Kd.R_below (by (with_reducible repeat (first | apply Kd.R_alloc | apply Kd.R_drewN | apply Kd.R_drew )); exact HO723.out) hb); have n2_ := Aside0.mk (blk_below (g := gb714) (o := .cells #[.int .i64 a0_0, .slice A0_1 l0_1.length c0_1, .slice A0_2 l0_2.length c0_2] 25 (0, 0)) (by (with_reducible repeat (first | refine blk_drewN ?_ _ | refine blk_drew ?_ | refine blk_alloc ?_ _ )); exact BK714.out) hb); have n3_ := Aside0.mk (blk_below (g := gb715) (o := .cells #[.int .i64 a1] 3 (0, 0)) (by (with_reducible repeat (first | refine blk_drewN ?_ _ | refine blk_drew ?_ | refine blk_alloc ?_ _ )); exact BK715.out) hb); have n4_ := Aside0.mk (blk_below (g := gb716) (o := .cells #[.int .i64 0, .slice none 0 0, .slice none 0 0] 25 (0, 0)) (by (with_reducible repeat (first | refine blk_drewN ?_ _ | refine blk_drew ?_ | refine blk_alloc ?_ _ )); exact BK716.out) hb); have n5_ := Aside0.mk (blk_below (g := gb724) (o := .cells #[.int .i64 t717, .slice Ao18 t718.length co18, .slice Ao19 t721.length co19] 25 (0, 0)) (by (with_reducible repeat (first | refine blk_drewN ?_ _ | refine blk_drew ?_ | refine blk_alloc ?_ _ )); exact BK724.out) hb); have n6_ := Aside0.mk (below_step (by repeat ((with_reducible exact HB.out))) hb); clear HO720; clear HO723; clear BK714; clear BK715; clear BK716; clear BK724; clear HB; have HO720 := n0_; have HO723 := n1_; have BK714 := n2_; have BK715 := n3_; have BK716 := n4_; have BK724 := n5_; have HB := n6_; clear n0_ n1_ n2_ n3_ n4_ n5_ n6_; (try clear hb); (try clear hb2); (try clear hk); (try clear hi); have hnb32 := NB715_716.out; have hnc32 := NB716_715.out; have hnb33 := NB715_724.out; have hnc33 := NB724_715.out; have hcz34_0 : w31.cell? ⟨gb715, 0, none⟩ = some (.int .i64 a1) := (blk_cell BK715.out 0).trans rfl; have hfz34_0 := blk_frozen BK715.out 0) | (go_at_call 51; (with_reducible refine (impl_within.calls a1 1 20 true _ A24.out).mono ?_); rintro e w' ⟨rfl, rfl⟩; have hnb35 := NB724_716.out; have hnc35 := NB716_724.out; have hcz36_0 : w31.cell? ⟨gb724, 0, none⟩ = some (.int .i64 t717) := (blk_cell BK724.out 0).trans rfl; have hcz36_1 : w31.cell? ⟨gb724, 1, none⟩ = some (.slice Ao18 t718.length co18) := (blk_cell BK724.out 1).trans rfl; have hcz36_2 : w31.cell? ⟨gb724, 2, none⟩ = some (.slice Ao19 t721.length co19) := (blk_cell BK724.out 2).trans rfl; have hfz36_0 := blk_frozen BK724.out 0; have hfz36_1 := blk_frozen BK724.out 1; have hfz36_2 := blk_frozen BK724.out 2; have hcz37_0 : w31.cell? ⟨gb716, 0, none⟩ = some (.int .i64 0) := (blk_cell BK716.out 0).trans rfl; have hcz37_1 : w31.cell? ⟨gb716, 1, none⟩ = some (.slice none 0 0) := (blk_cell BK716.out 1).trans rfl; have hcz37_2 : w31.cell? ⟨gb716, 2, none⟩ = some (.slice none 0 0) := (blk_cell BK716.out 2).trans rfl; have hfz37_0 := blk_frozen BK716.out 0; have hfz37_1 := blk_frozen BK716.out 1; have hfz37_2 := blk_frozen BK716.out 2))
        refine bodyPost_ret (results_ct rfl _ _ gb716 25 #[.int .i64 t717, .slice Ao18 t718.length co18, .slice Ao19 t721.length co19] (0, 0) _ rfl (by (with_reducible repeat (first | refine blk_drewN ?_ _ | refine blk_drew ?_ | refine blk_alloc ?_ _ )); refine blk_put (cs := #[.int .i64 t717, .slice Ao18 t718.length co18, .slice none 0 0]) ?_ 2 _ rfl; (with_reducible repeat (first | refine blk_drewN ?_ _ | refine blk_drew ?_ | refine blk_alloc ?_ _ )); refine blk_put (cs := #[.int .i64 t717, .slice none 0 0, .slice none 0 0]) ?_ 1 _ rfl; (with_reducible repeat (first | refine blk_drewN ?_ _ | refine blk_drew ?_ | refine blk_alloc ?_ _ )); refine blk_put (cs := #[.int .i64 0, .slice none 0 0, .slice none 0 0]) ?_ 0 _ rfl; (with_reducible repeat (first | refine blk_drewN ?_ _ | refine blk_drew ?_ | refine blk_alloc ?_ _ )); exact BK716.out) Try.underlying25 rfl (by kernel_rfl)) rfl ?_
        exact ⟨_, _, by rfl, by (with_reducible repeat (first | apply Kd.R_alloc | apply Kd.R_drewN | apply Kd.R_drew )); exact Kd.R_mono (Kd.R_far (p := ⟨gb716, 2, none⟩) (Kd.R_far (p := ⟨gb716, 1, none⟩) (Kd.R_far (p := ⟨gb716, 0, none⟩) (Kd.R_types HO720.out BK716.out (by decide)) (fun _ hk => hk.2) (.int .i64 t717)) (fun _ hk => hk.2) (.slice Ao18 t718.length co18)) (fun _ hk => hk.2) (.slice Ao19 t721.length co19)) (fun _ hk => trivial), by (with_reducible repeat (first | apply Kd.R_alloc | apply Kd.R_drewN | apply Kd.R_drew )); exact Kd.R_mono (Kd.R_far (p := ⟨gb716, 2, none⟩) (Kd.R_far (p := ⟨gb716, 1, none⟩) (Kd.R_far (p := ⟨gb716, 0, none⟩) (Kd.R_types HO723.out BK716.out (by decide)) (fun _ hk => hk.2) (.int .i64 t717)) (fun _ hk => hk.2) (.slice Ao18 t718.length co18)) (fun _ hk => hk.2) (.slice Ao19 t721.length co19)) (fun _ hk => trivial), by repeat ((with_reducible first | exact HB.out | refine below_set ?_ GE716.out))⟩
      · replace c26 := Bool.eq_false_iff.mpr c26
        subst c26
        have H1 : (if (l0_2.length : Int) = 40 then (some (t717, t718, t721, false)) else (if t721.length < 8796093022208 then (some (t717, t718, (t721 ++ [(⟨a1, a0_0⟩ : S57)]), true)) else (none))) = some (r1, r2, r3, r4) := by rw [if_neg (show ¬ (false = true) by decide)] at H; exact H
        clear H
        have H := H1
        clear H1
        have HS38 := Aside0.mk H
        clear H
        have hnb39 := NB714_715.out
        have hnc39 := NB715_714.out
        have hnb40 := NB714_716.out
        have hnc40 := NB716_714.out
        have hnb41 := NB714_724.out
        have hnc41 := NB724_714.out
        have hcz42_0 : w21.cell? ⟨gb714, 0, none⟩ = some (.int .i64 a0_0) := (blk_cell BK714.out 0).trans rfl
        have hcz42_1 : w21.cell? ⟨gb714, 1, none⟩ = some (.slice A0_1 l0_1.length c0_1) := (blk_cell BK714.out 1).trans rfl
        have hcz42_2 : w21.cell? ⟨gb714, 2, none⟩ = some (.slice A0_2 l0_2.length c0_2) := (blk_cell BK714.out 2).trans rfl
        have hfz42_0 := blk_frozen BK714.out 0
        have hfz42_1 := blk_frozen BK714.out 1
        have hfz42_2 := blk_frozen BK714.out 2
        go_upto_if 30 with (first | ((with_reducible refine gate_callee (f := 21) rfl ?_); refine goesL_ (some 15) rfl rfl Try.func21 (by kernel_rfl) rfl #[.agg #[.int .i64 a0_0, .slice A0_1 l0_1.length c0_1, .slice A0_2 l0_2.length c0_2]] rfl (by (try simp only [List.map_toArray, List.map_cons, List.map_nil]); rfl) ?_; (with_reducible refine (impl_EpochsOk.calls k a0_0 _ _ l0_1 _ _ l0_2 true _ ?side1 ?side2 ?side3 ?side4 A22.out).mono ?_); (case side1 => repeat (exact (Kd.C_below HR0_1.out HB.out))); (case side2 => exact HC0_1.out); (case side3 => repeat (exact (Kd.C_below HR0_2.out HB.out))); (case side4 => exact HC0_2.out); rintro e w43 ⟨rfl, hb⟩; refine ⟨_, rfl, ?_⟩; have n0_ := Aside0.mk (Kd.R_below (by (with_reducible repeat (first | apply Kd.R_alloc | apply Kd.R_drewN | apply Kd.R_drew )); exact HO720.out) hb); have n1_ := Aside0.mk (Kd.R_below (by (with_reducible repeat (first | apply Kd.R_alloc | apply Kd.R_drewN | apply Kd.R_drew )); exact HO723.out) hb); have n2_ := Aside0.mk (blk_below (g := gb714) (o := .cells #[.int .i64 a0_0, .slice A0_1 l0_1.length c0_1, .slice A0_2 l0_2.length c0_2] 25 (0, 0)) (by (with_reducible repeat (first | refine blk_drewN ?_ _ | refine blk_drew ?_ | refine blk_alloc ?_ _ )); exact BK714.out) hb); have n3_ := Aside0.mk (blk_below (g := gb715) (o := .cells #[.int .i64 a1] 3 (0, 0)) (by (with_reducible repeat (first | refine blk_drewN ?_ _ | refine blk_drew ?_ | refine blk_alloc ?_ _ )); exact BK715.out) hb); have n4_ := Aside0.mk (blk_below (g := gb716) (o := .cells #[.int .i64 0, .slice none 0 0, .slice none 0 0] 25 (0, 0)) (by (with_reducible repeat (first | refine blk_drewN ?_ _ | refine blk_drew ?_ | refine blk_alloc ?_ _ )); exact BK716.out) hb); have n5_ := Aside0.mk (blk_below (g := gb724) (o := .cells #[.int .i64 t717, .slice Ao18 t718.length co18, .slice Ao19 t721.length co19] 25 (0, 0)) (by (with_reducible repeat (first | refine blk_drewN ?_ _ | refine blk_drew ?_ | refine blk_alloc ?_ _ )); exact BK724.out) hb); have n6_ := Aside0.mk (below_step (by repeat ((with_reducible exact HB.out))) hb); clear HO720; clear HO723; clear BK714; clear BK715; clear BK716; clear BK724; clear HB; have HO720 := n0_; have HO723 := n1_; have BK714 := n2_; have BK715 := n3_; have BK716 := n4_; have BK724 := n5_; have HB := n6_; clear n0_ n1_ n2_ n3_ n4_ n5_ n6_; (try clear hb); (try clear hb2); (try clear hk); (try clear hi); have hnb44 := NB715_716.out; have hnc44 := NB716_715.out; have hnb45 := NB715_724.out; have hnc45 := NB724_715.out; have hcz46_0 : w43.cell? ⟨gb715, 0, none⟩ = some (.int .i64 a1) := (blk_cell BK715.out 0).trans rfl; have hfz46_0 := blk_frozen BK715.out 0) | (go_at_call 51; (with_reducible refine (impl_within.calls a1 1 20 true _ A24.out).mono ?_); rintro e w' ⟨rfl, rfl⟩; have hcz47_0 : w43.cell? ⟨gb714, 0, none⟩ = some (.int .i64 a0_0) := (blk_cell BK714.out 0).trans rfl; have hcz47_1 : w43.cell? ⟨gb714, 1, none⟩ = some (.slice A0_1 l0_1.length c0_1) := (blk_cell BK714.out 1).trans rfl; have hcz47_2 : w43.cell? ⟨gb714, 2, none⟩ = some (.slice A0_2 l0_2.length c0_2) := (blk_cell BK714.out 2).trans rfl; have hfz47_0 := blk_frozen BK714.out 0; have hfz47_1 := blk_frozen BK714.out 1; have hfz47_2 := blk_frozen BK714.out 2))
        (try simp only [Act.put, List.setIfInBounds_toArray, List.set_cons_zero, List.set_cons_succ])
        have H := HS38.out
        clear HS38
        by_cases c48 : (l0_2.length : Int) = 40
        · rw [if_pos c48] at H
          have c48b0 : ((l0_2.length : Int) == 40) = true := beq_iff_eq.mpr c48
          have c48b1 : ((l0_2.length : Int) != 40) = false := bne_eq_false_iff_eq.mpr c48
          clear c48
          (rw [c48b0])
          simp only [Option.some.injEq, Prod.mk.injEq] at H
          obtain ⟨rfl, rfl, rfl, rfl⟩ := H
          have hnb49 := NB724_714.out
          have hnc49 := NB714_724.out
          have hnb50 := NB724_715.out
          have hnc50 := NB715_724.out
          have hnb51 := NB724_716.out
          have hnc51 := NB716_724.out
          have hcz52_0 : w43.cell? ⟨gb724, 0, none⟩ = some (.int .i64 t717) := (blk_cell BK724.out 0).trans rfl
          have hcz52_1 : w43.cell? ⟨gb724, 1, none⟩ = some (.slice Ao18 t718.length co18) := (blk_cell BK724.out 1).trans rfl
          have hcz52_2 : w43.cell? ⟨gb724, 2, none⟩ = some (.slice Ao19 t721.length co19) := (blk_cell BK724.out 2).trans rfl
          have hfz52_0 := blk_frozen BK724.out 0
          have hfz52_1 := blk_frozen BK724.out 1
          have hfz52_2 := blk_frozen BK724.out 2
          have hnb53 := NB716_714.out
          have hnc53 := NB714_716.out
          have hnb54 := NB716_715.out
          have hnc54 := NB715_716.out
          have hcz55_0 : w43.cell? ⟨gb716, 0, none⟩ = some (.int .i64 0) := (blk_cell BK716.out 0).trans rfl
          have hcz55_1 : w43.cell? ⟨gb716, 1, none⟩ = some (.slice none 0 0) := (blk_cell BK716.out 1).trans rfl
          have hcz55_2 : w43.cell? ⟨gb716, 2, none⟩ = some (.slice none 0 0) := (blk_cell BK716.out 2).trans rfl
          have hfz55_0 := blk_frozen BK716.out 0
          have hfz55_1 := blk_frozen BK716.out 1
          have hfz55_2 := blk_frozen BK716.out 2
          go_wp2
          refine bodyPost_ret (results_ct rfl _ _ gb716 25 #[.int .i64 t717, .slice Ao18 t718.length co18, .slice Ao19 t721.length co19] (0, 0) _ rfl (by (with_reducible repeat (first | refine blk_drewN ?_ _ | refine blk_drew ?_ | refine blk_alloc ?_ _ )); refine blk_put (cs := #[.int .i64 t717, .slice Ao18 t718.length co18, .slice none 0 0]) ?_ 2 _ rfl; (with_reducible repeat (first | refine blk_drewN ?_ _ | refine blk_drew ?_ | refine blk_alloc ?_ _ )); refine blk_put (cs := #[.int .i64 t717, .slice none 0 0, .slice none 0 0]) ?_ 1 _ rfl; (with_reducible repeat (first | refine blk_drewN ?_ _ | refine blk_drew ?_ | refine blk_alloc ?_ _ )); refine blk_put (cs := #[.int .i64 0, .slice none 0 0, .slice none 0 0]) ?_ 0 _ rfl; (with_reducible repeat (first | refine blk_drewN ?_ _ | refine blk_drew ?_ | refine blk_alloc ?_ _ )); exact BK716.out) Try.underlying25 rfl (by kernel_rfl)) rfl ?_
          exact ⟨_, _, by rfl, by (with_reducible repeat (first | apply Kd.R_alloc | apply Kd.R_drewN | apply Kd.R_drew )); exact Kd.R_mono (Kd.R_far (p := ⟨gb716, 2, none⟩) (Kd.R_far (p := ⟨gb716, 1, none⟩) (Kd.R_far (p := ⟨gb716, 0, none⟩) (Kd.R_types HO720.out BK716.out (by decide)) (fun _ hk => hk.2) (.int .i64 t717)) (fun _ hk => hk.2) (.slice Ao18 t718.length co18)) (fun _ hk => hk.2) (.slice Ao19 t721.length co19)) (fun _ hk => trivial), by (with_reducible repeat (first | apply Kd.R_alloc | apply Kd.R_drewN | apply Kd.R_drew )); exact Kd.R_mono (Kd.R_far (p := ⟨gb716, 2, none⟩) (Kd.R_far (p := ⟨gb716, 1, none⟩) (Kd.R_far (p := ⟨gb716, 0, none⟩) (Kd.R_types HO723.out BK716.out (by decide)) (fun _ hk => hk.2) (.int .i64 t717)) (fun _ hk => hk.2) (.slice Ao18 t718.length co18)) (fun _ hk => hk.2) (.slice Ao19 t721.length co19)) (fun _ hk => trivial), by repeat ((with_reducible first | exact HB.out | refine below_set ?_ GE716.out))⟩
        · rw [if_neg c48] at H
          have c48b0 : ((l0_2.length : Int) == 40) = false := beq_eq_false_iff_ne.mpr c48
          have c48b1 : ((l0_2.length : Int) != 40) = true := bne_iff_ne.mpr c48
          (rw [c48b0])
          by_cases c56 : t721.length < 8796093022208
          rotate_left
          · rw [if_neg c56] at H
            exact absurd H (by simp)
          rw [if_pos c56] at H
          have LMc56 := Aside0.mk c56
          clear c56
          obtain ⟨y728, hy728⟩ : ∃ y_ : List (S57), y_ = (t721 ++ [(⟨a1, a0_0⟩ : S57)]) := ⟨_, rfl⟩
          replace H : (some (t717, t718, y728, true)) = some (r1, r2, r3, r4) := by (rw [hy728]; with_reducible exact H)
          have Ny728 := Aside0.mk hy728
          clear hy728
          simp only [Option.some.injEq, Prod.mk.injEq] at H
          obtain ⟨rfl, rfl, rfl, rfl⟩ := H
          have hnb57 := NB724_714.out
          have hnc57 := NB714_724.out
          have hnb58 := NB724_715.out
          have hnc58 := NB715_724.out
          have hnb59 := NB724_716.out
          have hnc59 := NB716_724.out
          have hcz60_0 : w43.cell? ⟨gb724, 0, none⟩ = some (.int .i64 t717) := (blk_cell BK724.out 0).trans rfl
          have hcz60_1 : w43.cell? ⟨gb724, 1, none⟩ = some (.slice Ao18 t718.length co18) := (blk_cell BK724.out 1).trans rfl
          have hcz60_2 : w43.cell? ⟨gb724, 2, none⟩ = some (.slice Ao19 t721.length co19) := (blk_cell BK724.out 2).trans rfl
          have hfz60_0 := blk_frozen BK724.out 0
          have hfz60_1 := blk_frozen BK724.out 1
          have hfz60_2 := blk_frozen BK724.out 2
          have hnb61 := NB715_714.out
          have hnc61 := NB714_715.out
          have hnb62 := NB715_716.out
          have hnc62 := NB716_715.out
          have hcz63_0 : w43.cell? ⟨gb715, 0, none⟩ = some (.int .i64 a1) := (blk_cell BK715.out 0).trans rfl
          have hfz63_0 := blk_frozen BK715.out 0
          have hnb64 := NB714_716.out
          have hnc64 := NB716_714.out
          have hcz65_0 : w43.cell? ⟨gb714, 0, none⟩ = some (.int .i64 a0_0) := (blk_cell BK714.out 0).trans rfl
          have hcz65_1 : w43.cell? ⟨gb714, 1, none⟩ = some (.slice A0_1 l0_1.length c0_1) := (blk_cell BK714.out 1).trans rfl
          have hcz65_2 : w43.cell? ⟨gb714, 2, none⟩ = some (.slice A0_2 l0_2.length c0_2) := (blk_cell BK714.out 2).trans rfl
          have hfz65_0 := blk_frozen BK714.out 0
          have hfz65_1 := blk_frozen BK714.out 1
          have hfz65_2 := blk_frozen BK714.out 2
          go_wp2_with (((with_reducible refine gate_builtin (b := .append) (xs := #[.tmp 33, .tmp 38]) rfl ?_); (try (refine gate_guard (by rfl) ?_; dsimp only)); at_builtin; refine Kd.R_append k57 (w0 := w) w.heap.size rfl (.tmp 33) (.tmp 38) 23 57 (.agg #[(.int .i64 0), (.int .i64 0)]) 16 rfl Try.underlying23 info57 rfl (by decide) (by omega) (.slice Ao19 t721.length co19) t721 (⟨a1, a0_0⟩ : S57) [.int .i64 a1, .int .i64 a0_0] (fun _ => True) (fun _ => False) rfl rfl ?aP (fun _ hk => hk.elim) ?aF ?aO ?aB ?aS ?aL ?_; (case aP => exact k57_mkM _ _ _ (⟨a1, a0_0⟩ : S57)); (case aB => exact (by repeat ((with_reducible exact HB.out)))); (case aF => exact (fun _ _ => trivial)); (case aO => exact (by (with_reducible repeat (first | apply Kd.R_alloc | apply Kd.R_drewN | apply Kd.R_drew )); exact HO723.out)); (case aS => exact (below_size (by repeat ((with_reducible exact HB.out))))); (case aL => have := LMc56.out; omega); intro v729 w66 ho hb hg hat; rw [← Ny728.out] at ho; have n0_ := Aside0.mk (blk_grown (g := gb714) (o := .cells #[.int .i64 a0_0, .slice A0_1 l0_1.length c0_1, .slice A0_2 l0_2.length c0_2] 25 (0, 0)) (by (with_reducible repeat (first | refine blk_drewN ?_ _ | refine blk_drew ?_ | refine blk_alloc ?_ _ )); exact BK714.out) hg (Kd.R_ne HO723.out BK714.out (by decide))); have n1_ := Aside0.mk (blk_grown (g := gb715) (o := .cells #[.int .i64 a1] 3 (0, 0)) (by (with_reducible repeat (first | refine blk_drewN ?_ _ | refine blk_drew ?_ | refine blk_alloc ?_ _ )); exact BK715.out) hg (Kd.R_ne HO723.out BK715.out (by decide))); have n2_ := Aside0.mk (blk_grown (g := gb716) (o := .cells #[.int .i64 0, .slice none 0 0, .slice none 0 0] 25 (0, 0)) (by (with_reducible repeat (first | refine blk_drewN ?_ _ | refine blk_drew ?_ | refine blk_alloc ?_ _ )); exact BK716.out) hg (Kd.R_ne HO723.out BK716.out (by decide))); have n3_ := Aside0.mk (Kd.R_over' (by (with_reducible repeat (first | apply Kd.R_alloc | apply Kd.R_drewN | apply Kd.R_drew )); exact HO720.out) (Kd.R_typed (by (with_reducible repeat (first | apply Kd.R_alloc | apply Kd.R_drewN | apply Kd.R_drew )); exact HO723.out)) (by decide) hg); have n4_ := Aside0.mk (blk_grown (g := gb724) (o := .cells #[.int .i64 t717, .slice Ao18 t718.length co18, .slice Ao19 t721.length co19] 25 (0, 0)) (by (with_reducible repeat (first | refine blk_drewN ?_ _ | refine blk_drew ?_ | refine blk_alloc ?_ _ )); exact BK724.out) hg (Kd.R_ne HO723.out BK724.out (by decide))); have n5_ := Aside0.mk (hb); have n6_ := Aside0.mk (ho); clear BK714; clear BK715; clear BK716; clear HO720; clear BK724; clear HB; clear HO723; have BK714 := n0_; have BK715 := n1_; have BK716 := n2_; have HO720 := n3_; have BK724 := n4_; have HB := n5_; have HO730 := n6_; clear n0_ n1_ n2_ n3_ n4_ n5_ n6_; clear ho hb hg hat; obtain ⟨Ao67, co67, eo67⟩ := Kd.R_slice HO730.out; subst eo67; have hcz68_0 : w66.cell? ⟨gb724, 0, none⟩ = some (.int .i64 t717) := (blk_cell BK724.out 0).trans rfl; have hcz68_1 : w66.cell? ⟨gb724, 1, none⟩ = some (.slice Ao18 t718.length co18) := (blk_cell BK724.out 1).trans rfl; have hcz68_2 : w66.cell? ⟨gb724, 2, none⟩ = some (.slice Ao19 t721.length co19) := (blk_cell BK724.out 2).trans rfl; have hfz68_0 := blk_frozen BK724.out 0; have hfz68_1 := blk_frozen BK724.out 1; have hfz68_2 := blk_frozen BK724.out 2; have hcz69_0 : w66.cell? ⟨gb716, 0, none⟩ = some (.int .i64 0) := (blk_cell BK716.out 0).trans rfl; have hcz69_1 : w66.cell? ⟨gb716, 1, none⟩ = some (.slice none 0 0) := (blk_cell BK716.out 1).trans rfl; have hcz69_2 : w66.cell? ⟨gb716, 2, none⟩ = some (.slice none 0 0) := (blk_cell BK716.out 2).trans rfl; have hfz69_0 := blk_frozen BK716.out 0; have hfz69_1 := blk_frozen BK716.out 1; have hfz69_2 := blk_frozen BK716.out 2))
          refine bodyPost_ret (results_ct rfl _ _ gb716 25 #[.int .i64 t717, .slice Ao18 t718.length co18, .slice Ao67 y728.length co67] (0, 0) _ rfl (by (with_reducible repeat (first | refine blk_drewN ?_ _ | refine blk_drew ?_ | refine blk_alloc ?_ _ )); refine blk_put (cs := #[.int .i64 t717, .slice Ao18 t718.length co18, .slice none 0 0]) ?_ 2 _ rfl; (with_reducible repeat (first | refine blk_drewN ?_ _ | refine blk_drew ?_ | refine blk_alloc ?_ _ )); refine blk_put (cs := #[.int .i64 t717, .slice none 0 0, .slice none 0 0]) ?_ 1 _ rfl; (with_reducible repeat (first | refine blk_drewN ?_ _ | refine blk_drew ?_ | refine blk_alloc ?_ _ )); refine blk_put (cs := #[.int .i64 0, .slice none 0 0, .slice none 0 0]) ?_ 0 _ rfl; (with_reducible repeat (first | refine blk_drewN ?_ _ | refine blk_drew ?_ | refine blk_alloc ?_ _ )); refine blk_far ?_ NB716_724.out _; (with_reducible repeat (first | refine blk_drewN ?_ _ | refine blk_drew ?_ | refine blk_alloc ?_ _ )); exact BK716.out) Try.underlying25 rfl (by kernel_rfl)) rfl ?_
          exact ⟨_, _, by rfl, by (with_reducible repeat (first | apply Kd.R_alloc | apply Kd.R_drewN | apply Kd.R_drew )); exact Kd.R_mono (Kd.R_far (p := ⟨gb716, 2, none⟩) (Kd.R_far (p := ⟨gb716, 1, none⟩) (Kd.R_far (p := ⟨gb716, 0, none⟩) (Kd.R_far (p := ⟨gb724, 2, none⟩) (Kd.R_types (Kd.R_types HO720.out BK724.out (by decide)) BK716.out (by decide)) (fun _ hk => hk.1.2) (.slice Ao67 y728.length co67)) (fun _ hk => hk.2) (.int .i64 t717)) (fun _ hk => hk.2) (.slice Ao18 t718.length co18)) (fun _ hk => hk.2) (.slice Ao67 y728.length co67)) (fun _ hk => trivial), by (with_reducible repeat (first | apply Kd.R_alloc | apply Kd.R_drewN | apply Kd.R_drew )); exact Kd.R_mono (Kd.R_far (p := ⟨gb716, 2, none⟩) (Kd.R_far (p := ⟨gb716, 1, none⟩) (Kd.R_far (p := ⟨gb716, 0, none⟩) (Kd.R_far (p := ⟨gb724, 2, none⟩) (Kd.R_types (Kd.R_types HO730.out BK724.out (by decide)) BK716.out (by decide)) (fun _ hk => hk.1.2) (.slice Ao67 y728.length co67)) (fun _ hk => hk.2) (.int .i64 t717)) (fun _ hk => hk.2) (.slice Ao18 t718.length co18)) (fun _ hk => hk.2) (.slice Ao67 y728.length co67)) (fun _ hk => trivial), by repeat ((with_reducible first | exact HB.out | refine below_set ?_ GE716.out | refine below_set ?_ GE724.out))⟩
    · replace c25 := Bool.eq_false_iff.mpr c25
      subst c25
      have H1 : (some (t717, t718, t721, false)) = some (r1, r2, r3, r4) := by rw [if_neg (show ¬ (false = true) by decide)] at H; exact H
      clear H
      have H := H1
      clear H1
      simp only [Option.some.injEq, Prod.mk.injEq] at H
      obtain ⟨rfl, rfl, rfl, rfl⟩ := H
      have hnb70 := NB714_715.out
      have hnc70 := NB715_714.out
      have hnb71 := NB714_716.out
      have hnc71 := NB716_714.out
      have hnb72 := NB714_724.out
      have hnc72 := NB724_714.out
      have hcz73_0 : w21.cell? ⟨gb714, 0, none⟩ = some (.int .i64 a0_0) := (blk_cell BK714.out 0).trans rfl
      have hcz73_1 : w21.cell? ⟨gb714, 1, none⟩ = some (.slice A0_1 l0_1.length c0_1) := (blk_cell BK714.out 1).trans rfl
      have hcz73_2 : w21.cell? ⟨gb714, 2, none⟩ = some (.slice A0_2 l0_2.length c0_2) := (blk_cell BK714.out 2).trans rfl
      have hfz73_0 := blk_frozen BK714.out 0
      have hfz73_1 := blk_frozen BK714.out 1
      have hfz73_2 := blk_frozen BK714.out 2
      go_wp2_with (first | ((with_reducible refine gate_callee (f := 21) rfl ?_); refine goesL_ (some 15) rfl rfl Try.func21 (by kernel_rfl) rfl #[.agg #[.int .i64 a0_0, .slice A0_1 l0_1.length c0_1, .slice A0_2 l0_2.length c0_2]] rfl (by (try simp only [List.map_toArray, List.map_cons, List.map_nil]); rfl) ?_; (with_reducible refine (impl_EpochsOk.calls k a0_0 _ _ l0_1 _ _ l0_2 true _ ?side1 ?side2 ?side3 ?side4 A22.out).mono ?_); (case side1 => repeat (exact (Kd.C_below HR0_1.out HB.out))); (case side2 => exact HC0_1.out); (case side3 => repeat (exact (Kd.C_below HR0_2.out HB.out))); (case side4 => exact HC0_2.out); rintro e w74 ⟨rfl, hb⟩; refine ⟨_, rfl, ?_⟩; have n0_ := Aside0.mk (Kd.R_below (by (with_reducible repeat (first | apply Kd.R_alloc | apply Kd.R_drewN | apply Kd.R_drew )); exact HO720.out) hb); have n1_ := Aside0.mk (Kd.R_below (by (with_reducible repeat (first | apply Kd.R_alloc | apply Kd.R_drewN | apply Kd.R_drew )); exact HO723.out) hb); have n2_ := Aside0.mk (blk_below (g := gb714) (o := .cells #[.int .i64 a0_0, .slice A0_1 l0_1.length c0_1, .slice A0_2 l0_2.length c0_2] 25 (0, 0)) (by (with_reducible repeat (first | refine blk_drewN ?_ _ | refine blk_drew ?_ | refine blk_alloc ?_ _ )); exact BK714.out) hb); have n3_ := Aside0.mk (blk_below (g := gb715) (o := .cells #[.int .i64 a1] 3 (0, 0)) (by (with_reducible repeat (first | refine blk_drewN ?_ _ | refine blk_drew ?_ | refine blk_alloc ?_ _ )); exact BK715.out) hb); have n4_ := Aside0.mk (blk_below (g := gb716) (o := .cells #[.int .i64 0, .slice none 0 0, .slice none 0 0] 25 (0, 0)) (by (with_reducible repeat (first | refine blk_drewN ?_ _ | refine blk_drew ?_ | refine blk_alloc ?_ _ )); exact BK716.out) hb); have n5_ := Aside0.mk (blk_below (g := gb724) (o := .cells #[.int .i64 t717, .slice Ao18 t718.length co18, .slice Ao19 t721.length co19] 25 (0, 0)) (by (with_reducible repeat (first | refine blk_drewN ?_ _ | refine blk_drew ?_ | refine blk_alloc ?_ _ )); exact BK724.out) hb); have n6_ := Aside0.mk (below_step (by repeat ((with_reducible exact HB.out))) hb); clear HO720; clear HO723; clear BK714; clear BK715; clear BK716; clear BK724; clear HB; have HO720 := n0_; have HO723 := n1_; have BK714 := n2_; have BK715 := n3_; have BK716 := n4_; have BK724 := n5_; have HB := n6_; clear n0_ n1_ n2_ n3_ n4_ n5_ n6_; (try clear hb); (try clear hb2); (try clear hk); (try clear hi); have hnb75 := NB715_716.out; have hnc75 := NB716_715.out; have hnb76 := NB715_724.out; have hnc76 := NB724_715.out; have hcz77_0 : w74.cell? ⟨gb715, 0, none⟩ = some (.int .i64 a1) := (blk_cell BK715.out 0).trans rfl; have hfz77_0 := blk_frozen BK715.out 0) | (go_at_call 51; (with_reducible refine (impl_within.calls a1 1 20 false _ A24.out).mono ?_); rintro e w' ⟨rfl, rfl⟩; have hnb78 := NB724_716.out; have hnc78 := NB716_724.out; have hcz79_0 : w74.cell? ⟨gb724, 0, none⟩ = some (.int .i64 t717) := (blk_cell BK724.out 0).trans rfl; have hcz79_1 : w74.cell? ⟨gb724, 1, none⟩ = some (.slice Ao18 t718.length co18) := (blk_cell BK724.out 1).trans rfl; have hcz79_2 : w74.cell? ⟨gb724, 2, none⟩ = some (.slice Ao19 t721.length co19) := (blk_cell BK724.out 2).trans rfl; have hfz79_0 := blk_frozen BK724.out 0; have hfz79_1 := blk_frozen BK724.out 1; have hfz79_2 := blk_frozen BK724.out 2; have hcz80_0 : w74.cell? ⟨gb716, 0, none⟩ = some (.int .i64 0) := (blk_cell BK716.out 0).trans rfl; have hcz80_1 : w74.cell? ⟨gb716, 1, none⟩ = some (.slice none 0 0) := (blk_cell BK716.out 1).trans rfl; have hcz80_2 : w74.cell? ⟨gb716, 2, none⟩ = some (.slice none 0 0) := (blk_cell BK716.out 2).trans rfl; have hfz80_0 := blk_frozen BK716.out 0; have hfz80_1 := blk_frozen BK716.out 1; have hfz80_2 := blk_frozen BK716.out 2))
      refine bodyPost_ret (results_ct rfl _ _ gb716 25 #[.int .i64 t717, .slice Ao18 t718.length co18, .slice Ao19 t721.length co19] (0, 0) _ rfl (by (with_reducible repeat (first | refine blk_drewN ?_ _ | refine blk_drew ?_ | refine blk_alloc ?_ _ )); refine blk_put (cs := #[.int .i64 t717, .slice Ao18 t718.length co18, .slice none 0 0]) ?_ 2 _ rfl; (with_reducible repeat (first | refine blk_drewN ?_ _ | refine blk_drew ?_ | refine blk_alloc ?_ _ )); refine blk_put (cs := #[.int .i64 t717, .slice none 0 0, .slice none 0 0]) ?_ 1 _ rfl; (with_reducible repeat (first | refine blk_drewN ?_ _ | refine blk_drew ?_ | refine blk_alloc ?_ _ )); refine blk_put (cs := #[.int .i64 0, .slice none 0 0, .slice none 0 0]) ?_ 0 _ rfl; (with_reducible repeat (first | refine blk_drewN ?_ _ | refine blk_drew ?_ | refine blk_alloc ?_ _ )); exact BK716.out) Try.underlying25 rfl (by kernel_rfl)) rfl ?_
      exact ⟨_, _, by rfl, by (with_reducible repeat (first | apply Kd.R_alloc | apply Kd.R_drewN | apply Kd.R_drew )); exact Kd.R_mono (Kd.R_far (p := ⟨gb716, 2, none⟩) (Kd.R_far (p := ⟨gb716, 1, none⟩) (Kd.R_far (p := ⟨gb716, 0, none⟩) (Kd.R_types HO720.out BK716.out (by decide)) (fun _ hk => hk.2) (.int .i64 t717)) (fun _ hk => hk.2) (.slice Ao18 t718.length co18)) (fun _ hk => hk.2) (.slice Ao19 t721.length co19)) (fun _ hk => trivial), by (with_reducible repeat (first | apply Kd.R_alloc | apply Kd.R_drewN | apply Kd.R_drew )); exact Kd.R_mono (Kd.R_far (p := ⟨gb716, 2, none⟩) (Kd.R_far (p := ⟨gb716, 1, none⟩) (Kd.R_far (p := ⟨gb716, 0, none⟩) (Kd.R_types HO723.out BK716.out (by decide)) (fun _ hk => hk.2) (.int .i64 t717)) (fun _ hk => hk.2) (.slice Ao18 t718.length co18)) (fun _ hk => hk.2) (.slice Ao19 t721.length co19)) (fun _ hk => trivial), by repeat ((with_reducible first | exact HB.out | refine below_set ?_ GE716.out))⟩
  · replace c23 := Bool.eq_false_iff.mpr c23
    subst c23
    have H1 : (some (t717, t718, t721, false)) = some (r1, r2, r3, r4) := by rw [if_neg (show ¬ (false = true) by decide)] at H; exact H
    clear H
    have H := H1
    clear H1
    simp only [Option.some.injEq, Prod.mk.injEq] at H
    obtain ⟨rfl, rfl, rfl, rfl⟩ := H
    have hnb81 := NB714_715.out
    have hnc81 := NB715_714.out
    have hnb82 := NB714_716.out
    have hnc82 := NB716_714.out
    have hnb83 := NB714_724.out
    have hnc83 := NB724_714.out
    have hcz84_0 : w21.cell? ⟨gb714, 0, none⟩ = some (.int .i64 a0_0) := (blk_cell BK714.out 0).trans rfl
    have hcz84_1 : w21.cell? ⟨gb714, 1, none⟩ = some (.slice A0_1 l0_1.length c0_1) := (blk_cell BK714.out 1).trans rfl
    have hcz84_2 : w21.cell? ⟨gb714, 2, none⟩ = some (.slice A0_2 l0_2.length c0_2) := (blk_cell BK714.out 2).trans rfl
    have hfz84_0 := blk_frozen BK714.out 0
    have hfz84_1 := blk_frozen BK714.out 1
    have hfz84_2 := blk_frozen BK714.out 2
    go_wp2_with (((with_reducible refine gate_callee (f := 21) rfl ?_); refine goesL_ (some 15) rfl rfl Try.func21 (by kernel_rfl) rfl #[.agg #[.int .i64 a0_0, .slice A0_1 l0_1.length c0_1, .slice A0_2 l0_2.length c0_2]] rfl (by (try simp only [List.map_toArray, List.map_cons, List.map_nil]); rfl) ?_; (with_reducible refine (impl_EpochsOk.calls k a0_0 _ _ l0_1 _ _ l0_2 false _ ?side1 ?side2 ?side3 ?side4 A22.out).mono ?_); (case side1 => repeat (exact (Kd.C_below HR0_1.out HB.out))); (case side2 => exact HC0_1.out); (case side3 => repeat (exact (Kd.C_below HR0_2.out HB.out))); (case side4 => exact HC0_2.out); rintro e w85 ⟨rfl, hb⟩; refine ⟨_, rfl, ?_⟩; have n0_ := Aside0.mk (Kd.R_below (by (with_reducible repeat (first | apply Kd.R_alloc | apply Kd.R_drewN | apply Kd.R_drew )); exact HO720.out) hb); have n1_ := Aside0.mk (Kd.R_below (by (with_reducible repeat (first | apply Kd.R_alloc | apply Kd.R_drewN | apply Kd.R_drew )); exact HO723.out) hb); have n2_ := Aside0.mk (blk_below (g := gb714) (o := .cells #[.int .i64 a0_0, .slice A0_1 l0_1.length c0_1, .slice A0_2 l0_2.length c0_2] 25 (0, 0)) (by (with_reducible repeat (first | refine blk_drewN ?_ _ | refine blk_drew ?_ | refine blk_alloc ?_ _ )); exact BK714.out) hb); have n3_ := Aside0.mk (blk_below (g := gb715) (o := .cells #[.int .i64 a1] 3 (0, 0)) (by (with_reducible repeat (first | refine blk_drewN ?_ _ | refine blk_drew ?_ | refine blk_alloc ?_ _ )); exact BK715.out) hb); have n4_ := Aside0.mk (blk_below (g := gb716) (o := .cells #[.int .i64 0, .slice none 0 0, .slice none 0 0] 25 (0, 0)) (by (with_reducible repeat (first | refine blk_drewN ?_ _ | refine blk_drew ?_ | refine blk_alloc ?_ _ )); exact BK716.out) hb); have n5_ := Aside0.mk (blk_below (g := gb724) (o := .cells #[.int .i64 t717, .slice Ao18 t718.length co18, .slice Ao19 t721.length co19] 25 (0, 0)) (by (with_reducible repeat (first | refine blk_drewN ?_ _ | refine blk_drew ?_ | refine blk_alloc ?_ _ )); exact BK724.out) hb); have n6_ := Aside0.mk (below_step (by repeat ((with_reducible exact HB.out))) hb); clear HO720; clear HO723; clear BK714; clear BK715; clear BK716; clear BK724; clear HB; have HO720 := n0_; have HO723 := n1_; have BK714 := n2_; have BK715 := n3_; have BK716 := n4_; have BK724 := n5_; have HB := n6_; clear n0_ n1_ n2_ n3_ n4_ n5_ n6_; (try clear hb); (try clear hb2); (try clear hk); (try clear hi); have hnb86 := NB724_715.out; have hnc86 := NB715_724.out; have hnb87 := NB724_716.out; have hnc87 := NB716_724.out; have hcz88_0 : w85.cell? ⟨gb724, 0, none⟩ = some (.int .i64 t717) := (blk_cell BK724.out 0).trans rfl; have hcz88_1 : w85.cell? ⟨gb724, 1, none⟩ = some (.slice Ao18 t718.length co18) := (blk_cell BK724.out 1).trans rfl; have hcz88_2 : w85.cell? ⟨gb724, 2, none⟩ = some (.slice Ao19 t721.length co19) := (blk_cell BK724.out 2).trans rfl; have hfz88_0 := blk_frozen BK724.out 0; have hfz88_1 := blk_frozen BK724.out 1; have hfz88_2 := blk_frozen BK724.out 2; have hnb89 := NB716_715.out; have hnc89 := NB715_716.out; have hcz90_0 : w85.cell? ⟨gb716, 0, none⟩ = some (.int .i64 0) := (blk_cell BK716.out 0).trans rfl; have hcz90_1 : w85.cell? ⟨gb716, 1, none⟩ = some (.slice none 0 0) := (blk_cell BK716.out 1).trans rfl; have hcz90_2 : w85.cell? ⟨gb716, 2, none⟩ = some (.slice none 0 0) := (blk_cell BK716.out 2).trans rfl; have hfz90_0 := blk_frozen BK716.out 0; have hfz90_1 := blk_frozen BK716.out 1; have hfz90_2 := blk_frozen BK716.out 2))
    refine bodyPost_ret (results_ct rfl _ _ gb716 25 #[.int .i64 t717, .slice Ao18 t718.length co18, .slice Ao19 t721.length co19] (0, 0) _ rfl (by (with_reducible repeat (first | refine blk_drewN ?_ _ | refine blk_drew ?_ | refine blk_alloc ?_ _ )); refine blk_put (cs := #[.int .i64 t717, .slice Ao18 t718.length co18, .slice none 0 0]) ?_ 2 _ rfl; (with_reducible repeat (first | refine blk_drewN ?_ _ | refine blk_drew ?_ | refine blk_alloc ?_ _ )); refine blk_put (cs := #[.int .i64 t717, .slice none 0 0, .slice none 0 0]) ?_ 1 _ rfl; (with_reducible repeat (first | refine blk_drewN ?_ _ | refine blk_drew ?_ | refine blk_alloc ?_ _ )); refine blk_put (cs := #[.int .i64 0, .slice none 0 0, .slice none 0 0]) ?_ 0 _ rfl; (with_reducible repeat (first | refine blk_drewN ?_ _ | refine blk_drew ?_ | refine blk_alloc ?_ _ )); exact BK716.out) Try.underlying25 rfl (by kernel_rfl)) rfl ?_
    exact ⟨_, _, by rfl, by (with_reducible repeat (first | apply Kd.R_alloc | apply Kd.R_drewN | apply Kd.R_drew )); exact Kd.R_mono (Kd.R_far (p := ⟨gb716, 2, none⟩) (Kd.R_far (p := ⟨gb716, 1, none⟩) (Kd.R_far (p := ⟨gb716, 0, none⟩) (Kd.R_types HO720.out BK716.out (by decide)) (fun _ hk => hk.2) (.int .i64 t717)) (fun _ hk => hk.2) (.slice Ao18 t718.length co18)) (fun _ hk => hk.2) (.slice Ao19 t721.length co19)) (fun _ hk => trivial), by (with_reducible repeat (first | apply Kd.R_alloc | apply Kd.R_drewN | apply Kd.R_drew )); exact Kd.R_mono (Kd.R_far (p := ⟨gb716, 2, none⟩) (Kd.R_far (p := ⟨gb716, 1, none⟩) (Kd.R_far (p := ⟨gb716, 0, none⟩) (Kd.R_types HO723.out BK716.out (by decide)) (fun _ hk => hk.2) (.int .i64 t717)) (fun _ hk => hk.2) (.slice Ao18 t718.length co18)) (fun _ hk => hk.2) (.slice Ao19 t721.length co19)) (fun _ hk => trivial), by repeat ((with_reducible first | exact HB.out | refine below_set ?_ GE716.out))⟩
def laws_big.f (l0 : List Int) : Option (Bool) := some (decide ((l0.length : Int) > 1048576))
set_option maxHeartbeats 8000000 in
set_option maxRecDepth 100000 in
theorem laws_big.calls (A0 : Option Addr) (c0 : Nat) (l0 : List Int) (r : Bool) (w : World) (hr0 : Kd.C (Kd.int .u8) w A0 l0.length l0) (hc0 : l0.length ≤ c0) (h : laws_big.f l0 = some r) :
    Calls Try.prog 35 #[.slice A0 l0.length c0] w fun e w' => e = .returned (.bool r) ∧ w = w' := by
  have HR0 := Aside0.mk hr0
  have HC0 := Aside0.mk hc0
  clear hr0 hc0
  have H : (some (decide ((l0.length : Int) > 1048576))) = some r := h
  clear h
  obtain rfl := Option.some.inj H
  go_enter Try.func35, Try.ntmps35
  go_wp2
  go_ret
  exact ⟨by rfl, rfl⟩
def spec_l01Byte.f (s0_0 : List Int) (s0_1 : Int) (s0_2 : Int) : Option (Int × Int × Int) := if s0_1 < (s0_0.length : Int) then (if 0 ≤ s0_1 then (some (Go.bits .and .i64 (wrap64 ((Go.bits .and .i64 (Go.bits .xor .i64 ((wrap64 ((wrap64 (s0_2 * 6364136223846793005)) + 1442695040888963407)) / 8589934592) ((wrap64 ((wrap64 (s0_2 * 6364136223846793005)) + 1442695040888963407)) / 35184372088832)) 255) + (wrap64 (rd s0_0 s0_1)))) 255, wrap64 (s0_1 + 1), wrap64 ((wrap64 (s0_2 * 6364136223846793005)) + 1442695040888963407))) else (none)) else (some (Go.bits .and .i64 (Go.bits .xor .i64 ((wrap64 ((wrap64 (s0_2 * 6364136223846793005)) + 1442695040888963407)) / 8589934592) ((wrap64 ((wrap64 (s0_2 * 6364136223846793005)) + 1442695040888963407)) / 35184372088832)) 255, s0_1, wrap64 ((wrap64 (s0_2 * 6364136223846793005)) + 1442695040888963407)))
set_option maxHeartbeats 8000000 in
set_option maxRecDepth 100000 in
theorem spec_l01Byte.calls (g : Nat) (s0_0 : List Int) (s0_1 : Int) (s0_2 : Int) (r1 : Int) (r2 : Int) (r3 : Int) (w0 w : World) (hI : IsS73 w0 w g s0_0 s0_1 s0_2) (hB : Below w0.heap.size w0 w) (h : spec_l01Byte.f s0_0 s0_1 s0_2 = some (r1, r2, r3)) :
    Calls Try.prog 60 #[.pointer (some ⟨g, 0, none⟩)] w fun e w' => e = .returned (.int .i64 r1) ∧ IsS73 w0 w' g s0_0 r2 r3 ∧ Below w0.heap.size w0 w' ∧ KeepBut w w' g none := by
  have HI0 := Aside0.mk hI
  have HK := Aside0.mk (KeepBut.refl w g none)
  have HL := Aside0.mk hB.size
  clear hI
  have HW0 := Aside0.mk hB.size
  have HB := Aside0.mk hB
  clear hB
  have H : (if s0_1 < (s0_0.length : Int) then (if 0 ≤ s0_1 then (some (Go.bits .and .i64 (wrap64 ((Go.bits .and .i64 (Go.bits .xor .i64 ((wrap64 ((wrap64 (s0_2 * 6364136223846793005)) + 1442695040888963407)) / 8589934592) ((wrap64 ((wrap64 (s0_2 * 6364136223846793005)) + 1442695040888963407)) / 35184372088832)) 255) + (wrap64 (rd s0_0 s0_1)))) 255, wrap64 (s0_1 + 1), wrap64 ((wrap64 (s0_2 * 6364136223846793005)) + 1442695040888963407))) else (none)) else (some (Go.bits .and .i64 (Go.bits .xor .i64 ((wrap64 ((wrap64 (s0_2 * 6364136223846793005)) + 1442695040888963407)) / 8589934592) ((wrap64 ((wrap64 (s0_2 * 6364136223846793005)) + 1442695040888963407)) / 35184372088832)) 255, s0_1, wrap64 ((wrap64 (s0_2 * 6364136223846793005)) + 1442695040888963407)))) = some (r1, r2, r3) := h
  clear h
  by_cases c2 : s0_1 < (s0_0.length : Int)
  · rw [if_pos c2] at H
    have c2b0 : decide (s0_1 < (s0_0.length : Int)) = true := decide_eq_true c2
    clear c2
    by_cases c3 : 0 ≤ s0_1
    rotate_left
    · rw [if_neg c3] at H
      exact absurd H (by simp)
    rw [if_pos c3] at H
    have c3b0 : decide (0 ≤ s0_1) = true := decide_eq_true c3
    clear c3
    simp only [Option.some.injEq, Prod.mk.injEq] at H
    obtain ⟨rfl, rfl, rfl⟩ := H
    obtain ⟨ASz4_0, cSz4_0, HGz4, hgz4, HSz4_0⟩ := HI0.out
    have hcz4_0 := cellS73_0 HGz4
    have hcz4_1 := cellS73_1 HGz4
    have hcz4_2 := cellS73_2 HGz4
    have hfz4_1 := blk_frozen HGz4 1
    have hfz4_2 := blk_frozen HGz4 2
    clear HGz4 hgz4
    have p801 : 0 ≤ (s0_1 : Int) := of_decide_eq_true (by (with_reducible assumption))
    have q801 : s0_1 < (s0_0.length : Int) := of_decide_eq_true (by (with_reducible assumption))
    obtain ⟨ad801, e801, hx801_0⟩ := Kd.at_int HSz4_0 s0_1 p801 q801
    cases e801
    have hn801_0 : ad801.block ≠ g := Nat.ne_of_lt (Nat.lt_of_lt_of_le (by have := World.block_lt_of_cell? _ _ hx801_0; rwa [add_block] at this) (IsS73.ge HI0.out))
    replace hx801_0 := pw_cell_below HB.out hx801_0
    replace hx801_0 := (cell_far (p := ⟨g, 2, none⟩) (by (rw [add_block]; exact hn801_0)) (.int .i64 (wrap64 ((wrap64 (s0_2 * 6364136223846793005)) + 1442695040888963407)))).trans hx801_0
    (try have hy801_0 := fun (n_ : Nat) => (show (((w.drewN n_).setCell ⟨g, 2, none⟩ (.int .i64 (wrap64 ((wrap64 (s0_2 * 6364136223846793005)) + 1442695040888963407))))).cell? _ = some _ from hx801_0))
    clear hn801_0
    replace p801 := eq_true p801
    replace q801 := eq_true q801
    go_enter Try.func60, Try.ntmps60
    go_wp2
    repeat (go_quiet (fail); try go_wp2)
    go_ret
    exact ⟨by rfl, by repeat ((with_reducible first | exact HI0.out | apply IsS73.drewN | apply IsS73.set_1 | apply IsS73.set_2)), by repeat ((with_reducible first | exact HB.out | apply pw_below_drewN | refine below_set ?_ (IsS73.ge HI0.out))), by repeat ((with_reducible first | exact HK.out | apply KeepBut.set_ | apply keep_drewN))⟩
  · rw [if_neg c2] at H
    have c2b0 : decide (s0_1 < (s0_0.length : Int)) = false := decide_eq_false c2
    clear c2
    simp only [Option.some.injEq, Prod.mk.injEq] at H
    obtain ⟨rfl, rfl, rfl⟩ := H
    obtain ⟨ASz5_0, cSz5_0, HGz5, hgz5, HSz5_0⟩ := HI0.out
    have hcz5_0 := cellS73_0 HGz5
    have hcz5_1 := cellS73_1 HGz5
    have hcz5_2 := cellS73_2 HGz5
    have hfz5_1 := blk_frozen HGz5 1
    have hfz5_2 := blk_frozen HGz5 2
    clear HGz5 hgz5
    go_enter Try.func60, Try.ntmps60
    go_wp2
    repeat (go_quiet (fail); try go_wp2)
    go_ret
    exact ⟨by rfl, by repeat ((with_reducible first | exact HI0.out | apply IsS73.drewN | apply IsS73.set_2)), by repeat ((with_reducible first | exact HB.out | apply pw_below_drewN | refine below_set ?_ (IsS73.ge HI0.out))), by repeat ((with_reducible first | exact HK.out | apply KeepBut.set_ | apply keep_drewN))⟩
def spec_l01Below.f (s0_0 : List Int) (s0_1 : Int) (s0_2 : Int) (a1 : Int) : Option (Int × Int × Int) := if a1 ≤ 0 then (some (0, s0_1, s0_2)) else (if a1 ≤ 256 then ((spec_l01Byte.f s0_0 s0_1 s0_2).bind fun bt802 => (if a1 = 0 then (none) else (some (Int.tmod bt802.1 a1, bt802.2.1, bt802.2.2)))) else ((spec_l01Byte.f s0_0 s0_1 s0_2).bind fun bt805 => ((spec_l01Byte.f s0_0 bt805.2.1 bt805.2.2).bind fun bt808 => ((spec_l01Byte.f s0_0 bt808.2.1 bt808.2.2).bind fun bt811 => ((spec_l01Byte.f s0_0 bt811.2.1 bt811.2.2).bind fun bt814 => (if a1 = 0 then (none) else (some (Int.tmod (wrap64 ((wrap64 ((wrap64 ((wrap64 (bt805.1 * 16777216)) + (wrap64 (bt808.1 * 65536)))) + (wrap64 (bt811.1 * 256)))) + bt814.1)) a1, bt814.2.1, bt814.2.2))))))))
set_option maxHeartbeats 8000000 in
set_option maxRecDepth 100000 in
theorem spec_l01Below.calls (g : Nat) (s0_0 : List Int) (s0_1 : Int) (s0_2 : Int) (a1 : Int) (r1 : Int) (r2 : Int) (r3 : Int) (w0 w : World) (hI : IsS73 w0 w g s0_0 s0_1 s0_2) (hB : Below w0.heap.size w0 w) (h : spec_l01Below.f s0_0 s0_1 s0_2 a1 = some (r1, r2, r3)) :
    Calls Try.prog 61 #[.pointer (some ⟨g, 0, none⟩), .int .i64 a1] w fun e w' => e = .returned (.int .i64 r1) ∧ IsS73 w0 w' g s0_0 r2 r3 ∧ Below w0.heap.size w0 w' ∧ KeepBut w w' g none := by
  have HI0 := Aside0.mk hI
  have HK := Aside0.mk (KeepBut.refl w g none)
  have HL := Aside0.mk hB.size
  clear hI
  have HW0 := Aside0.mk hB.size
  have HB := Aside0.mk hB
  clear hB
  have H : (if a1 ≤ 0 then (some (0, s0_1, s0_2)) else (if a1 ≤ 256 then ((spec_l01Byte.f s0_0 s0_1 s0_2).bind fun bt802 => (if a1 = 0 then (none) else (some (Int.tmod bt802.1 a1, bt802.2.1, bt802.2.2)))) else ((spec_l01Byte.f s0_0 s0_1 s0_2).bind fun bt805 => ((spec_l01Byte.f s0_0 bt805.2.1 bt805.2.2).bind fun bt808 => ((spec_l01Byte.f s0_0 bt808.2.1 bt808.2.2).bind fun bt811 => ((spec_l01Byte.f s0_0 bt811.2.1 bt811.2.2).bind fun bt814 => (if a1 = 0 then (none) else (some (Int.tmod (wrap64 ((wrap64 ((wrap64 ((wrap64 (bt805.1 * 16777216)) + (wrap64 (bt808.1 * 65536)))) + (wrap64 (bt811.1 * 256)))) + bt814.1)) a1, bt814.2.1, bt814.2.2))))))))) = some (r1, r2, r3) := h
  clear h
  by_cases c3 : a1 ≤ 0
  · rw [if_pos c3] at H
    have c3b0 : decide (a1 ≤ 0) = true := decide_eq_true c3
    clear c3
    simp only [Option.some.injEq, Prod.mk.injEq] at H
    obtain ⟨rfl, rfl, rfl⟩ := H
    go_enter Try.func61, Try.ntmps61
    go_wp2
    go_ret
    exact ⟨by rfl, by repeat ((with_reducible exact HI0.out)), by repeat ((with_reducible exact HB.out)), by repeat ((with_reducible exact HK.out))⟩
  rw [if_neg c3] at H
  have c3b0 : decide (a1 ≤ 0) = false := decide_eq_false c3
  clear c3
  by_cases c4 : a1 ≤ 256
  · rw [if_pos c4] at H
    have c4b0 : decide (a1 ≤ 256) = true := decide_eq_true c4
    clear c4
    replace H := Option.bind_eq_some_iff.mp H
    obtain ⟨⟨t802, t803, t804⟩, A50, H⟩ := H
    replace H : (if a1 = 0 then (none) else (some (Int.tmod t802 a1, t803, t804))) = some (r1, r2, r3) := H
    have A5 := Aside0.mk A50
    clear A50
    by_cases c6 : a1 = 0
    · rw [if_pos c6] at H
      exact absurd H (by simp)
    · rw [if_neg c6] at H
      have c6b0 : (a1 == 0) = false := beq_eq_false_iff_ne.mpr c6
      have c6b1 : (a1 != 0) = true := bne_iff_ne.mpr c6
      simp only [Option.some.injEq, Prod.mk.injEq] at H
      obtain ⟨rfl, rfl, rfl⟩ := H
      go_enter Try.func61, Try.ntmps61
      go_wp2_with (((with_reducible refine gate_callee (f := 60) rfl ?_); refine goesL_ (some 14) rfl rfl Try.func60 (by kernel_rfl) rfl #[.pointer (some ⟨g, 0, none⟩)] rfl (by (try simp only [List.map_toArray, List.map_cons, List.map_nil]); rfl) ?_; (with_reducible refine (spec_l01Byte.calls g s0_0 s0_1 s0_2 t802 t803 t804 w0 _ ?side1 ?side2 A5.out).mono ?_); (case side1 => repeat ((with_reducible exact HI0.out))); (case side2 => repeat ((with_reducible exact HB.out))); rintro e w7 ⟨rfl, hi, hb, hk⟩; refine ⟨_, rfl, ?_⟩; have n0_ := Aside0.mk (KeepBut.trans (by repeat ((with_reducible exact HK.out))) hk (.inl rfl)); have n1_ := Aside0.mk (hb); have n2_ := Aside0.mk (hi); clear HK; clear HB; clear HI0; have HK := n0_; have HB := n1_; have HI0 := n2_; clear n0_ n1_ n2_; (try clear hb); (try clear hb2); (try clear hk); (try clear hi)))
      go_ret
      exact ⟨by rfl, by repeat ((with_reducible exact HI0.out)), by repeat ((with_reducible exact HB.out)), by repeat ((with_reducible exact HK.out))⟩
  · rw [if_neg c4] at H
    have c4b0 : decide (a1 ≤ 256) = false := decide_eq_false c4
    clear c4
    replace H := Option.bind_eq_some_iff.mp H
    obtain ⟨⟨t805, t806, t807⟩, A80, H⟩ := H
    replace H : ((spec_l01Byte.f s0_0 t806 t807).bind fun bt808 => ((spec_l01Byte.f s0_0 bt808.2.1 bt808.2.2).bind fun bt811 => ((spec_l01Byte.f s0_0 bt811.2.1 bt811.2.2).bind fun bt814 => (if a1 = 0 then (none) else (some (Int.tmod (wrap64 ((wrap64 ((wrap64 ((wrap64 (t805 * 16777216)) + (wrap64 (bt808.1 * 65536)))) + (wrap64 (bt811.1 * 256)))) + bt814.1)) a1, bt814.2.1, bt814.2.2)))))) = some (r1, r2, r3) := H
    have A8 := Aside0.mk A80
    clear A80
    replace H := Option.bind_eq_some_iff.mp H
    obtain ⟨⟨t808, t809, t810⟩, A90, H⟩ := H
    replace H : ((spec_l01Byte.f s0_0 t809 t810).bind fun bt811 => ((spec_l01Byte.f s0_0 bt811.2.1 bt811.2.2).bind fun bt814 => (if a1 = 0 then (none) else (some (Int.tmod (wrap64 ((wrap64 ((wrap64 ((wrap64 (t805 * 16777216)) + (wrap64 (t808 * 65536)))) + (wrap64 (bt811.1 * 256)))) + bt814.1)) a1, bt814.2.1, bt814.2.2))))) = some (r1, r2, r3) := H
    have A9 := Aside0.mk A90
    clear A90
    replace H := Option.bind_eq_some_iff.mp H
    obtain ⟨⟨t811, t812, t813⟩, A100, H⟩ := H
    replace H : ((spec_l01Byte.f s0_0 t812 t813).bind fun bt814 => (if a1 = 0 then (none) else (some (Int.tmod (wrap64 ((wrap64 ((wrap64 ((wrap64 (t805 * 16777216)) + (wrap64 (t808 * 65536)))) + (wrap64 (t811 * 256)))) + bt814.1)) a1, bt814.2.1, bt814.2.2)))) = some (r1, r2, r3) := H
    have A10 := Aside0.mk A100
    clear A100
    replace H := Option.bind_eq_some_iff.mp H
    obtain ⟨⟨t814, t815, t816⟩, A110, H⟩ := H
    replace H : (if a1 = 0 then (none) else (some (Int.tmod (wrap64 ((wrap64 ((wrap64 ((wrap64 (t805 * 16777216)) + (wrap64 (t808 * 65536)))) + (wrap64 (t811 * 256)))) + t814)) a1, t815, t816))) = some (r1, r2, r3) := H
    have A11 := Aside0.mk A110
    clear A110
    by_cases c12 : a1 = 0
    · rw [if_pos c12] at H
      exact absurd H (by simp)
    · rw [if_neg c12] at H
      have c12b0 : (a1 == 0) = false := beq_eq_false_iff_ne.mpr c12
      have c12b1 : (a1 != 0) = true := bne_iff_ne.mpr c12
      simp only [Option.some.injEq, Prod.mk.injEq] at H
      obtain ⟨rfl, rfl, rfl⟩ := H
      go_enter Try.func61, Try.ntmps61
      go_wp2_with (first | ((with_reducible refine gate_callee (f := 60) rfl ?_); refine goesL_ (some 18) rfl rfl Try.func60 (by kernel_rfl) rfl #[.pointer (some ⟨g, 0, none⟩)] rfl (by (try simp only [List.map_toArray, List.map_cons, List.map_nil]); rfl) ?_; (with_reducible refine (spec_l01Byte.calls g s0_0 s0_1 s0_2 t805 t806 t807 w0 _ ?side1 ?side2 A8.out).mono ?_); (case side1 => repeat ((with_reducible exact HI0.out))); (case side2 => repeat ((with_reducible exact HB.out))); rintro e w13 ⟨rfl, hi, hb, hk⟩; refine ⟨_, rfl, ?_⟩; have n0_ := Aside0.mk (KeepBut.trans (by repeat ((with_reducible exact HK.out))) hk (.inl rfl)); have n1_ := Aside0.mk (hb); have n2_ := Aside0.mk (hi); clear HK; clear HB; clear HI0; have HK := n0_; have HB := n1_; have HI0 := n2_; clear n0_ n1_ n2_; (try clear hb); (try clear hb2); (try clear hk); (try clear hi)) | ((with_reducible refine gate_callee (f := 60) rfl ?_); refine goesL_ (some 20) rfl rfl Try.func60 (by kernel_rfl) rfl #[.pointer (some ⟨g, 0, none⟩)] rfl (by (try simp only [List.map_toArray, List.map_cons, List.map_nil]); rfl) ?_; (with_reducible refine (spec_l01Byte.calls g s0_0 t806 t807 t808 t809 t810 w0 _ ?side1 ?side2 A9.out).mono ?_); (case side1 => repeat ((with_reducible exact HI0.out))); (case side2 => repeat ((with_reducible exact HB.out))); rintro e w14 ⟨rfl, hi, hb, hk⟩; refine ⟨_, rfl, ?_⟩; have n0_ := Aside0.mk (KeepBut.trans (by repeat ((with_reducible exact HK.out))) hk (.inl rfl)); have n1_ := Aside0.mk (hb); have n2_ := Aside0.mk (hi); clear HK; clear HB; clear HI0; have HK := n0_; have HB := n1_; have HI0 := n2_; clear n0_ n1_ n2_; (try clear hb); (try clear hb2); (try clear hk); (try clear hi)) | ((with_reducible refine gate_callee (f := 60) rfl ?_); refine goesL_ (some 22) rfl rfl Try.func60 (by kernel_rfl) rfl #[.pointer (some ⟨g, 0, none⟩)] rfl (by (try simp only [List.map_toArray, List.map_cons, List.map_nil]); rfl) ?_; (with_reducible refine (spec_l01Byte.calls g s0_0 t809 t810 t811 t812 t813 w0 _ ?side1 ?side2 A10.out).mono ?_); (case side1 => repeat ((with_reducible exact HI0.out))); (case side2 => repeat ((with_reducible exact HB.out))); rintro e w15 ⟨rfl, hi, hb, hk⟩; refine ⟨_, rfl, ?_⟩; have n0_ := Aside0.mk (KeepBut.trans (by repeat ((with_reducible exact HK.out))) hk (.inl rfl)); have n1_ := Aside0.mk (hb); have n2_ := Aside0.mk (hi); clear HK; clear HB; clear HI0; have HK := n0_; have HB := n1_; have HI0 := n2_; clear n0_ n1_ n2_; (try clear hb); (try clear hb2); (try clear hk); (try clear hi)) | ((with_reducible refine gate_callee (f := 60) rfl ?_); refine goesL_ (some 24) rfl rfl Try.func60 (by kernel_rfl) rfl #[.pointer (some ⟨g, 0, none⟩)] rfl (by (try simp only [List.map_toArray, List.map_cons, List.map_nil]); rfl) ?_; (with_reducible refine (spec_l01Byte.calls g s0_0 t812 t813 t814 t815 t816 w0 _ ?side1 ?side2 A11.out).mono ?_); (case side1 => repeat ((with_reducible exact HI0.out))); (case side2 => repeat ((with_reducible exact HB.out))); rintro e w16 ⟨rfl, hi, hb, hk⟩; refine ⟨_, rfl, ?_⟩; have n0_ := Aside0.mk (KeepBut.trans (by repeat ((with_reducible exact HK.out))) hk (.inl rfl)); have n1_ := Aside0.mk (hb); have n2_ := Aside0.mk (hi); clear HK; clear HB; clear HI0; have HK := n0_; have HB := n1_; have HI0 := n2_; clear n0_ n1_ n2_; (try clear hb); (try clear hb2); (try clear hk); (try clear hi)))
      go_ret
      exact ⟨by rfl, by repeat ((with_reducible exact HI0.out)), by repeat ((with_reducible exact HB.out)), by repeat ((with_reducible exact HK.out))⟩
def spec_l08Epochs.l0 : Nat → Int → List Int → Int → Int → Int → List Int → List (S57) → Option (Int × List Int × (List (S57)) × Int × Int)
  | 0, _, _, _, _, _, _, _ => none
  | k + 1, x4, x1000, x1001, x1002, x829000, x829001, x829002 => (spec_l01Below.f x1000 x1001 x1002 20).bind fun bt829 => (if x4 < bt829.1 then ((spec_l01Below.f x1000 bt829.2.1 bt829.2.2 4).bind fun bt832 => ((spec_l01Below.f x1000 bt832.2.1 bt832.2.2 5).bind fun bt835 => (if bt835.1 = 0 then ((spec_PinLook.f k x829000 x829001 x829002 bt832.1).bind fun bt838 => (spec_l08Epochs.l0 k (wrap64 (x4 + 1)) x1000 bt835.2.1 bt835.2.2 bt838.1 bt838.2.1 bt838.2.2.1)) else (if bt835.1 = 1 then ((spec_UnpinLook.f k x829000 x829001 x829002 bt832.1).bind fun bt846 => (spec_l08Epochs.l0 k (wrap64 (x4 + 1)) x1000 bt835.2.1 bt835.2.2 bt846.1 bt846.2.1 bt846.2.2.1)) else (if bt835.1 = 2 then ((spec_l01Below.f x1000 bt835.2.1 bt835.2.2 9).bind fun bt854 => ((spec_RetireNode.f k x829000 x829001 x829002 (wrap64 (1 + bt854.1))).bind fun bt857 => (spec_l08Epochs.l0 k (wrap64 (x4 + 1)) x1000 bt854.2.1 bt854.2.2 bt857.1 bt857.2.1 bt857.2.2.1))) else (if bt835.1 = 3 then ((spec_AdvanceEpoch.f k x829000 x829001 x829002).bind fun bt865 => (spec_l08Epochs.l0 k (wrap64 (x4 + 1)) x1000 bt835.2.1 bt835.2.2 bt865.1 bt865.2.1 bt865.2.2.1)) else ((spec_FreeNodes.f k x829000 x829001 x829002).bind fun bt873 => (spec_l08Epochs.l0 k (wrap64 (x4 + 1)) x1000 bt835.2.1 bt835.2.2 bt873.1 bt873.2.1 bt873.2.2.1)))))))) else (some (x829000, x829001, x829002, bt829.2.1, bt829.2.2)))
def spec_l08Epochs.f (k : Nat) (s0_0 : List Int) (s0_1 : Int) (s0_2 : Int) : Option (Int × List Int × (List (S57)) × Int × Int) := (spec_l01Below.f s0_0 s0_1 s0_2 4).bind fun bt818 => ((spec_EpochsNew.f (wrap64 (1 + bt818.1))).bind fun bt821 => (spec_l08Epochs.l0 k 0 s0_0 bt818.2.1 bt818.2.2 bt821.1 bt821.2.1 bt821.2.2))
def spec_l08Epochs.T13 : Bool × List (List Nat × List Nat) := (true, [([], []), ([], []), ([1], [1]), ([2], [2]), ([0, 3, 2], [0, 3]), ([4], [4]), ([5], [5]), ([5], [5]), ([6, 4, 0, 1, 2, 3, 4, 5, 6], [6])])
def spec_l08Epochs.B13 : List Nat := [0, 0, 2, 6, 15, 31, 63, 63, 127]
theorem spec_l08Epochs.tab13 : rtab .any (opsOf Try.f58 13) = spec_l08Epochs.T13 := by kernel_rfl
theorem spec_l08Epochs.bits13 : waitsOk spec_l08Epochs.T13.2 spec_l08Epochs.B13 = true := by kernel_rfl
set_option maxHeartbeats 8000000 in
set_option maxRecDepth 100000 in
theorem spec_l08Epochs.calls (k : Nat) (g : Nat) (s0_0 : List Int) (s0_1 : Int) (s0_2 : Int) (r1 : Int) (r2 : List Int) (r3 : List (S57)) (r4 : Int) (r5 : Int) (w0 w : World) (hI : IsS73 w0 w g s0_0 s0_1 s0_2) (hB : Below w0.heap.size w0 w) (h : spec_l08Epochs.f k s0_0 s0_1 s0_2 = some (r1, r2, r3, r4, r5)) :
    Calls Try.prog 58 #[.pointer (some ⟨g, 0, none⟩)] w fun e w' => ∃ v1_ v2_ : Value, e = .returned (.agg #[.int .i64 r1, v1_, v2_]) ∧ Kd.R (Kd.int .i64) 3 w' w.heap.size (fun _ => True) v1_ r2 ∧ Kd.R k57 57 w' w.heap.size (fun _ => True) v2_ r3 ∧ IsS73 w0 w' g s0_0 r4 r5 ∧ Below w0.heap.size w0 w' ∧ KeepBut w w' g none := by
  have hu25 := Try.underlying25
  have HI0 := Aside0.mk hI
  have HK := Aside0.mk (KeepBut.refl w g none)
  have HL := Aside0.mk hB.size
  clear hI
  have HW0 := Aside0.mk hB.size
  have HB := Aside0.mk hB
  clear hB
  have H : ((spec_l01Below.f s0_0 s0_1 s0_2 4).bind fun bt818 => ((spec_EpochsNew.f (wrap64 (1 + bt818.1))).bind fun bt821 => (spec_l08Epochs.l0 k 0 s0_0 bt818.2.1 bt818.2.2 bt821.1 bt821.2.1 bt821.2.2))) = some (r1, r2, r3, r4, r5) := h
  clear h
  replace H := Option.bind_eq_some_iff.mp H
  obtain ⟨⟨t818, t819, t820⟩, A20, H⟩ := H
  replace H : ((spec_EpochsNew.f (wrap64 (1 + t818))).bind fun bt821 => (spec_l08Epochs.l0 k 0 s0_0 t819 t820 bt821.1 bt821.2.1 bt821.2.2)) = some (r1, r2, r3, r4, r5) := H
  have A2 := Aside0.mk A20
  clear A20
  replace H := Option.bind_eq_some_iff.mp H
  obtain ⟨⟨t821, t822, t825⟩, A30, H⟩ := H
  replace H : (spec_l08Epochs.l0 k 0 s0_0 t819 t820 t821 t822 t825) = some (r1, r2, r3, r4, r5) := H
  have A3 := Aside0.mk A30
  clear A30
  have H' := Aside0.mk H
  clear H
  go_enter Try.func58, Try.ntmps58
  go_wp2_with (first | ((with_reducible refine gate_dst (N := 2) rfl ?_); refine box_event ?hg (N := 2) ?hd (cs := #[.int .i64 0, .slice none 0 0, .slice none 0 0]) (t := 25) ?hr ?_; (case hd => rfl); (case hg => rfl); (case hr => (go_simp; done)); intro gb817 hg w4 hbox hb; have n0_ := Aside0.mk (IsS73.below (by repeat ((with_reducible exact HI0.out))) hb); have n1_ := Aside0.mk (KeepBut.trans (by repeat ((with_reducible exact HK.out))) (KeepBut.of_below hb g none) (.inl rfl)); have n2_ := Aside0.mk (below_step (by repeat ((with_reducible exact HB.out))) hb); have n3_ := Aside0.mk (hbox); have n4_ := Aside0.mk ((by rw [hg]; exact (keep_size (w := w) (g := g) (row := none) (by repeat ((with_reducible exact HK.out)))) : w.heap.size ≤ gb817)); have n5_ := Aside0.mk ((Nat.le_trans HW0.out (by rw [hg]; exact (keep_size (w := w) (g := g) (row := none) (by repeat ((with_reducible exact HK.out)))) : w.heap.size ≤ gb817) : w0.heap.size ≤ gb817)); have n6_ := Aside0.mk ((by rw [hg]; exact Nat.ne_of_lt (IsS73.lt (show IsS73 w0 _ g s0_0 s0_1 s0_2 from by repeat ((with_reducible exact HI0.out)))) : g ≠ gb817)); have n7_ := Aside0.mk ((by rw [hg]; exact Nat.ne_of_gt (IsS73.lt (show IsS73 w0 _ g s0_0 s0_1 s0_2 from by repeat ((with_reducible exact HI0.out)))) : gb817 ≠ g)); clear HI0; clear HK; clear HB; have HI0 := n0_; have HK := n1_; have HB := n2_; have BK817 := n3_; have GW817 := n4_; have GE817 := n5_; have NB0_817 := n6_; have NB817_0 := n7_; clear n0_ n1_ n2_ n3_ n4_ n5_ n6_ n7_; clear hb hbox hg) | ((with_reducible refine gate_callee (f := 61) rfl ?_); refine goesL_ (some 7) rfl rfl Try.func61 (by kernel_rfl) rfl #[.pointer (some ⟨g, 0, none⟩), .int .i64 4] rfl (by (try simp only [List.map_toArray, List.map_cons, List.map_nil]); rfl) ?_; (with_reducible refine (spec_l01Below.calls g s0_0 s0_1 s0_2 4 t818 t819 t820 w0 _ ?side1 ?side2 A2.out).mono ?_); (case side1 => repeat ((with_reducible exact HI0.out))); (case side2 => repeat ((with_reducible exact HB.out))); rintro e w5 ⟨rfl, hi, hb, hk⟩; refine ⟨_, rfl, ?_⟩; have n0_ := Aside0.mk (KeepBut.blk hk (g' := gb817) (o := .cells #[.int .i64 0, .slice none 0 0, .slice none 0 0] 25 (0, 0)) (by (with_reducible repeat (first | refine blk_drewN ?_ _ | refine blk_drew ?_ | refine blk_alloc ?_ _ )); exact BK817.out) NB817_0.out (by simp)); have n1_ := Aside0.mk (KeepBut.trans (by repeat ((with_reducible exact HK.out))) hk (.inl rfl)); have n2_ := Aside0.mk (hb); have n3_ := Aside0.mk (hi); clear BK817; clear HK; clear HB; clear HI0; have BK817 := n0_; have HK := n1_; have HB := n2_; have HI0 := n3_; clear n0_ n1_ n2_ n3_; (try clear hb); (try clear hb2); (try clear hk); (try clear hi)) | ((with_reducible refine gate_callee (f := 13) rfl ?_); refine goesL_ (some 9) rfl rfl Try.func13 (by kernel_rfl) rfl #[.int .i64 (wrap64 (1 + t818))] rfl (by (try simp only [List.map_toArray, List.map_cons, List.map_nil]); rfl) ?_; (with_reducible refine (spec_EpochsNew.calls (wrap64 (1 + t818)) t821 t822 t825 _ A3.out).mono ?_); rintro e w6 ⟨v823, v826, rfl, ho0, ho1, hb⟩; refine ⟨_, rfl, ?_⟩; have n0_ := Aside0.mk (Kd.R_lower ho0 (keep_size (w := w) (g := g) (row := none) (by repeat ((with_reducible exact HK.out))))); have n1_ := Aside0.mk (Kd.R_lower ho1 (keep_size (w := w) (g := g) (row := none) (by repeat ((with_reducible exact HK.out))))); have n2_ := Aside0.mk (IsS73.below (by repeat ((with_reducible exact HI0.out))) hb); have n3_ := Aside0.mk (blk_below (g := gb817) (o := .cells #[.int .i64 0, .slice none 0 0, .slice none 0 0] 25 (0, 0)) (by (with_reducible repeat (first | refine blk_drewN ?_ _ | refine blk_drew ?_ | refine blk_alloc ?_ _ )); exact BK817.out) hb); have n4_ := Aside0.mk (KeepBut.trans (by repeat ((with_reducible exact HK.out))) (KeepBut.of_below hb g none) (.inl rfl)); have n5_ := Aside0.mk (below_step (by repeat ((with_reducible exact HB.out))) hb); clear HI0; clear BK817; clear HK; clear HB; have HO824 := n0_; have HO827 := n1_; have HI0 := n2_; have BK817 := n3_; have HK := n4_; have HB := n5_; clear n0_ n1_ n2_ n3_ n4_ n5_; (try clear hb); (try clear hb2); (try clear hk); (try clear hi); (try clear ho0); (try clear ho1)) | ((with_reducible refine gate_dst (N := 3) rfl ?_); refine box_event ?hg (N := 3) ?hd (cs := #[.int .i64 0, .slice none 0 0, .slice none 0 0]) (t := 25) ?hr ?_; (case hd => rfl); (case hg => rfl); (case hr => (go_simp; done)); intro gb828 hg w7 hbox hb; have n0_ := Aside0.mk (Kd.R_below (by (with_reducible repeat (first | apply Kd.R_alloc | apply Kd.R_drewN | apply Kd.R_drew )); exact HO824.out) hb); have n1_ := Aside0.mk (Kd.R_below (by (with_reducible repeat (first | apply Kd.R_alloc | apply Kd.R_drewN | apply Kd.R_drew )); exact HO827.out) hb); have n2_ := Aside0.mk (IsS73.below (by repeat ((with_reducible exact HI0.out))) hb); have n3_ := Aside0.mk (blk_below (g := gb817) (o := .cells #[.int .i64 0, .slice none 0 0, .slice none 0 0] 25 (0, 0)) (by (with_reducible repeat (first | refine blk_drewN ?_ _ | refine blk_drew ?_ | refine blk_alloc ?_ _ )); exact BK817.out) hb); have n4_ := Aside0.mk (KeepBut.trans (by repeat ((with_reducible exact HK.out))) (KeepBut.of_below hb g none) (.inl rfl)); have n5_ := Aside0.mk (below_step (by repeat ((with_reducible exact HB.out))) hb); have n6_ := Aside0.mk (hbox); have n7_ := Aside0.mk ((by rw [hg]; exact (keep_size (w := w) (g := g) (row := none) (by repeat ((with_reducible exact HK.out)))) : w.heap.size ≤ gb828)); have n8_ := Aside0.mk ((Nat.le_trans HW0.out (by rw [hg]; exact (keep_size (w := w) (g := g) (row := none) (by repeat ((with_reducible exact HK.out)))) : w.heap.size ≤ gb828) : w0.heap.size ≤ gb828)); have n9_ := Aside0.mk ((by rw [hg]; exact Nat.ne_of_lt (blk_lt (g := gb817) (o := .cells #[.int .i64 0, .slice none 0 0, .slice none 0 0] 25 (0, 0)) (by (with_reducible repeat (first | refine blk_drewN ?_ _ | refine blk_drew ?_ | refine blk_alloc ?_ _ )); exact BK817.out)) : gb817 ≠ gb828)); have n10_ := Aside0.mk ((by rw [hg]; exact Nat.ne_of_gt (blk_lt (g := gb817) (o := .cells #[.int .i64 0, .slice none 0 0, .slice none 0 0] 25 (0, 0)) (by (with_reducible repeat (first | refine blk_drewN ?_ _ | refine blk_drew ?_ | refine blk_alloc ?_ _ )); exact BK817.out)) : gb828 ≠ gb817)); have n11_ := Aside0.mk ((by rw [hg]; exact Nat.ne_of_lt (IsS73.lt (show IsS73 w0 _ g s0_0 t819 t820 from by repeat ((with_reducible exact HI0.out)))) : g ≠ gb828)); have n12_ := Aside0.mk ((by rw [hg]; exact Nat.ne_of_gt (IsS73.lt (show IsS73 w0 _ g s0_0 t819 t820 from by repeat ((with_reducible exact HI0.out)))) : gb828 ≠ g)); clear HO824; clear HO827; clear HI0; clear BK817; clear HK; clear HB; have HO824 := n0_; have HO827 := n1_; have HI0 := n2_; have BK817 := n3_; have HK := n4_; have HB := n5_; have BK828 := n6_; have GW828 := n7_; have GE828 := n8_; have NB817_828 := n9_; have NB828_817 := n10_; have NB0_828 := n11_; have NB828_0 := n12_; clear n0_ n1_ n2_ n3_ n4_ n5_ n6_ n7_ n8_ n9_ n10_ n11_ n12_; clear hb hbox hg; have hnb8 := NB828_817.out; have hnc8 := NB817_828.out; have hnb9 := NB828_0.out; have hnc9 := NB0_828.out; have hcz10_0 : w7.cell? ⟨gb828, 0, none⟩ = some (.int .i64 0) := (blk_cell BK828.out 0).trans rfl; have hcz10_1 : w7.cell? ⟨gb828, 1, none⟩ = some (.slice none 0 0) := (blk_cell BK828.out 1).trans rfl; have hcz10_2 : w7.cell? ⟨gb828, 2, none⟩ = some (.slice none 0 0) := (blk_cell BK828.out 2).trans rfl; have hfz10_0 := blk_frozen BK828.out 0; have hfz10_1 := blk_frozen BK828.out 1; have hfz10_2 := blk_frozen BK828.out 2; obtain ⟨Ao11, co11, eo11⟩ := Kd.R_slice HO824.out; subst eo11; obtain ⟨Ao12, co12, eo12⟩ := Kd.R_slice HO827.out; subst eo12))
  go_loopg [4] k (fun kq v4 w' => ∃ (x4_1 : Int) (x1001_1 : Int) (x1002_1 : Int) (x829000_1 : Int) (x829001_1 : List Int) (x829002_1 : List (S57)) (u829001 : Value) (u829002 : Value), v4 = .int .i64 x4_1 ∧ Aside0 (spec_l08Epochs.l0 kq x4_1 s0_0 x1001_1 x1002_1 x829000_1 x829001_1 x829002_1 = some (r1, r2, r3, r4, r5)) ∧ Aside0 (kq ≤ k) ∧ Aside0 (Kd.R (Kd.int .i64) 3 w' w.heap.size (fun _ => True) u829001 x829001_1) ∧ Aside0 (Kd.R k57 57 w' w.heap.size (fun _ => True) u829002 x829002_1) ∧ Aside0 (w'.heap[gb817]? = some (.cells #[.int .i64 0, (.slice none 0 0), (.slice none 0 0)] 25 (0, 0))) ∧ Aside0 (w'.heap[gb828]? = some (.cells #[.int .i64 x829000_1, u829001, u829002] 25 (0, 0))) ∧ Aside0 (IsS73 w0 w' g s0_0 x1001_1 x1002_1) ∧ Aside0 (KeepBut w w' g none) ∧ Aside0 (Below w0.heap.size w0 w'))
  case atStart => exact ⟨(0), (t819), (t820), (t821), (t822), (t825), (.slice Ao11 t822.length co11), (.slice Ao12 t825.length co12), (by rfl), H', ⟨Nat.le_refl _⟩, ⟨by (with_reducible repeat (first | apply Kd.R_alloc | apply Kd.R_drewN | apply Kd.R_drew )); exact Kd.R_mono (Kd.R_far (p := ⟨gb828, 2, none⟩) (Kd.R_far (p := ⟨gb828, 1, none⟩) (Kd.R_far (p := ⟨gb828, 0, none⟩) (Kd.R_types HO824.out BK828.out (by decide)) (fun _ hk => hk.2) (.int .i64 t821)) (fun _ hk => hk.2) (.slice Ao11 t822.length co11)) (fun _ hk => hk.2) (.slice Ao12 t825.length co12)) (fun _ hk => trivial)⟩, ⟨by (with_reducible repeat (first | apply Kd.R_alloc | apply Kd.R_drewN | apply Kd.R_drew )); exact Kd.R_mono (Kd.R_far (p := ⟨gb828, 2, none⟩) (Kd.R_far (p := ⟨gb828, 1, none⟩) (Kd.R_far (p := ⟨gb828, 0, none⟩) (Kd.R_types HO827.out BK828.out (by decide)) (fun _ hk => hk.2) (.int .i64 t821)) (fun _ hk => hk.2) (.slice Ao11 t822.length co11)) (fun _ hk => hk.2) (.slice Ao12 t825.length co12)) (fun _ hk => trivial)⟩, ⟨by (with_reducible repeat (first | refine blk_drewN ?_ _ | refine blk_drew ?_ | refine blk_alloc ?_ _ )); refine blk_far ?_ NB817_828.out _; (with_reducible repeat (first | refine blk_drewN ?_ _ | refine blk_drew ?_ | refine blk_alloc ?_ _ )); refine blk_far ?_ NB817_828.out _; (with_reducible repeat (first | refine blk_drewN ?_ _ | refine blk_drew ?_ | refine blk_alloc ?_ _ )); refine blk_far ?_ NB817_828.out _; (with_reducible repeat (first | refine blk_drewN ?_ _ | refine blk_drew ?_ | refine blk_alloc ?_ _ )); exact BK817.out⟩, ⟨by (with_reducible repeat (first | refine blk_drewN ?_ _ | refine blk_drew ?_ | refine blk_alloc ?_ _ )); refine blk_put (cs := #[.int .i64 t821, .slice Ao11 t822.length co11, .slice none 0 0]) ?_ 2 _ rfl; (with_reducible repeat (first | refine blk_drewN ?_ _ | refine blk_drew ?_ | refine blk_alloc ?_ _ )); refine blk_put (cs := #[.int .i64 t821, .slice none 0 0, .slice none 0 0]) ?_ 1 _ rfl; (with_reducible repeat (first | refine blk_drewN ?_ _ | refine blk_drew ?_ | refine blk_alloc ?_ _ )); refine blk_put (cs := #[.int .i64 0, .slice none 0 0, .slice none 0 0]) ?_ 0 _ rfl; (with_reducible repeat (first | refine blk_drewN ?_ _ | refine blk_drew ?_ | refine blk_alloc ?_ _ )); exact BK828.out⟩, ⟨by repeat ((with_reducible first | exact HI0.out | refine IsS73.far ?_ NB0_828.out _))⟩, ⟨by repeat ((with_reducible first | exact HK.out | refine keep_far ?_ GW828.out _))⟩, ⟨by repeat ((with_reducible first | exact HB.out | refine below_set ?_ GE828.out))⟩⟩
  case round =>
    clear H'
    clear hcz10_0
    clear hcz10_1
    clear hcz10_2
    clear hfz10_0
    clear hfz10_1
    clear hfz10_2
    obtain ⟨x4_1, x1001_1, x1002_1, x829000_1, x829001_1, x829002_1, u829001, u829002, rfl, HA, HK1, HO_829001, HO_829002, BK817, BK828, HI0, HK, HB⟩ := hrel
    cases gk with
    | zero => exact absurd HA.out (by simp [spec_l08Epochs.l0])
    | succ k1 =>
      have H := HA.out
      clear HA
      simp only [spec_l08Epochs.l0] at H
      replace H := Option.bind_eq_some_iff.mp H
      obtain ⟨⟨t829, t830, t831⟩, A130, H⟩ := H
      replace H : (if x4_1 < t829 then ((spec_l01Below.f s0_0 t830 t831 4).bind fun bt832 => ((spec_l01Below.f s0_0 bt832.2.1 bt832.2.2 5).bind fun bt835 => (if bt835.1 = 0 then ((spec_PinLook.f k1 x829000_1 x829001_1 x829002_1 bt832.1).bind fun bt838 => (spec_l08Epochs.l0 k1 (wrap64 (x4_1 + 1)) s0_0 bt835.2.1 bt835.2.2 bt838.1 bt838.2.1 bt838.2.2.1)) else (if bt835.1 = 1 then ((spec_UnpinLook.f k1 x829000_1 x829001_1 x829002_1 bt832.1).bind fun bt846 => (spec_l08Epochs.l0 k1 (wrap64 (x4_1 + 1)) s0_0 bt835.2.1 bt835.2.2 bt846.1 bt846.2.1 bt846.2.2.1)) else (if bt835.1 = 2 then ((spec_l01Below.f s0_0 bt835.2.1 bt835.2.2 9).bind fun bt854 => ((spec_RetireNode.f k1 x829000_1 x829001_1 x829002_1 (wrap64 (1 + bt854.1))).bind fun bt857 => (spec_l08Epochs.l0 k1 (wrap64 (x4_1 + 1)) s0_0 bt854.2.1 bt854.2.2 bt857.1 bt857.2.1 bt857.2.2.1))) else (if bt835.1 = 3 then ((spec_AdvanceEpoch.f k1 x829000_1 x829001_1 x829002_1).bind fun bt865 => (spec_l08Epochs.l0 k1 (wrap64 (x4_1 + 1)) s0_0 bt835.2.1 bt835.2.2 bt865.1 bt865.2.1 bt865.2.2.1)) else ((spec_FreeNodes.f k1 x829000_1 x829001_1 x829002_1).bind fun bt873 => (spec_l08Epochs.l0 k1 (wrap64 (x4_1 + 1)) s0_0 bt835.2.1 bt835.2.2 bt873.1 bt873.2.1 bt873.2.2.1)))))))) else (some (x829000_1, x829001_1, x829002_1, t830, t831))) = some (r1, r2, r3, r4, r5) := H
      have A13 := Aside0.mk A130
      clear A130
      have HS14 := Aside0.mk H
      clear H
      go_upto_if 13 with (((with_reducible refine gate_callee (f := 61) rfl ?_); refine goesL_ (some 12) rfl rfl Try.func61 (by kernel_rfl) rfl #[.pointer (some ⟨g, 0, none⟩), .int .i64 20] rfl (by (try simp only [List.map_toArray, List.map_cons, List.map_nil]); rfl) ?_; (with_reducible refine (spec_l01Below.calls g s0_0 x1001_1 x1002_1 20 t829 t830 t831 w0 _ ?side1 ?side2 A13.out).mono ?_); (case side1 => repeat ((with_reducible exact HI0.out))); (case side2 => repeat ((with_reducible exact HB.out))); rintro e w15 ⟨rfl, hi, hb, hk⟩; refine ⟨_, rfl, ?_⟩; have n0_ := Aside0.mk (Kd.R_mono (Kd.R_keep (IsS73.apart (show IsS73 w0 _ g s0_0 x1001_1 x1002_1 from by repeat ((with_reducible exact HI0.out))) (by (with_reducible repeat (first | apply Kd.R_alloc | apply Kd.R_drewN | apply Kd.R_drew )); exact HO_829001.out) (by decide)) hk (fun _ h => h.2)) (fun _ h => h.1)); have n1_ := Aside0.mk (Kd.R_mono (Kd.R_keep (IsS73.apart (show IsS73 w0 _ g s0_0 x1001_1 x1002_1 from by repeat ((with_reducible exact HI0.out))) (by (with_reducible repeat (first | apply Kd.R_alloc | apply Kd.R_drewN | apply Kd.R_drew )); exact HO_829002.out) (by decide)) hk (fun _ h => h.2)) (fun _ h => h.1)); have n2_ := Aside0.mk (KeepBut.blk hk (g' := gb817) (o := .cells #[.int .i64 0, .slice none 0 0, .slice none 0 0] 25 (0, 0)) (by (with_reducible repeat (first | refine blk_drewN ?_ _ | refine blk_drew ?_ | refine blk_alloc ?_ _ )); exact BK817.out) NB817_0.out (by simp)); have n3_ := Aside0.mk (KeepBut.blk hk (g' := gb828) (o := .cells #[.int .i64 x829000_1, u829001, u829002] 25 (0, 0)) (by (with_reducible repeat (first | refine blk_drewN ?_ _ | refine blk_drew ?_ | refine blk_alloc ?_ _ )); exact BK828.out) NB828_0.out (by simp)); have n4_ := Aside0.mk (KeepBut.trans (by repeat ((with_reducible exact HK.out))) hk (.inl rfl)); have n5_ := Aside0.mk (hb); have n6_ := Aside0.mk (hi); clear HO_829001; clear HO_829002; clear BK817; clear BK828; clear HK; clear HB; clear HI0; have HO_829001 := n0_; have HO_829002 := n1_; have BK817 := n2_; have BK828 := n3_; have HK := n4_; have HB := n5_; have HI0 := n6_; clear n0_ n1_ n2_ n3_ n4_ n5_ n6_; (try clear hb); (try clear hb2); (try clear hk); (try clear hi)))
      (try simp only [Act.put, List.setIfInBounds_toArray, List.set_cons_zero, List.set_cons_succ])
      have H := HS14.out
      clear HS14
      by_cases c16 : x4_1 < t829
      · rw [if_pos c16] at H
        have c16b0 : decide (x4_1 < t829) = true := decide_eq_true c16
        clear c16
        (rw [c16b0])
        replace H := Option.bind_eq_some_iff.mp H
        obtain ⟨⟨t832, t833, t834⟩, A170, H⟩ := H
        replace H : ((spec_l01Below.f s0_0 t833 t834 5).bind fun bt835 => (if bt835.1 = 0 then ((spec_PinLook.f k1 x829000_1 x829001_1 x829002_1 t832).bind fun bt838 => (spec_l08Epochs.l0 k1 (wrap64 (x4_1 + 1)) s0_0 bt835.2.1 bt835.2.2 bt838.1 bt838.2.1 bt838.2.2.1)) else (if bt835.1 = 1 then ((spec_UnpinLook.f k1 x829000_1 x829001_1 x829002_1 t832).bind fun bt846 => (spec_l08Epochs.l0 k1 (wrap64 (x4_1 + 1)) s0_0 bt835.2.1 bt835.2.2 bt846.1 bt846.2.1 bt846.2.2.1)) else (if bt835.1 = 2 then ((spec_l01Below.f s0_0 bt835.2.1 bt835.2.2 9).bind fun bt854 => ((spec_RetireNode.f k1 x829000_1 x829001_1 x829002_1 (wrap64 (1 + bt854.1))).bind fun bt857 => (spec_l08Epochs.l0 k1 (wrap64 (x4_1 + 1)) s0_0 bt854.2.1 bt854.2.2 bt857.1 bt857.2.1 bt857.2.2.1))) else (if bt835.1 = 3 then ((spec_AdvanceEpoch.f k1 x829000_1 x829001_1 x829002_1).bind fun bt865 => (spec_l08Epochs.l0 k1 (wrap64 (x4_1 + 1)) s0_0 bt835.2.1 bt835.2.2 bt865.1 bt865.2.1 bt865.2.2.1)) else ((spec_FreeNodes.f k1 x829000_1 x829001_1 x829002_1).bind fun bt873 => (spec_l08Epochs.l0 k1 (wrap64 (x4_1 + 1)) s0_0 bt835.2.1 bt835.2.2 bt873.1 bt873.2.1 bt873.2.2.1))))))) = some (r1, r2, r3, r4, r5) := H
        have A17 := Aside0.mk A170
        clear A170
        replace H := Option.bind_eq_some_iff.mp H
        obtain ⟨⟨t835, t836, t837⟩, A180, H⟩ := H
        replace H : (if t835 = 0 then ((spec_PinLook.f k1 x829000_1 x829001_1 x829002_1 t832).bind fun bt838 => (spec_l08Epochs.l0 k1 (wrap64 (x4_1 + 1)) s0_0 t836 t837 bt838.1 bt838.2.1 bt838.2.2.1)) else (if t835 = 1 then ((spec_UnpinLook.f k1 x829000_1 x829001_1 x829002_1 t832).bind fun bt846 => (spec_l08Epochs.l0 k1 (wrap64 (x4_1 + 1)) s0_0 t836 t837 bt846.1 bt846.2.1 bt846.2.2.1)) else (if t835 = 2 then ((spec_l01Below.f s0_0 t836 t837 9).bind fun bt854 => ((spec_RetireNode.f k1 x829000_1 x829001_1 x829002_1 (wrap64 (1 + bt854.1))).bind fun bt857 => (spec_l08Epochs.l0 k1 (wrap64 (x4_1 + 1)) s0_0 bt854.2.1 bt854.2.2 bt857.1 bt857.2.1 bt857.2.2.1))) else (if t835 = 3 then ((spec_AdvanceEpoch.f k1 x829000_1 x829001_1 x829002_1).bind fun bt865 => (spec_l08Epochs.l0 k1 (wrap64 (x4_1 + 1)) s0_0 t836 t837 bt865.1 bt865.2.1 bt865.2.2.1)) else ((spec_FreeNodes.f k1 x829000_1 x829001_1 x829002_1).bind fun bt873 => (spec_l08Epochs.l0 k1 (wrap64 (x4_1 + 1)) s0_0 t836 t837 bt873.1 bt873.2.1 bt873.2.2.1)))))) = some (r1, r2, r3, r4, r5) := H
        have A18 := Aside0.mk A180
        clear A180
        have HS19 := Aside0.mk H
        clear H
        go_upto_if 25 with (first | ((with_reducible refine gate_callee (f := 61) rfl ?_); refine goesL_ (some 17) rfl rfl Try.func61 (by kernel_rfl) rfl #[.pointer (some ⟨g, 0, none⟩), .int .i64 4] rfl (by (try simp only [List.map_toArray, List.map_cons, List.map_nil]); rfl) ?_; (with_reducible refine (spec_l01Below.calls g s0_0 t830 t831 4 t832 t833 t834 w0 _ ?side1 ?side2 A17.out).mono ?_); (case side1 => repeat ((with_reducible exact HI0.out))); (case side2 => repeat ((with_reducible exact HB.out))); rintro e w20 ⟨rfl, hi, hb, hk⟩; refine ⟨_, rfl, ?_⟩; have n0_ := Aside0.mk (Kd.R_mono (Kd.R_keep (IsS73.apart (show IsS73 w0 _ g s0_0 t830 t831 from by repeat ((with_reducible exact HI0.out))) (by (with_reducible repeat (first | apply Kd.R_alloc | apply Kd.R_drewN | apply Kd.R_drew )); exact HO_829001.out) (by decide)) hk (fun _ h => h.2)) (fun _ h => h.1)); have n1_ := Aside0.mk (Kd.R_mono (Kd.R_keep (IsS73.apart (show IsS73 w0 _ g s0_0 t830 t831 from by repeat ((with_reducible exact HI0.out))) (by (with_reducible repeat (first | apply Kd.R_alloc | apply Kd.R_drewN | apply Kd.R_drew )); exact HO_829002.out) (by decide)) hk (fun _ h => h.2)) (fun _ h => h.1)); have n2_ := Aside0.mk (KeepBut.blk hk (g' := gb817) (o := .cells #[.int .i64 0, .slice none 0 0, .slice none 0 0] 25 (0, 0)) (by (with_reducible repeat (first | refine blk_drewN ?_ _ | refine blk_drew ?_ | refine blk_alloc ?_ _ )); exact BK817.out) NB817_0.out (by simp)); have n3_ := Aside0.mk (KeepBut.blk hk (g' := gb828) (o := .cells #[.int .i64 x829000_1, u829001, u829002] 25 (0, 0)) (by (with_reducible repeat (first | refine blk_drewN ?_ _ | refine blk_drew ?_ | refine blk_alloc ?_ _ )); exact BK828.out) NB828_0.out (by simp)); have n4_ := Aside0.mk (KeepBut.trans (by repeat ((with_reducible exact HK.out))) hk (.inl rfl)); have n5_ := Aside0.mk (hb); have n6_ := Aside0.mk (hi); clear HO_829001; clear HO_829002; clear BK817; clear BK828; clear HK; clear HB; clear HI0; have HO_829001 := n0_; have HO_829002 := n1_; have BK817 := n2_; have BK828 := n3_; have HK := n4_; have HB := n5_; have HI0 := n6_; clear n0_ n1_ n2_ n3_ n4_ n5_ n6_; (try clear hb); (try clear hb2); (try clear hk); (try clear hi)) | ((with_reducible refine gate_callee (f := 61) rfl ?_); refine goesL_ (some 19) rfl rfl Try.func61 (by kernel_rfl) rfl #[.pointer (some ⟨g, 0, none⟩), .int .i64 5] rfl (by (try simp only [List.map_toArray, List.map_cons, List.map_nil]); rfl) ?_; (with_reducible refine (spec_l01Below.calls g s0_0 t833 t834 5 t835 t836 t837 w0 _ ?side1 ?side2 A18.out).mono ?_); (case side1 => repeat ((with_reducible exact HI0.out))); (case side2 => repeat ((with_reducible exact HB.out))); rintro e w21 ⟨rfl, hi, hb, hk⟩; refine ⟨_, rfl, ?_⟩; have n0_ := Aside0.mk (Kd.R_mono (Kd.R_keep (IsS73.apart (show IsS73 w0 _ g s0_0 t833 t834 from by repeat ((with_reducible exact HI0.out))) (by (with_reducible repeat (first | apply Kd.R_alloc | apply Kd.R_drewN | apply Kd.R_drew )); exact HO_829001.out) (by decide)) hk (fun _ h => h.2)) (fun _ h => h.1)); have n1_ := Aside0.mk (Kd.R_mono (Kd.R_keep (IsS73.apart (show IsS73 w0 _ g s0_0 t833 t834 from by repeat ((with_reducible exact HI0.out))) (by (with_reducible repeat (first | apply Kd.R_alloc | apply Kd.R_drewN | apply Kd.R_drew )); exact HO_829002.out) (by decide)) hk (fun _ h => h.2)) (fun _ h => h.1)); have n2_ := Aside0.mk (KeepBut.blk hk (g' := gb817) (o := .cells #[.int .i64 0, .slice none 0 0, .slice none 0 0] 25 (0, 0)) (by (with_reducible repeat (first | refine blk_drewN ?_ _ | refine blk_drew ?_ | refine blk_alloc ?_ _ )); exact BK817.out) NB817_0.out (by simp)); have n3_ := Aside0.mk (KeepBut.blk hk (g' := gb828) (o := .cells #[.int .i64 x829000_1, u829001, u829002] 25 (0, 0)) (by (with_reducible repeat (first | refine blk_drewN ?_ _ | refine blk_drew ?_ | refine blk_alloc ?_ _ )); exact BK828.out) NB828_0.out (by simp)); have n4_ := Aside0.mk (KeepBut.trans (by repeat ((with_reducible exact HK.out))) hk (.inl rfl)); have n5_ := Aside0.mk (hb); have n6_ := Aside0.mk (hi); clear HO_829001; clear HO_829002; clear BK817; clear BK828; clear HK; clear HB; clear HI0; have HO_829001 := n0_; have HO_829002 := n1_; have BK817 := n2_; have BK828 := n3_; have HK := n4_; have HB := n5_; have HI0 := n6_; clear n0_ n1_ n2_ n3_ n4_ n5_ n6_; (try clear hb); (try clear hb2); (try clear hk); (try clear hi)))
        (try simp only [Act.put, List.setIfInBounds_toArray, List.set_cons_zero, List.set_cons_succ])
        have H := HS19.out
        clear HS19
        by_cases c22 : t835 = 0
        · rw [if_pos c22] at H
          have c22b0 : (t835 == 0) = true := beq_iff_eq.mpr c22
          have c22b1 : (t835 != 0) = false := bne_eq_false_iff_eq.mpr c22
          clear c22
          (rw [c22b0])
          replace H := Option.bind_eq_some_iff.mp H
          obtain ⟨⟨t838, t839, t842, t845⟩, A230, H⟩ := H
          replace H : (spec_l08Epochs.l0 k1 (wrap64 (x4_1 + 1)) s0_0 t836 t837 t838 t839 t842) = some (r1, r2, r3, r4, r5) := H
          have A23 := Aside0.mk A230
          clear A230
          have H' := Aside0.mk H
          clear H
          have hnb24 := NB828_817.out
          have hnc24 := NB817_828.out
          have hnb25 := NB828_0.out
          have hnc25 := NB0_828.out
          have hcz26_0 : w21.cell? ⟨gb828, 0, none⟩ = some (.int .i64 x829000_1) := (blk_cell BK828.out 0).trans rfl
          have hcz26_1 : w21.cell? ⟨gb828, 1, none⟩ = some (u829001) := (blk_cell BK828.out 1).trans rfl
          have hcz26_2 : w21.cell? ⟨gb828, 2, none⟩ = some (u829002) := (blk_cell BK828.out 2).trans rfl
          have hfz26_0 := blk_frozen BK828.out 0
          have hfz26_1 := blk_frozen BK828.out 1
          have hfz26_2 := blk_frozen BK828.out 2
          obtain ⟨Ao27, co27, eo27⟩ := Kd.R_slice HO_829001.out
          subst eo27
          obtain ⟨Ao28, co28, eo28⟩ := Kd.R_slice HO_829002.out
          subst eo28
          go_wp2_with (((with_reducible refine gate_callee (f := 22) rfl ?_); refine goesL_ (some 30) rfl rfl Try.func22 (by kernel_rfl) rfl #[.agg #[.int .i64 x829000_1, .slice Ao27 x829001_1.length co27, .slice Ao28 x829002_1.length co28], .int .i64 t832] rfl (by (try simp only [List.map_toArray, List.map_cons, List.map_nil]); rfl) ?_; (with_reducible refine (spec_PinLook.calls k1 x829000_1 _ _ x829001_1 _ _ x829002_1 t832 t838 t839 t842 t845 _ ?side1 ?side2 ?side3 ?side4 A23.out).mono ?_); (case side1 => repeat (exact (Kd.R_reads' HO_829001.out).2.2)); (case side2 => exact (Kd.R_reads' HO_829001.out).2.1); (case side3 => repeat (exact (Kd.R_reads' HO_829002.out).2.2)); (case side4 => exact (Kd.R_reads' HO_829002.out).2.1); rintro e w29 ⟨v840, v843, rfl, ho0, ho1, hb⟩; refine ⟨_, rfl, ?_⟩; have n0_ := Aside0.mk (Kd.R_elder' (by (with_reducible repeat (first | apply Kd.R_alloc | apply Kd.R_drewN | apply Kd.R_drew )); exact HO_829001.out) (Kd.R_base ho0) hb); have n1_ := Aside0.mk (Kd.R_elder' (by (with_reducible repeat (first | apply Kd.R_alloc | apply Kd.R_drewN | apply Kd.R_drew )); exact HO_829002.out) (Kd.R_base ho1) hb); have n2_ := Aside0.mk (Kd.R_lower (Kd.R_new' ho0 (Kd.R_lt (by (with_reducible repeat (first | apply Kd.R_alloc | apply Kd.R_drewN | apply Kd.R_drew )); exact HO_829001.out))) (keep_size (w := w) (g := g) (row := none) (by repeat ((with_reducible exact HK.out))))); have n3_ := Aside0.mk (Kd.R_lower (Kd.R_new' ho1 (Kd.R_lt (by (with_reducible repeat (first | apply Kd.R_alloc | apply Kd.R_drewN | apply Kd.R_drew )); exact HO_829002.out))) (keep_size (w := w) (g := g) (row := none) (by repeat ((with_reducible exact HK.out))))); have n4_ := Aside0.mk (blk_below (g := gb817) (o := .cells #[.int .i64 0, .slice none 0 0, .slice none 0 0] 25 (0, 0)) (by (with_reducible repeat (first | refine blk_drewN ?_ _ | refine blk_drew ?_ | refine blk_alloc ?_ _ )); exact BK817.out) hb); have n5_ := Aside0.mk (blk_below (g := gb828) (o := .cells #[.int .i64 x829000_1, .slice Ao27 x829001_1.length co27, .slice Ao28 x829002_1.length co28] 25 (0, 0)) (by (with_reducible repeat (first | refine blk_drewN ?_ _ | refine blk_drew ?_ | refine blk_alloc ?_ _ )); exact BK828.out) hb); have n6_ := Aside0.mk (IsS73.below (by repeat ((with_reducible exact HI0.out))) hb); have n7_ := Aside0.mk (KeepBut.trans (by repeat ((with_reducible exact HK.out))) (KeepBut.of_below hb g none) (.inl rfl)); have n8_ := Aside0.mk (below_step (by repeat ((with_reducible exact HB.out))) hb); clear HO_829001; clear HO_829002; clear BK817; clear BK828; clear HI0; clear HK; clear HB; have HO_829001 := n0_; have HO_829002 := n1_; have HO841 := n2_; have HO844 := n3_; have BK817 := n4_; have BK828 := n5_; have HI0 := n6_; have HK := n7_; have HB := n8_; clear n0_ n1_ n2_ n3_ n4_ n5_ n6_ n7_ n8_; (try clear hb); (try clear hb2); (try clear hk); (try clear hi); (try clear ho0); (try clear ho1); have hcz30_0 : w29.cell? ⟨gb828, 0, none⟩ = some (.int .i64 x829000_1) := (blk_cell BK828.out 0).trans rfl; have hcz30_1 : w29.cell? ⟨gb828, 1, none⟩ = some (.slice Ao27 x829001_1.length co27) := (blk_cell BK828.out 1).trans rfl; have hcz30_2 : w29.cell? ⟨gb828, 2, none⟩ = some (.slice Ao28 x829002_1.length co28) := (blk_cell BK828.out 2).trans rfl; have hfz30_0 := blk_frozen BK828.out 0; have hfz30_1 := blk_frozen BK828.out 1; have hfz30_2 := blk_frozen BK828.out 2; obtain ⟨Ao31, co31, eo31⟩ := Kd.R_slice HO841.out; subst eo31; obtain ⟨Ao32, co32, eo32⟩ := Kd.R_slice HO844.out; subst eo32))
          go_roundg k1
          case measure => have := HK1.out; omega
          case rel => exact ⟨(wrap64 (x4_1 + 1)), (t836), (t837), (t838), (t839), (t842), (.slice Ao31 t839.length co31), (.slice Ao32 t842.length co32), (by rfl), H', ⟨by have := HK1.out; omega⟩, ⟨by (with_reducible repeat (first | apply Kd.R_alloc | apply Kd.R_drewN | apply Kd.R_drew )); exact Kd.R_mono (Kd.R_far (p := ⟨gb828, 2, none⟩) (Kd.R_far (p := ⟨gb828, 1, none⟩) (Kd.R_far (p := ⟨gb828, 0, none⟩) (Kd.R_types HO841.out BK828.out (by decide)) (fun _ hk => hk.2) (.int .i64 t838)) (fun _ hk => hk.2) (.slice Ao31 t839.length co31)) (fun _ hk => hk.2) (.slice Ao32 t842.length co32)) (fun _ hk => trivial)⟩, ⟨by (with_reducible repeat (first | apply Kd.R_alloc | apply Kd.R_drewN | apply Kd.R_drew )); exact Kd.R_mono (Kd.R_far (p := ⟨gb828, 2, none⟩) (Kd.R_far (p := ⟨gb828, 1, none⟩) (Kd.R_far (p := ⟨gb828, 0, none⟩) (Kd.R_types HO844.out BK828.out (by decide)) (fun _ hk => hk.2) (.int .i64 t838)) (fun _ hk => hk.2) (.slice Ao31 t839.length co31)) (fun _ hk => hk.2) (.slice Ao32 t842.length co32)) (fun _ hk => trivial)⟩, ⟨by (with_reducible repeat (first | refine blk_drewN ?_ _ | refine blk_drew ?_ | refine blk_alloc ?_ _ )); refine blk_far ?_ NB817_828.out _; (with_reducible repeat (first | refine blk_drewN ?_ _ | refine blk_drew ?_ | refine blk_alloc ?_ _ )); refine blk_far ?_ NB817_828.out _; (with_reducible repeat (first | refine blk_drewN ?_ _ | refine blk_drew ?_ | refine blk_alloc ?_ _ )); refine blk_far ?_ NB817_828.out _; (with_reducible repeat (first | refine blk_drewN ?_ _ | refine blk_drew ?_ | refine blk_alloc ?_ _ )); exact BK817.out⟩, ⟨by (with_reducible repeat (first | refine blk_drewN ?_ _ | refine blk_drew ?_ | refine blk_alloc ?_ _ )); refine blk_put (cs := #[.int .i64 t838, .slice Ao31 t839.length co31, .slice Ao28 x829002_1.length co28]) ?_ 2 _ rfl; (with_reducible repeat (first | refine blk_drewN ?_ _ | refine blk_drew ?_ | refine blk_alloc ?_ _ )); refine blk_put (cs := #[.int .i64 t838, .slice Ao27 x829001_1.length co27, .slice Ao28 x829002_1.length co28]) ?_ 1 _ rfl; (with_reducible repeat (first | refine blk_drewN ?_ _ | refine blk_drew ?_ | refine blk_alloc ?_ _ )); refine blk_put (cs := #[.int .i64 x829000_1, .slice Ao27 x829001_1.length co27, .slice Ao28 x829002_1.length co28]) ?_ 0 _ rfl; (with_reducible repeat (first | refine blk_drewN ?_ _ | refine blk_drew ?_ | refine blk_alloc ?_ _ )); exact BK828.out⟩, ⟨by repeat ((with_reducible first | exact HI0.out | refine IsS73.far ?_ NB0_828.out _))⟩, ⟨by repeat ((with_reducible first | exact HK.out | refine keep_far ?_ GW828.out _))⟩, ⟨by repeat ((with_reducible first | exact HB.out | refine below_set ?_ GE828.out))⟩⟩
        · rw [if_neg c22] at H
          have c22b0 : (t835 == 0) = false := beq_eq_false_iff_ne.mpr c22
          have c22b1 : (t835 != 0) = true := bne_iff_ne.mpr c22
          (rw [c22b0])
          by_cases c33 : t835 = 1
          · rw [if_pos c33] at H
            have c33b0 : (t835 == 1) = true := beq_iff_eq.mpr c33
            have c33b1 : (t835 != 1) = false := bne_eq_false_iff_eq.mpr c33
            clear c33
            replace H := Option.bind_eq_some_iff.mp H
            obtain ⟨⟨t846, t847, t850, t853⟩, A340, H⟩ := H
            replace H : (spec_l08Epochs.l0 k1 (wrap64 (x4_1 + 1)) s0_0 t836 t837 t846 t847 t850) = some (r1, r2, r3, r4, r5) := H
            have A34 := Aside0.mk A340
            clear A340
            have H' := Aside0.mk H
            clear H
            have hnb35 := NB828_817.out
            have hnc35 := NB817_828.out
            have hnb36 := NB828_0.out
            have hnc36 := NB0_828.out
            have hcz37_0 : w21.cell? ⟨gb828, 0, none⟩ = some (.int .i64 x829000_1) := (blk_cell BK828.out 0).trans rfl
            have hcz37_1 : w21.cell? ⟨gb828, 1, none⟩ = some (u829001) := (blk_cell BK828.out 1).trans rfl
            have hcz37_2 : w21.cell? ⟨gb828, 2, none⟩ = some (u829002) := (blk_cell BK828.out 2).trans rfl
            have hfz37_0 := blk_frozen BK828.out 0
            have hfz37_1 := blk_frozen BK828.out 1
            have hfz37_2 := blk_frozen BK828.out 2
            obtain ⟨Ao38, co38, eo38⟩ := Kd.R_slice HO_829001.out
            subst eo38
            obtain ⟨Ao39, co39, eo39⟩ := Kd.R_slice HO_829002.out
            subst eo39
            go_wp2_with (((with_reducible refine gate_callee (f := 24) rfl ?_); refine goesL_ (some 38) rfl rfl Try.func24 (by kernel_rfl) rfl #[.agg #[.int .i64 x829000_1, .slice Ao38 x829001_1.length co38, .slice Ao39 x829002_1.length co39], .int .i64 t832] rfl (by (try simp only [List.map_toArray, List.map_cons, List.map_nil]); rfl) ?_; (with_reducible refine (spec_UnpinLook.calls k1 x829000_1 _ _ x829001_1 _ _ x829002_1 t832 t846 t847 t850 t853 _ ?side1 ?side2 ?side3 ?side4 A34.out).mono ?_); (case side1 => repeat (exact (Kd.R_reads' HO_829001.out).2.2)); (case side2 => exact (Kd.R_reads' HO_829001.out).2.1); (case side3 => repeat (exact (Kd.R_reads' HO_829002.out).2.2)); (case side4 => exact (Kd.R_reads' HO_829002.out).2.1); rintro e w40 ⟨v848, v851, rfl, ho0, ho1, hb⟩; refine ⟨_, rfl, ?_⟩; have n0_ := Aside0.mk (Kd.R_elder' (by (with_reducible repeat (first | apply Kd.R_alloc | apply Kd.R_drewN | apply Kd.R_drew )); exact HO_829001.out) (Kd.R_base ho0) hb); have n1_ := Aside0.mk (Kd.R_elder' (by (with_reducible repeat (first | apply Kd.R_alloc | apply Kd.R_drewN | apply Kd.R_drew )); exact HO_829002.out) (Kd.R_base ho1) hb); have n2_ := Aside0.mk (Kd.R_lower (Kd.R_new' ho0 (Kd.R_lt (by (with_reducible repeat (first | apply Kd.R_alloc | apply Kd.R_drewN | apply Kd.R_drew )); exact HO_829001.out))) (keep_size (w := w) (g := g) (row := none) (by repeat ((with_reducible exact HK.out))))); have n3_ := Aside0.mk (Kd.R_lower (Kd.R_new' ho1 (Kd.R_lt (by (with_reducible repeat (first | apply Kd.R_alloc | apply Kd.R_drewN | apply Kd.R_drew )); exact HO_829002.out))) (keep_size (w := w) (g := g) (row := none) (by repeat ((with_reducible exact HK.out))))); have n4_ := Aside0.mk (blk_below (g := gb817) (o := .cells #[.int .i64 0, .slice none 0 0, .slice none 0 0] 25 (0, 0)) (by (with_reducible repeat (first | refine blk_drewN ?_ _ | refine blk_drew ?_ | refine blk_alloc ?_ _ )); exact BK817.out) hb); have n5_ := Aside0.mk (blk_below (g := gb828) (o := .cells #[.int .i64 x829000_1, .slice Ao38 x829001_1.length co38, .slice Ao39 x829002_1.length co39] 25 (0, 0)) (by (with_reducible repeat (first | refine blk_drewN ?_ _ | refine blk_drew ?_ | refine blk_alloc ?_ _ )); exact BK828.out) hb); have n6_ := Aside0.mk (IsS73.below (by repeat ((with_reducible exact HI0.out))) hb); have n7_ := Aside0.mk (KeepBut.trans (by repeat ((with_reducible exact HK.out))) (KeepBut.of_below hb g none) (.inl rfl)); have n8_ := Aside0.mk (below_step (by repeat ((with_reducible exact HB.out))) hb); clear HO_829001; clear HO_829002; clear BK817; clear BK828; clear HI0; clear HK; clear HB; have HO_829001 := n0_; have HO_829002 := n1_; have HO849 := n2_; have HO852 := n3_; have BK817 := n4_; have BK828 := n5_; have HI0 := n6_; have HK := n7_; have HB := n8_; clear n0_ n1_ n2_ n3_ n4_ n5_ n6_ n7_ n8_; (try clear hb); (try clear hb2); (try clear hk); (try clear hi); (try clear ho0); (try clear ho1); have hcz41_0 : w40.cell? ⟨gb828, 0, none⟩ = some (.int .i64 x829000_1) := (blk_cell BK828.out 0).trans rfl; have hcz41_1 : w40.cell? ⟨gb828, 1, none⟩ = some (.slice Ao38 x829001_1.length co38) := (blk_cell BK828.out 1).trans rfl; have hcz41_2 : w40.cell? ⟨gb828, 2, none⟩ = some (.slice Ao39 x829002_1.length co39) := (blk_cell BK828.out 2).trans rfl; have hfz41_0 := blk_frozen BK828.out 0; have hfz41_1 := blk_frozen BK828.out 1; have hfz41_2 := blk_frozen BK828.out 2; obtain ⟨Ao42, co42, eo42⟩ := Kd.R_slice HO849.out; subst eo42; obtain ⟨Ao43, co43, eo43⟩ := Kd.R_slice HO852.out; subst eo43))
            go_roundg k1
            case measure => have := HK1.out; omega
            case rel => exact ⟨(wrap64 (x4_1 + 1)), (t836), (t837), (t846), (t847), (t850), (.slice Ao42 t847.length co42), (.slice Ao43 t850.length co43), (by rfl), H', ⟨by have := HK1.out; omega⟩, ⟨by (with_reducible repeat (first | apply Kd.R_alloc | apply Kd.R_drewN | apply Kd.R_drew )); exact Kd.R_mono (Kd.R_far (p := ⟨gb828, 2, none⟩) (Kd.R_far (p := ⟨gb828, 1, none⟩) (Kd.R_far (p := ⟨gb828, 0, none⟩) (Kd.R_types HO849.out BK828.out (by decide)) (fun _ hk => hk.2) (.int .i64 t846)) (fun _ hk => hk.2) (.slice Ao42 t847.length co42)) (fun _ hk => hk.2) (.slice Ao43 t850.length co43)) (fun _ hk => trivial)⟩, ⟨by (with_reducible repeat (first | apply Kd.R_alloc | apply Kd.R_drewN | apply Kd.R_drew )); exact Kd.R_mono (Kd.R_far (p := ⟨gb828, 2, none⟩) (Kd.R_far (p := ⟨gb828, 1, none⟩) (Kd.R_far (p := ⟨gb828, 0, none⟩) (Kd.R_types HO852.out BK828.out (by decide)) (fun _ hk => hk.2) (.int .i64 t846)) (fun _ hk => hk.2) (.slice Ao42 t847.length co42)) (fun _ hk => hk.2) (.slice Ao43 t850.length co43)) (fun _ hk => trivial)⟩, ⟨by (with_reducible repeat (first | refine blk_drewN ?_ _ | refine blk_drew ?_ | refine blk_alloc ?_ _ )); refine blk_far ?_ NB817_828.out _; (with_reducible repeat (first | refine blk_drewN ?_ _ | refine blk_drew ?_ | refine blk_alloc ?_ _ )); refine blk_far ?_ NB817_828.out _; (with_reducible repeat (first | refine blk_drewN ?_ _ | refine blk_drew ?_ | refine blk_alloc ?_ _ )); refine blk_far ?_ NB817_828.out _; (with_reducible repeat (first | refine blk_drewN ?_ _ | refine blk_drew ?_ | refine blk_alloc ?_ _ )); exact BK817.out⟩, ⟨by (with_reducible repeat (first | refine blk_drewN ?_ _ | refine blk_drew ?_ | refine blk_alloc ?_ _ )); refine blk_put (cs := #[.int .i64 t846, .slice Ao42 t847.length co42, .slice Ao39 x829002_1.length co39]) ?_ 2 _ rfl; (with_reducible repeat (first | refine blk_drewN ?_ _ | refine blk_drew ?_ | refine blk_alloc ?_ _ )); refine blk_put (cs := #[.int .i64 t846, .slice Ao38 x829001_1.length co38, .slice Ao39 x829002_1.length co39]) ?_ 1 _ rfl; (with_reducible repeat (first | refine blk_drewN ?_ _ | refine blk_drew ?_ | refine blk_alloc ?_ _ )); refine blk_put (cs := #[.int .i64 x829000_1, .slice Ao38 x829001_1.length co38, .slice Ao39 x829002_1.length co39]) ?_ 0 _ rfl; (with_reducible repeat (first | refine blk_drewN ?_ _ | refine blk_drew ?_ | refine blk_alloc ?_ _ )); exact BK828.out⟩, ⟨by repeat ((with_reducible first | exact HI0.out | refine IsS73.far ?_ NB0_828.out _))⟩, ⟨by repeat ((with_reducible first | exact HK.out | refine keep_far ?_ GW828.out _))⟩, ⟨by repeat ((with_reducible first | exact HB.out | refine below_set ?_ GE828.out))⟩⟩
          · rw [if_neg c33] at H
            have c33b0 : (t835 == 1) = false := beq_eq_false_iff_ne.mpr c33
            have c33b1 : (t835 != 1) = true := bne_iff_ne.mpr c33
            by_cases c44 : t835 = 2
            · rw [if_pos c44] at H
              have c44b0 : (t835 == 2) = true := beq_iff_eq.mpr c44
              have c44b1 : (t835 != 2) = false := bne_eq_false_iff_eq.mpr c44
              clear c44
              replace H := Option.bind_eq_some_iff.mp H
              obtain ⟨⟨t854, t855, t856⟩, A450, H⟩ := H
              replace H : ((spec_RetireNode.f k1 x829000_1 x829001_1 x829002_1 (wrap64 (1 + t854))).bind fun bt857 => (spec_l08Epochs.l0 k1 (wrap64 (x4_1 + 1)) s0_0 t855 t856 bt857.1 bt857.2.1 bt857.2.2.1)) = some (r1, r2, r3, r4, r5) := H
              have A45 := Aside0.mk A450
              clear A450
              replace H := Option.bind_eq_some_iff.mp H
              obtain ⟨⟨t857, t858, t861, t864⟩, A460, H⟩ := H
              replace H : (spec_l08Epochs.l0 k1 (wrap64 (x4_1 + 1)) s0_0 t855 t856 t857 t858 t861) = some (r1, r2, r3, r4, r5) := H
              have A46 := Aside0.mk A460
              clear A460
              have H' := Aside0.mk H
              clear H
              go_wp2
              have n0_ := Aside0.mk (Kd.R_drew HO_829001.out)
              have n1_ := Aside0.mk (Kd.R_drew HO_829002.out)
              have n2_ := Aside0.mk (blk_drew BK817.out)
              have n3_ := Aside0.mk (blk_drew BK828.out)
              have n4_ := Aside0.mk (IsS73.drew HI0.out)
              have n5_ := Aside0.mk (keep_drew HK.out)
              have n6_ := Aside0.mk (below_drew1 HB.out)
              clear HO_829001
              clear HO_829002
              clear BK817
              clear BK828
              clear HI0
              clear HK
              clear HB
              have HO_829001 := n0_
              have HO_829002 := n1_
              have BK817 := n2_
              have BK828 := n3_
              have HI0 := n4_
              have HK := n5_
              have HB := n6_
              clear n0_ n1_ n2_ n3_ n4_ n5_ n6_
              refine start_ (n := 9) (S := fun w' => w'.cell? ⟨gb828, 0, none⟩ = some (.int .i64 x829000_1) ∧ w'.cell? ⟨gb828, 1, none⟩ = some (u829001) ∧ w'.cell? ⟨gb828, 2, none⟩ = some (u829002)) (ds := [8]) #[false, false, false, false, false, false, false, false, false] (by kernel_rfl) rfl rfl ⟨(blk_cell BK828.out 0).trans rfl, (blk_cell BK828.out 1).trans rfl, (blk_cell BK828.out 2).trans rfl⟩ (fun hHeld => ?_); refine with_tabW spec_l08Epochs.tab13 spec_l08Epochs.bits13 (fun HT_ HW_ => ?_)
              generalize w21.drew = w47 at HO_829001 HO_829002 BK817 BK828 HI0 HK HB hHeld ⊢
              refine pure_ (i := 1) (N := some 45) (v := ?_) (a' := ?_) #[false, true, false, false, false, false, false, false, false] rfl rfl (any_of HT_.out (by kernel_rfl)) (fun _ _ _ h => h) (Or.inl ⟨by rfl, ?_⟩) ?_ ?_
              rotate_left
              · intro w'
                go_simp
                with_reducible rfl
              rotate_left
              · simp only [Act.put, List.setIfInBounds_toArray, List.set_cons_zero, List.set_cons_succ, i64_w, i32_w]
                rfl
              refine take_ (i := 0) (N := some 44) (v := ?_) (a' := ?_) #[true, true, false, false, false, false, false, false, false] rfl rfl (take_ofW HT_.out HW_.out (by kernel_rfl)) (fun _ _ _ h => h) (Or.inl ⟨by rfl, ?_⟩) hHeld ?_ ?_
              rotate_left
              · rintro w' ⟨s0, s1, s2⟩
                go_simp
                with_reducible rfl
              rotate_left
              · simp only [Act.put, List.setIfInBounds_toArray, List.set_cons_zero, List.set_cons_succ, i64_w, i32_w]
                rfl
              refine one_ (i := 2) (N := some 46) #[true, true, true, false, false, false, false, false, false] rfl rfl (one_of HT_.out (by kernel_rfl)) (by decide) (fun K hK => ?_)
              refine goes_ Try.func61 (by kernel_rfl) rfl #[.pointer (some ⟨g, 0, none⟩), .int .i64 9] (by rfl) rfl rfl (by (try simp only [List.map_toArray, List.map_cons, List.map_nil]); rfl) ?_
              with_reducible refine (spec_l01Below.calls g s0_0 t836 t837 9 t854 t855 t856 w0 _ ?side1 ?side2 A45.out).mono ?_
              (case side1 => repeat ((with_reducible exact HI0.out)))
              (case side2 => repeat ((with_reducible exact HB.out)))
              rintro e w48 ⟨rfl, hi, hb, hk⟩
              refine ⟨_, rfl, ?_⟩
              have n0_ := Aside0.mk (Kd.R_mono (Kd.R_keep (IsS73.apart (show IsS73 w0 _ g s0_0 t836 t837 from by repeat ((with_reducible exact HI0.out))) (by (with_reducible repeat (first | apply Kd.R_alloc | apply Kd.R_drewN | apply Kd.R_drew )); exact HO_829001.out) (by decide)) hk (fun _ h => h.2)) (fun _ h => h.1))
              have n1_ := Aside0.mk (Kd.R_mono (Kd.R_keep (IsS73.apart (show IsS73 w0 _ g s0_0 t836 t837 from by repeat ((with_reducible exact HI0.out))) (by (with_reducible repeat (first | apply Kd.R_alloc | apply Kd.R_drewN | apply Kd.R_drew )); exact HO_829002.out) (by decide)) hk (fun _ h => h.2)) (fun _ h => h.1))
              have n2_ := Aside0.mk (KeepBut.blk hk (g' := gb817) (o := .cells #[.int .i64 0, .slice none 0 0, .slice none 0 0] 25 (0, 0)) (by (with_reducible repeat (first | refine blk_drewN ?_ _ | refine blk_drew ?_ | refine blk_alloc ?_ _ )); exact BK817.out) NB817_0.out (by simp))
              have n3_ := Aside0.mk (KeepBut.blk hk (g' := gb828) (o := .cells #[.int .i64 x829000_1, u829001, u829002] 25 (0, 0)) (by (with_reducible repeat (first | refine blk_drewN ?_ _ | refine blk_drew ?_ | refine blk_alloc ?_ _ )); exact BK828.out) NB828_0.out (by simp))
              have n4_ := Aside0.mk (KeepBut.trans (by repeat ((with_reducible exact HK.out))) hk (.inl rfl))
              have n5_ := Aside0.mk (hb)
              have n6_ := Aside0.mk (hi)
              clear HO_829001
              clear HO_829002
              clear BK817
              clear BK828
              clear HK
              clear HB
              clear HI0
              have HO_829001 := n0_
              have HO_829002 := n1_
              have BK817 := n2_
              have BK828 := n3_
              have HK := n4_
              have HB := n5_
              have HI0 := n6_
              clear n0_ n1_ n2_ n3_ n4_ n5_ n6_
              (try clear hb)
              (try clear hb2)
              (try clear hk)
              (try clear hi)
              obtain ⟨Ao49, co49, eo49⟩ := Kd.R_slice HO_829001.out
              (subst eo49)
              obtain ⟨Ao50, co50, eo50⟩ := Kd.R_slice HO_829002.out
              (subst eo50)
              refine hK.out _ _ ⟨(blk_cell BK828.out 0).trans rfl, (blk_cell BK828.out 1).trans rfl, (blk_cell BK828.out 2).trans rfl⟩ (fun hHeld => ?_)
              clear hK K
              refine norm_ (a' := ?_) ?_ ?_
              rotate_left
              · show Act.put _ (some 46) _ = _
                simp only [Act.put, List.setIfInBounds_toArray, List.set_cons_zero, List.set_cons_succ, i64_w, i32_w]
                rfl
              refine pure_ (i := 3) (N := some 47) (v := ?_) (a' := ?_) #[true, true, true, true, false, false, false, false, false] rfl rfl (any_of HT_.out (by kernel_rfl)) (fun _ _ _ h => h) (Or.inl ⟨by rfl, ?_⟩) ?_ ?_
              rotate_left
              · intro w'
                go_simp
                with_reducible rfl
              rotate_left
              · simp only [Act.put, List.setIfInBounds_toArray, List.set_cons_zero, List.set_cons_succ, i64_w, i32_w]
                rfl
              refine one_ (i := 4) (N := some 48) #[true, true, true, true, true, false, false, false, false] rfl rfl (one_of HT_.out (by kernel_rfl)) (by decide) (fun K hK => ?_)
              refine goes_ Try.func33 (by kernel_rfl) rfl #[.agg #[.int .i64 x829000_1, .slice Ao49 x829001_1.length co49, .slice Ao50 x829002_1.length co50], .int .i64 (wrap64 (1 + t854))] (by rfl) rfl rfl (by (try simp only [List.map_toArray, List.map_cons, List.map_nil]); rfl) ?_
              with_reducible refine (spec_RetireNode.calls k1 x829000_1 _ _ x829001_1 _ _ x829002_1 (wrap64 (1 + t854)) t857 t858 t861 t864 _ ?side1 ?side2 ?side3 ?side4 A46.out).mono ?_
              (case side1 => repeat (exact (Kd.R_reads' HO_829001.out).2.2))
              (case side2 => exact (Kd.R_reads' HO_829001.out).2.1)
              (case side3 => repeat (exact (Kd.R_reads' HO_829002.out).2.2))
              (case side4 => exact (Kd.R_reads' HO_829002.out).2.1)
              rintro e w51 ⟨v859, v862, rfl, ho0, ho1, hb⟩
              refine ⟨_, rfl, ?_⟩
              have n0_ := Aside0.mk (Kd.R_elder' (by (with_reducible repeat (first | apply Kd.R_alloc | apply Kd.R_drewN | apply Kd.R_drew )); exact HO_829001.out) (Kd.R_base ho0) hb)
              have n1_ := Aside0.mk (Kd.R_elder' (by (with_reducible repeat (first | apply Kd.R_alloc | apply Kd.R_drewN | apply Kd.R_drew )); exact HO_829002.out) (Kd.R_base ho1) hb)
              have n2_ := Aside0.mk (Kd.R_lower (Kd.R_new' ho0 (Kd.R_lt (by (with_reducible repeat (first | apply Kd.R_alloc | apply Kd.R_drewN | apply Kd.R_drew )); exact HO_829001.out))) (keep_size (w := w) (g := g) (row := none) (by repeat ((with_reducible exact HK.out)))))
              have n3_ := Aside0.mk (Kd.R_lower (Kd.R_new' ho1 (Kd.R_lt (by (with_reducible repeat (first | apply Kd.R_alloc | apply Kd.R_drewN | apply Kd.R_drew )); exact HO_829002.out))) (keep_size (w := w) (g := g) (row := none) (by repeat ((with_reducible exact HK.out)))))
              have n4_ := Aside0.mk (blk_below (g := gb817) (o := .cells #[.int .i64 0, .slice none 0 0, .slice none 0 0] 25 (0, 0)) (by (with_reducible repeat (first | refine blk_drewN ?_ _ | refine blk_drew ?_ | refine blk_alloc ?_ _ )); exact BK817.out) hb)
              have n5_ := Aside0.mk (blk_below (g := gb828) (o := .cells #[.int .i64 x829000_1, .slice Ao49 x829001_1.length co49, .slice Ao50 x829002_1.length co50] 25 (0, 0)) (by (with_reducible repeat (first | refine blk_drewN ?_ _ | refine blk_drew ?_ | refine blk_alloc ?_ _ )); exact BK828.out) hb)
              have n6_ := Aside0.mk (IsS73.below (by repeat ((with_reducible exact HI0.out))) hb)
              have n7_ := Aside0.mk (KeepBut.trans (by repeat ((with_reducible exact HK.out))) (KeepBut.of_below hb g none) (.inl rfl))
              have n8_ := Aside0.mk (below_step (by repeat ((with_reducible exact HB.out))) hb)
              clear HO_829001
              clear HO_829002
              clear BK817
              clear BK828
              clear HI0
              clear HK
              clear HB
              have HO_829001 := n0_
              have HO_829002 := n1_
              have HO860 := n2_
              have HO863 := n3_
              have BK817 := n4_
              have BK828 := n5_
              have HI0 := n6_
              have HK := n7_
              have HB := n8_
              clear n0_ n1_ n2_ n3_ n4_ n5_ n6_ n7_ n8_
              (try clear hb)
              (try clear hb2)
              (try clear hk)
              (try clear hi)
              (try clear ho0)
              (try clear ho1)
              obtain ⟨Ao53, co53, eo53⟩ := Kd.R_slice HO860.out
              (subst eo53)
              obtain ⟨Ao55, co55, eo55⟩ := Kd.R_slice HO863.out
              (subst eo55)
              refine hK.out _ _ ⟨(blk_cell BK828.out 0).trans rfl, (blk_cell BK828.out 1).trans rfl, (blk_cell BK828.out 2).trans rfl⟩ (fun hHeld => ?_)
              clear hK K
              refine norm_ (a' := ?_) ?_ ?_
              rotate_left
              · show Act.put _ (some 48) _ = _
                simp only [Act.put, List.setIfInBounds_toArray, List.set_cons_zero, List.set_cons_succ, i64_w, i32_w]
                rfl
              refine pure_ (i := 5) (N := some 43) (v := ?_) (a' := ?_) #[true, true, true, true, true, true, false, false, false] rfl rfl (any_of HT_.out (by kernel_rfl)) (fun _ _ _ h => h) (Or.inl ⟨by rfl, ?_⟩) ?_ ?_
              rotate_left
              · intro w'
                go_simp
                with_reducible rfl
              rotate_left
              · simp only [Act.put, List.setIfInBounds_toArray, List.set_cons_zero, List.set_cons_succ, i64_w, i32_w]
                rfl
              refine pure_ (i := 6) (N := some 49) (v := ?_) (a' := ?_) #[true, true, true, true, true, true, true, false, false] rfl rfl (any_of HT_.out (by kernel_rfl)) (fun _ _ _ h => h) (Or.inl ⟨by rfl, ?_⟩) ?_ ?_
              rotate_left
              · intro w'
                go_simp
                with_reducible rfl
              rotate_left
              · simp only [Act.put, List.setIfInBounds_toArray, List.set_cons_zero, List.set_cons_succ, i64_w, i32_w]
                rfl
              refine pure_ (i := 7) (N := some 50) (v := ?_) (a' := ?_) #[true, true, true, true, true, true, true, true, false] rfl rfl (any_of HT_.out (by kernel_rfl)) (fun _ _ _ h => h) (Or.inl ⟨by rfl, ?_⟩) ?_ ?_
              rotate_left
              · intro w'
                go_simp
                with_reducible rfl
              rotate_left
              · simp only [Act.put, List.setIfInBounds_toArray, List.set_cons_zero, List.set_cons_succ, i64_w, i32_w]
                rfl
              refine last_ (i := 8) (N := none) #[true, true, true, true, true, true, true, true, true] rfl rfl (one_of HT_.out (by kernel_rfl)) (by decide) (fun K hK => ?_)
              have hs52 : w51.cell? ⟨gb828, 0, none⟩ = some (.int .i64 x829000_1) := (blk_cell BK828.out 0).trans rfl
              have hfs52 := blk_frozen BK828.out 0
              have hns52_0 := NB817_828.out
              have hms52_0 := NB828_817.out
              have hs54 : w51.cell? ⟨gb828, 1, none⟩ = some (.slice Ao49 x829001_1.length co49) := (blk_cell BK828.out 1).trans rfl
              have hfs54 := blk_frozen BK828.out 1
              have hns54_0 := NB817_828.out
              have hms54_0 := NB828_817.out
              have hs56 : w51.cell? ⟨gb828, 2, none⟩ = some (.slice Ao50 x829002_1.length co50) := (blk_cell BK828.out 2).trans rfl
              have hfs56 := blk_frozen BK828.out 2
              have hns56_0 := NB817_828.out
              have hms56_0 := NB828_817.out
              refine skip_ (w1 := ?_) (by rfl) rfl ?_ ?_
              rotate_left
              · go_simp
                rfl
              refine hK.out _ _ ?_
              clear hK K
              refine done_ (done_of HT_.out (by kernel_rfl)) ?_
              go_wp2
              go_roundg k1
              case measure => have := HK1.out; omega
              case rel => exact ⟨(wrap64 (x4_1 + 1)), (t855), (t856), (t857), (t858), (t861), (.slice Ao53 t858.length co53), (.slice Ao55 t861.length co55), (by rfl), H', ⟨by have := HK1.out; omega⟩, ⟨by (with_reducible repeat (first | apply Kd.R_alloc | apply Kd.R_drewN | apply Kd.R_drew )); exact Kd.R_mono (Kd.R_far (p := ⟨gb828, 2, none⟩) (Kd.R_far (p := ⟨gb828, 1, none⟩) (Kd.R_far (p := ⟨gb828, 0, none⟩) (Kd.R_types HO860.out BK828.out (by decide)) (fun _ hk => hk.2) (.int .i64 t857)) (fun _ hk => hk.2) (.slice Ao53 t858.length co53)) (fun _ hk => hk.2) (.slice Ao55 t861.length co55)) (fun _ hk => trivial)⟩, ⟨by (with_reducible repeat (first | apply Kd.R_alloc | apply Kd.R_drewN | apply Kd.R_drew )); exact Kd.R_mono (Kd.R_far (p := ⟨gb828, 2, none⟩) (Kd.R_far (p := ⟨gb828, 1, none⟩) (Kd.R_far (p := ⟨gb828, 0, none⟩) (Kd.R_types HO863.out BK828.out (by decide)) (fun _ hk => hk.2) (.int .i64 t857)) (fun _ hk => hk.2) (.slice Ao53 t858.length co53)) (fun _ hk => hk.2) (.slice Ao55 t861.length co55)) (fun _ hk => trivial)⟩, ⟨by (with_reducible repeat (first | refine blk_drewN ?_ _ | refine blk_drew ?_ | refine blk_alloc ?_ _ )); refine blk_far ?_ NB817_828.out _; (with_reducible repeat (first | refine blk_drewN ?_ _ | refine blk_drew ?_ | refine blk_alloc ?_ _ )); refine blk_far ?_ NB817_828.out _; (with_reducible repeat (first | refine blk_drewN ?_ _ | refine blk_drew ?_ | refine blk_alloc ?_ _ )); refine blk_far ?_ NB817_828.out _; (with_reducible repeat (first | refine blk_drewN ?_ _ | refine blk_drew ?_ | refine blk_alloc ?_ _ )); exact BK817.out⟩, ⟨by (with_reducible repeat (first | refine blk_drewN ?_ _ | refine blk_drew ?_ | refine blk_alloc ?_ _ )); refine blk_put (cs := #[.int .i64 t857, .slice Ao53 t858.length co53, .slice Ao50 x829002_1.length co50]) ?_ 2 _ rfl; (with_reducible repeat (first | refine blk_drewN ?_ _ | refine blk_drew ?_ | refine blk_alloc ?_ _ )); refine blk_put (cs := #[.int .i64 t857, .slice Ao49 x829001_1.length co49, .slice Ao50 x829002_1.length co50]) ?_ 1 _ rfl; (with_reducible repeat (first | refine blk_drewN ?_ _ | refine blk_drew ?_ | refine blk_alloc ?_ _ )); refine blk_put (cs := #[.int .i64 x829000_1, .slice Ao49 x829001_1.length co49, .slice Ao50 x829002_1.length co50]) ?_ 0 _ rfl; (with_reducible repeat (first | refine blk_drewN ?_ _ | refine blk_drew ?_ | refine blk_alloc ?_ _ )); exact BK828.out⟩, ⟨by repeat ((with_reducible first | exact HI0.out | refine IsS73.far ?_ NB0_828.out _))⟩, ⟨by repeat ((with_reducible first | exact HK.out | refine keep_far ?_ GW828.out _))⟩, ⟨by repeat ((with_reducible first | exact HB.out | refine below_set ?_ GE828.out))⟩⟩
            · rw [if_neg c44] at H
              have c44b0 : (t835 == 2) = false := beq_eq_false_iff_ne.mpr c44
              have c44b1 : (t835 != 2) = true := bne_iff_ne.mpr c44
              by_cases c57 : t835 = 3
              · rw [if_pos c57] at H
                have c57b0 : (t835 == 3) = true := beq_iff_eq.mpr c57
                have c57b1 : (t835 != 3) = false := bne_eq_false_iff_eq.mpr c57
                clear c57
                replace H := Option.bind_eq_some_iff.mp H
                obtain ⟨⟨t865, t866, t869, t872⟩, A580, H⟩ := H
                replace H : (spec_l08Epochs.l0 k1 (wrap64 (x4_1 + 1)) s0_0 t836 t837 t865 t866 t869) = some (r1, r2, r3, r4, r5) := H
                have A58 := Aside0.mk A580
                clear A580
                have H' := Aside0.mk H
                clear H
                have hnb59 := NB828_817.out
                have hnc59 := NB817_828.out
                have hnb60 := NB828_0.out
                have hnc60 := NB0_828.out
                have hcz61_0 : w21.cell? ⟨gb828, 0, none⟩ = some (.int .i64 x829000_1) := (blk_cell BK828.out 0).trans rfl
                have hcz61_1 : w21.cell? ⟨gb828, 1, none⟩ = some (u829001) := (blk_cell BK828.out 1).trans rfl
                have hcz61_2 : w21.cell? ⟨gb828, 2, none⟩ = some (u829002) := (blk_cell BK828.out 2).trans rfl
                have hfz61_0 := blk_frozen BK828.out 0
                have hfz61_1 := blk_frozen BK828.out 1
                have hfz61_2 := blk_frozen BK828.out 2
                obtain ⟨Ao62, co62, eo62⟩ := Kd.R_slice HO_829001.out
                subst eo62
                obtain ⟨Ao63, co63, eo63⟩ := Kd.R_slice HO_829002.out
                subst eo63
                go_wp2_with (((with_reducible refine gate_callee (f := 31) rfl ?_); refine goesL_ (some 55) rfl rfl Try.func31 (by kernel_rfl) rfl #[.agg #[.int .i64 x829000_1, .slice Ao62 x829001_1.length co62, .slice Ao63 x829002_1.length co63]] rfl (by (try simp only [List.map_toArray, List.map_cons, List.map_nil]); rfl) ?_; (with_reducible refine (spec_AdvanceEpoch.calls k1 x829000_1 _ _ x829001_1 _ _ x829002_1 t865 t866 t869 t872 _ ?side1 ?side2 ?side3 ?side4 A58.out).mono ?_); (case side1 => repeat (exact (Kd.R_reads' HO_829001.out).2.2)); (case side2 => exact (Kd.R_reads' HO_829001.out).2.1); (case side3 => repeat (exact (Kd.R_reads' HO_829002.out).2.2)); (case side4 => exact (Kd.R_reads' HO_829002.out).2.1); rintro e w64 ⟨v867, v870, rfl, ho0, ho1, hb⟩; refine ⟨_, rfl, ?_⟩; have n0_ := Aside0.mk (Kd.R_elder' (by (with_reducible repeat (first | apply Kd.R_alloc | apply Kd.R_drewN | apply Kd.R_drew )); exact HO_829001.out) (Kd.R_base ho0) hb); have n1_ := Aside0.mk (Kd.R_elder' (by (with_reducible repeat (first | apply Kd.R_alloc | apply Kd.R_drewN | apply Kd.R_drew )); exact HO_829002.out) (Kd.R_base ho1) hb); have n2_ := Aside0.mk (Kd.R_lower (Kd.R_new' ho0 (Kd.R_lt (by (with_reducible repeat (first | apply Kd.R_alloc | apply Kd.R_drewN | apply Kd.R_drew )); exact HO_829001.out))) (keep_size (w := w) (g := g) (row := none) (by repeat ((with_reducible exact HK.out))))); have n3_ := Aside0.mk (Kd.R_lower (Kd.R_new' ho1 (Kd.R_lt (by (with_reducible repeat (first | apply Kd.R_alloc | apply Kd.R_drewN | apply Kd.R_drew )); exact HO_829002.out))) (keep_size (w := w) (g := g) (row := none) (by repeat ((with_reducible exact HK.out))))); have n4_ := Aside0.mk (blk_below (g := gb817) (o := .cells #[.int .i64 0, .slice none 0 0, .slice none 0 0] 25 (0, 0)) (by (with_reducible repeat (first | refine blk_drewN ?_ _ | refine blk_drew ?_ | refine blk_alloc ?_ _ )); exact BK817.out) hb); have n5_ := Aside0.mk (blk_below (g := gb828) (o := .cells #[.int .i64 x829000_1, .slice Ao62 x829001_1.length co62, .slice Ao63 x829002_1.length co63] 25 (0, 0)) (by (with_reducible repeat (first | refine blk_drewN ?_ _ | refine blk_drew ?_ | refine blk_alloc ?_ _ )); exact BK828.out) hb); have n6_ := Aside0.mk (IsS73.below (by repeat ((with_reducible exact HI0.out))) hb); have n7_ := Aside0.mk (KeepBut.trans (by repeat ((with_reducible exact HK.out))) (KeepBut.of_below hb g none) (.inl rfl)); have n8_ := Aside0.mk (below_step (by repeat ((with_reducible exact HB.out))) hb); clear HO_829001; clear HO_829002; clear BK817; clear BK828; clear HI0; clear HK; clear HB; have HO_829001 := n0_; have HO_829002 := n1_; have HO868 := n2_; have HO871 := n3_; have BK817 := n4_; have BK828 := n5_; have HI0 := n6_; have HK := n7_; have HB := n8_; clear n0_ n1_ n2_ n3_ n4_ n5_ n6_ n7_ n8_; (try clear hb); (try clear hb2); (try clear hk); (try clear hi); (try clear ho0); (try clear ho1); have hcz65_0 : w64.cell? ⟨gb828, 0, none⟩ = some (.int .i64 x829000_1) := (blk_cell BK828.out 0).trans rfl; have hcz65_1 : w64.cell? ⟨gb828, 1, none⟩ = some (.slice Ao62 x829001_1.length co62) := (blk_cell BK828.out 1).trans rfl; have hcz65_2 : w64.cell? ⟨gb828, 2, none⟩ = some (.slice Ao63 x829002_1.length co63) := (blk_cell BK828.out 2).trans rfl; have hfz65_0 := blk_frozen BK828.out 0; have hfz65_1 := blk_frozen BK828.out 1; have hfz65_2 := blk_frozen BK828.out 2; obtain ⟨Ao66, co66, eo66⟩ := Kd.R_slice HO868.out; subst eo66; obtain ⟨Ao67, co67, eo67⟩ := Kd.R_slice HO871.out; subst eo67))
                go_roundg k1
                case measure => have := HK1.out; omega
                case rel => exact ⟨(wrap64 (x4_1 + 1)), (t836), (t837), (t865), (t866), (t869), (.slice Ao66 t866.length co66), (.slice Ao67 t869.length co67), (by rfl), H', ⟨by have := HK1.out; omega⟩, ⟨by (with_reducible repeat (first | apply Kd.R_alloc | apply Kd.R_drewN | apply Kd.R_drew )); exact Kd.R_mono (Kd.R_far (p := ⟨gb828, 2, none⟩) (Kd.R_far (p := ⟨gb828, 1, none⟩) (Kd.R_far (p := ⟨gb828, 0, none⟩) (Kd.R_types HO868.out BK828.out (by decide)) (fun _ hk => hk.2) (.int .i64 t865)) (fun _ hk => hk.2) (.slice Ao66 t866.length co66)) (fun _ hk => hk.2) (.slice Ao67 t869.length co67)) (fun _ hk => trivial)⟩, ⟨by (with_reducible repeat (first | apply Kd.R_alloc | apply Kd.R_drewN | apply Kd.R_drew )); exact Kd.R_mono (Kd.R_far (p := ⟨gb828, 2, none⟩) (Kd.R_far (p := ⟨gb828, 1, none⟩) (Kd.R_far (p := ⟨gb828, 0, none⟩) (Kd.R_types HO871.out BK828.out (by decide)) (fun _ hk => hk.2) (.int .i64 t865)) (fun _ hk => hk.2) (.slice Ao66 t866.length co66)) (fun _ hk => hk.2) (.slice Ao67 t869.length co67)) (fun _ hk => trivial)⟩, ⟨by (with_reducible repeat (first | refine blk_drewN ?_ _ | refine blk_drew ?_ | refine blk_alloc ?_ _ )); refine blk_far ?_ NB817_828.out _; (with_reducible repeat (first | refine blk_drewN ?_ _ | refine blk_drew ?_ | refine blk_alloc ?_ _ )); refine blk_far ?_ NB817_828.out _; (with_reducible repeat (first | refine blk_drewN ?_ _ | refine blk_drew ?_ | refine blk_alloc ?_ _ )); refine blk_far ?_ NB817_828.out _; (with_reducible repeat (first | refine blk_drewN ?_ _ | refine blk_drew ?_ | refine blk_alloc ?_ _ )); exact BK817.out⟩, ⟨by (with_reducible repeat (first | refine blk_drewN ?_ _ | refine blk_drew ?_ | refine blk_alloc ?_ _ )); refine blk_put (cs := #[.int .i64 t865, .slice Ao66 t866.length co66, .slice Ao63 x829002_1.length co63]) ?_ 2 _ rfl; (with_reducible repeat (first | refine blk_drewN ?_ _ | refine blk_drew ?_ | refine blk_alloc ?_ _ )); refine blk_put (cs := #[.int .i64 t865, .slice Ao62 x829001_1.length co62, .slice Ao63 x829002_1.length co63]) ?_ 1 _ rfl; (with_reducible repeat (first | refine blk_drewN ?_ _ | refine blk_drew ?_ | refine blk_alloc ?_ _ )); refine blk_put (cs := #[.int .i64 x829000_1, .slice Ao62 x829001_1.length co62, .slice Ao63 x829002_1.length co63]) ?_ 0 _ rfl; (with_reducible repeat (first | refine blk_drewN ?_ _ | refine blk_drew ?_ | refine blk_alloc ?_ _ )); exact BK828.out⟩, ⟨by repeat ((with_reducible first | exact HI0.out | refine IsS73.far ?_ NB0_828.out _))⟩, ⟨by repeat ((with_reducible first | exact HK.out | refine keep_far ?_ GW828.out _))⟩, ⟨by repeat ((with_reducible first | exact HB.out | refine below_set ?_ GE828.out))⟩⟩
              · rw [if_neg c57] at H
                have c57b0 : (t835 == 3) = false := beq_eq_false_iff_ne.mpr c57
                have c57b1 : (t835 != 3) = true := bne_iff_ne.mpr c57
                replace H := Option.bind_eq_some_iff.mp H
                obtain ⟨⟨t873, t874, t877, t880⟩, A680, H⟩ := H
                replace H : (spec_l08Epochs.l0 k1 (wrap64 (x4_1 + 1)) s0_0 t836 t837 t873 t874 t877) = some (r1, r2, r3, r4, r5) := H
                have A68 := Aside0.mk A680
                clear A680
                have H' := Aside0.mk H
                clear H
                have hnb69 := NB828_817.out
                have hnc69 := NB817_828.out
                have hnb70 := NB828_0.out
                have hnc70 := NB0_828.out
                have hcz71_0 : w21.cell? ⟨gb828, 0, none⟩ = some (.int .i64 x829000_1) := (blk_cell BK828.out 0).trans rfl
                have hcz71_1 : w21.cell? ⟨gb828, 1, none⟩ = some (u829001) := (blk_cell BK828.out 1).trans rfl
                have hcz71_2 : w21.cell? ⟨gb828, 2, none⟩ = some (u829002) := (blk_cell BK828.out 2).trans rfl
                have hfz71_0 := blk_frozen BK828.out 0
                have hfz71_1 := blk_frozen BK828.out 1
                have hfz71_2 := blk_frozen BK828.out 2
                obtain ⟨Ao72, co72, eo72⟩ := Kd.R_slice HO_829001.out
                subst eo72
                obtain ⟨Ao73, co73, eo73⟩ := Kd.R_slice HO_829002.out
                subst eo73
                go_wp2_with (((with_reducible refine gate_callee (f := 26) rfl ?_); refine goesL_ (some 22) rfl rfl Try.func26 (by kernel_rfl) rfl #[.agg #[.int .i64 x829000_1, .slice Ao72 x829001_1.length co72, .slice Ao73 x829002_1.length co73]] rfl (by (try simp only [List.map_toArray, List.map_cons, List.map_nil]); rfl) ?_; (with_reducible refine (spec_FreeNodes.calls k1 x829000_1 _ _ x829001_1 _ _ x829002_1 t873 t874 t877 t880 _ ?side1 ?side2 ?side3 ?side4 A68.out).mono ?_); (case side1 => repeat (exact (Kd.R_reads' HO_829001.out).2.2)); (case side2 => exact (Kd.R_reads' HO_829001.out).2.1); (case side3 => repeat (exact (Kd.R_reads' HO_829002.out).2.2)); (case side4 => exact (Kd.R_reads' HO_829002.out).2.1); rintro e w74 ⟨v875, v878, v881, rfl, ho0, ho1, ho2, hb⟩; refine ⟨_, rfl, ?_⟩; have n0_ := Aside0.mk (Kd.R_mono (Kd.R_told (Kd.R_told (Kd.R_old (by (with_reducible repeat (first | apply Kd.R_alloc | apply Kd.R_drewN | apply Kd.R_drew )); exact HO_829001.out) hb) (Kd.R_base ho0)) (Kd.R_base ho2)) (fun _ h_ => h_.1)); have n1_ := Aside0.mk (Kd.R_elder' (by (with_reducible repeat (first | apply Kd.R_alloc | apply Kd.R_drewN | apply Kd.R_drew )); exact HO_829002.out) (Kd.R_base ho1) hb); have n2_ := Aside0.mk (Kd.R_lower (Kd.R_new' ho0 (Kd.R_lt (by (with_reducible repeat (first | apply Kd.R_alloc | apply Kd.R_drewN | apply Kd.R_drew )); exact HO_829001.out))) (keep_size (w := w) (g := g) (row := none) (by repeat ((with_reducible exact HK.out))))); have n3_ := Aside0.mk (Kd.R_lower (Kd.R_new' ho1 (Kd.R_lt (by (with_reducible repeat (first | apply Kd.R_alloc | apply Kd.R_drewN | apply Kd.R_drew )); exact HO_829002.out))) (keep_size (w := w) (g := g) (row := none) (by repeat ((with_reducible exact HK.out))))); have n4_ := Aside0.mk (Kd.R_lower (Kd.R_new' ho2 (Kd.R_lt (by (with_reducible repeat (first | apply Kd.R_alloc | apply Kd.R_drewN | apply Kd.R_drew )); exact HO_829001.out))) (keep_size (w := w) (g := g) (row := none) (by repeat ((with_reducible exact HK.out))))); have n5_ := Aside0.mk (blk_below (g := gb817) (o := .cells #[.int .i64 0, .slice none 0 0, .slice none 0 0] 25 (0, 0)) (by (with_reducible repeat (first | refine blk_drewN ?_ _ | refine blk_drew ?_ | refine blk_alloc ?_ _ )); exact BK817.out) hb); have n6_ := Aside0.mk (blk_below (g := gb828) (o := .cells #[.int .i64 x829000_1, .slice Ao72 x829001_1.length co72, .slice Ao73 x829002_1.length co73] 25 (0, 0)) (by (with_reducible repeat (first | refine blk_drewN ?_ _ | refine blk_drew ?_ | refine blk_alloc ?_ _ )); exact BK828.out) hb); have n7_ := Aside0.mk (IsS73.below (by repeat ((with_reducible exact HI0.out))) hb); have n8_ := Aside0.mk (KeepBut.trans (by repeat ((with_reducible exact HK.out))) (KeepBut.of_below hb g none) (.inl rfl)); have n9_ := Aside0.mk (below_step (by repeat ((with_reducible exact HB.out))) hb); clear HO_829001; clear HO_829002; clear BK817; clear BK828; clear HI0; clear HK; clear HB; have HO_829001 := n0_; have HO_829002 := n1_; have HO876 := n2_; have HO879 := n3_; have HO882 := n4_; have BK817 := n5_; have BK828 := n6_; have HI0 := n7_; have HK := n8_; have HB := n9_; clear n0_ n1_ n2_ n3_ n4_ n5_ n6_ n7_ n8_ n9_; (try clear hb); (try clear hb2); (try clear hk); (try clear hi); (try clear ho0); (try clear ho1); (try clear ho2); have hcz75_0 : w74.cell? ⟨gb828, 0, none⟩ = some (.int .i64 x829000_1) := (blk_cell BK828.out 0).trans rfl; have hcz75_1 : w74.cell? ⟨gb828, 1, none⟩ = some (.slice Ao72 x829001_1.length co72) := (blk_cell BK828.out 1).trans rfl; have hcz75_2 : w74.cell? ⟨gb828, 2, none⟩ = some (.slice Ao73 x829002_1.length co73) := (blk_cell BK828.out 2).trans rfl; have hfz75_0 := blk_frozen BK828.out 0; have hfz75_1 := blk_frozen BK828.out 1; have hfz75_2 := blk_frozen BK828.out 2; obtain ⟨Ao76, co76, eo76⟩ := Kd.R_slice HO876.out; subst eo76; obtain ⟨Ao77, co77, eo77⟩ := Kd.R_slice HO879.out; subst eo77))
                go_roundg k1
                case measure => have := HK1.out; omega
                case rel => exact ⟨(wrap64 (x4_1 + 1)), (t836), (t837), (t873), (t874), (t877), (.slice Ao76 t874.length co76), (.slice Ao77 t877.length co77), (by rfl), H', ⟨by have := HK1.out; omega⟩, ⟨by (with_reducible repeat (first | apply Kd.R_alloc | apply Kd.R_drewN | apply Kd.R_drew )); exact Kd.R_mono (Kd.R_far (p := ⟨gb828, 2, none⟩) (Kd.R_far (p := ⟨gb828, 1, none⟩) (Kd.R_far (p := ⟨gb828, 0, none⟩) (Kd.R_types HO876.out BK828.out (by decide)) (fun _ hk => hk.2) (.int .i64 t873)) (fun _ hk => hk.2) (.slice Ao76 t874.length co76)) (fun _ hk => hk.2) (.slice Ao77 t877.length co77)) (fun _ hk => trivial)⟩, ⟨by (with_reducible repeat (first | apply Kd.R_alloc | apply Kd.R_drewN | apply Kd.R_drew )); exact Kd.R_mono (Kd.R_far (p := ⟨gb828, 2, none⟩) (Kd.R_far (p := ⟨gb828, 1, none⟩) (Kd.R_far (p := ⟨gb828, 0, none⟩) (Kd.R_types HO879.out BK828.out (by decide)) (fun _ hk => hk.2) (.int .i64 t873)) (fun _ hk => hk.2) (.slice Ao76 t874.length co76)) (fun _ hk => hk.2) (.slice Ao77 t877.length co77)) (fun _ hk => trivial)⟩, ⟨by (with_reducible repeat (first | refine blk_drewN ?_ _ | refine blk_drew ?_ | refine blk_alloc ?_ _ )); refine blk_far ?_ NB817_828.out _; (with_reducible repeat (first | refine blk_drewN ?_ _ | refine blk_drew ?_ | refine blk_alloc ?_ _ )); refine blk_far ?_ NB817_828.out _; (with_reducible repeat (first | refine blk_drewN ?_ _ | refine blk_drew ?_ | refine blk_alloc ?_ _ )); refine blk_far ?_ NB817_828.out _; (with_reducible repeat (first | refine blk_drewN ?_ _ | refine blk_drew ?_ | refine blk_alloc ?_ _ )); exact BK817.out⟩, ⟨by (with_reducible repeat (first | refine blk_drewN ?_ _ | refine blk_drew ?_ | refine blk_alloc ?_ _ )); refine blk_put (cs := #[.int .i64 t873, .slice Ao76 t874.length co76, .slice Ao73 x829002_1.length co73]) ?_ 2 _ rfl; (with_reducible repeat (first | refine blk_drewN ?_ _ | refine blk_drew ?_ | refine blk_alloc ?_ _ )); refine blk_put (cs := #[.int .i64 t873, .slice Ao72 x829001_1.length co72, .slice Ao73 x829002_1.length co73]) ?_ 1 _ rfl; (with_reducible repeat (first | refine blk_drewN ?_ _ | refine blk_drew ?_ | refine blk_alloc ?_ _ )); refine blk_put (cs := #[.int .i64 x829000_1, .slice Ao72 x829001_1.length co72, .slice Ao73 x829002_1.length co73]) ?_ 0 _ rfl; (with_reducible repeat (first | refine blk_drewN ?_ _ | refine blk_drew ?_ | refine blk_alloc ?_ _ )); exact BK828.out⟩, ⟨by repeat ((with_reducible first | exact HI0.out | refine IsS73.far ?_ NB0_828.out _))⟩, ⟨by repeat ((with_reducible first | exact HK.out | refine keep_far ?_ GW828.out _))⟩, ⟨by repeat ((with_reducible first | exact HB.out | refine below_set ?_ GE828.out))⟩⟩
      · rw [if_neg c16] at H
        have c16b0 : decide (x4_1 < t829) = false := decide_eq_false c16
        clear c16
        (rw [c16b0])
        simp only [Option.some.injEq, Prod.mk.injEq] at H
        obtain ⟨rfl, rfl, rfl, rfl, rfl⟩ := H
        have hnb78 := NB828_817.out
        have hnc78 := NB817_828.out
        have hnb79 := NB828_0.out
        have hnc79 := NB0_828.out
        have hcz80_0 : w15.cell? ⟨gb828, 0, none⟩ = some (.int .i64 x829000_1) := (blk_cell BK828.out 0).trans rfl
        have hcz80_1 : w15.cell? ⟨gb828, 1, none⟩ = some (u829001) := (blk_cell BK828.out 1).trans rfl
        have hcz80_2 : w15.cell? ⟨gb828, 2, none⟩ = some (u829002) := (blk_cell BK828.out 2).trans rfl
        have hfz80_0 := blk_frozen BK828.out 0
        have hfz80_1 := blk_frozen BK828.out 1
        have hfz80_2 := blk_frozen BK828.out 2
        have hnb81 := NB817_0.out
        have hnc81 := NB0_817.out
        have hcz82_0 : w15.cell? ⟨gb817, 0, none⟩ = some (.int .i64 0) := (blk_cell BK817.out 0).trans rfl
        have hcz82_1 : w15.cell? ⟨gb817, 1, none⟩ = some (.slice none 0 0) := (blk_cell BK817.out 1).trans rfl
        have hcz82_2 : w15.cell? ⟨gb817, 2, none⟩ = some (.slice none 0 0) := (blk_cell BK817.out 2).trans rfl
        have hfz82_0 := blk_frozen BK817.out 0
        have hfz82_1 := blk_frozen BK817.out 1
        have hfz82_2 := blk_frozen BK817.out 2
        obtain ⟨Ao83, co83, eo83⟩ := Kd.R_slice HO_829001.out
        subst eo83
        obtain ⟨Ao84, co84, eo84⟩ := Kd.R_slice HO_829002.out
        subst eo84
        go_wp2
        refine bodyPost_ret (results_cell_row rfl _ _ gb817 25 #[.int .i64 x829000_1, .slice Ao83 x829001_1.length co83, .slice Ao84 x829002_1.length co84] (0, 0) _ rfl (by (with_reducible repeat (first | refine blk_drewN ?_ _ | refine blk_drew ?_ | refine blk_alloc ?_ _ )); refine blk_put (cs := #[.int .i64 x829000_1, .slice Ao83 x829001_1.length co83, .slice none 0 0]) ?_ 2 _ rfl; (with_reducible repeat (first | refine blk_drewN ?_ _ | refine blk_drew ?_ | refine blk_alloc ?_ _ )); refine blk_put (cs := #[.int .i64 x829000_1, .slice none 0 0, .slice none 0 0]) ?_ 1 _ rfl; (with_reducible repeat (first | refine blk_drewN ?_ _ | refine blk_drew ?_ | refine blk_alloc ?_ _ )); refine blk_put (cs := #[.int .i64 0, .slice none 0 0, .slice none 0 0]) ?_ 0 _ rfl; (with_reducible repeat (first | refine blk_drewN ?_ _ | refine blk_drew ?_ | refine blk_alloc ?_ _ )); exact BK817.out) Try.underlying25 rfl (by kernel_rfl)) rfl ?_
        exact ⟨_, _, by rfl, by (with_reducible repeat (first | apply Kd.R_alloc | apply Kd.R_drewN | apply Kd.R_drew )); exact Kd.R_mono (Kd.R_far (p := ⟨gb817, 2, none⟩) (Kd.R_far (p := ⟨gb817, 1, none⟩) (Kd.R_far (p := ⟨gb817, 0, none⟩) (Kd.R_types HO_829001.out BK817.out (by decide)) (fun _ hk => hk.2) (.int .i64 x829000_1)) (fun _ hk => hk.2) (.slice Ao83 x829001_1.length co83)) (fun _ hk => hk.2) (.slice Ao84 x829002_1.length co84)) (fun _ hk => trivial), by (with_reducible repeat (first | apply Kd.R_alloc | apply Kd.R_drewN | apply Kd.R_drew )); exact Kd.R_mono (Kd.R_far (p := ⟨gb817, 2, none⟩) (Kd.R_far (p := ⟨gb817, 1, none⟩) (Kd.R_far (p := ⟨gb817, 0, none⟩) (Kd.R_types HO_829002.out BK817.out (by decide)) (fun _ hk => hk.2) (.int .i64 x829000_1)) (fun _ hk => hk.2) (.slice Ao83 x829001_1.length co83)) (fun _ hk => hk.2) (.slice Ao84 x829002_1.length co84)) (fun _ hk => trivial), by repeat ((with_reducible first | exact HI0.out | refine IsS73.far ?_ NB0_817.out _)), by repeat ((with_reducible first | exact HB.out | refine below_set ?_ GE817.out)), by repeat ((with_reducible first | exact HK.out | refine keep_far ?_ GW817.out _))⟩
def spec_l01New.l0 : Nat → List Int → Int → Int → Option (List Int × Int × Int)
  | 0, _, _, _ => none
  | k + 1, x0, x3, x4 => if x4 < (x0.length : Int) then (if x4 < 4000 then (if 0 ≤ x4 then (spec_l01New.l0 k x0 (Go.bits .and .i64 (wrap64 ((wrap64 ((wrap64 (x3 * 131)) + (wrap64 (rd x0 x4)))) + 7)) 1073741823) (wrap64 (x4 + 1))) else (none)) else (some (x0, 0, x3))) else (some (x0, 0, x3))
def spec_l01New.f (k : Nat) (l0 : List Int) : Option (List Int × Int × Int) := spec_l01New.l0 k l0 (wrap64 (34901 + (l0.length : Int))) 0
set_option maxHeartbeats 8000000 in
set_option maxRecDepth 100000 in
theorem spec_l01New.calls (k : Nat) (A0 : Option Addr) (c0 : Nat) (l0 : List Int) (r1 : List Int) (r2 : Int) (r3 : Int) (w0 w : World) (hB : Below w0.heap.size w0 w) (hr0 : Kd.C (Kd.int .u8) w0 A0 l0.length l0) (hc0 : l0.length ≤ c0) (h : spec_l01New.f k l0 = some (r1, r2, r3)) :
    Calls Try.prog 59 #[.slice A0 l0.length c0] w fun e w' => ∃ g_ : Nat, e = .returned (.pointer (some ⟨g_, 0, none⟩)) ∧ IsS73 w0 w' g_ r1 r2 r3 ∧ Below w0.heap.size w0 w' ∧ Below w.heap.size w w' := by
  have hu73 := Try.underlying73
  have HR0 := Aside0.mk hr0
  have HC0 := Aside0.mk hc0
  clear hr0 hc0
  have HBW := Aside0.mk (Below.refl w.heap.size w)
  have HW0 := Aside0.mk hB.size
  have HB := Aside0.mk hB
  clear hB
  have H : (spec_l01New.l0 k l0 (wrap64 (34901 + (l0.length : Int))) 0) = some (r1, r2, r3) := h
  clear h
  have H' := Aside0.mk H
  clear H
  go_enter Try.func59, Try.ntmps59
  go_wp2
  go_loopg [3, 4] k (fun kq v3 v4 w' => ∃ (x3_1 : Int) (x4_1 : Int), v3 = .int .i64 x3_1 ∧ v4 = .int .i64 x4_1 ∧ Aside0 (spec_l01New.l0 kq l0 x3_1 x4_1 = some (r1, r2, r3)) ∧ Aside0 (kq ≤ k) ∧ Aside0 (Below w0.heap.size w0 w') ∧ Aside0 (Below w.heap.size w w'))
  case atStart => exact ⟨(wrap64 (34901 + (l0.length : Int))), (0), (by rfl), (by rfl), H', ⟨Nat.le_refl _⟩, ⟨by repeat ((with_reducible exact HB.out))⟩, ⟨by repeat ((with_reducible exact HBW.out))⟩⟩
  case round =>
    clear H'
    obtain ⟨x3_1, x4_1, rfl, rfl, HA, HK1, HB, HBW⟩ := hrel
    cases gk with
    | zero => exact absurd HA.out (by simp [spec_l01New.l0])
    | succ k1 =>
      have H := HA.out
      clear HA
      simp only [spec_l01New.l0] at H
      by_cases c2 : x4_1 < (l0.length : Int)
      rotate_left
      · rw [if_neg c2] at H
        have c2b0 : decide (x4_1 < (l0.length : Int)) = false := decide_eq_false c2
        clear c2
        simp only [Option.some.injEq, Prod.mk.injEq] at H
        obtain ⟨rfl, rfl, rfl⟩ := H
        go_wp2_with (((with_reducible refine gate_dst (N := 31) rfl ?_); refine box_event ?hg (N := 31) ?hd (cs := #[.slice A0 l0.length c0, .int .i64 0, .int .i64 x3_1]) (t := 73) ?hr ?_; (case hd => rfl); (case hg => rfl); (case hr => (go_simp; done)); intro gb885 hg w6 hbox hb; have n0_ := Aside0.mk (below_step HBW.out hb); have n1_ := Aside0.mk (below_step (by repeat ((with_reducible exact HB.out))) hb); have n2_ := Aside0.mk (hbox); have n3_ := Aside0.mk ((by rw [hg]; exact (below_size (by repeat ((with_reducible exact HBW.out)))) : w.heap.size ≤ gb885)); have n4_ := Aside0.mk ((Nat.le_trans HW0.out (by rw [hg]; exact (below_size (by repeat ((with_reducible exact HBW.out)))) : w.heap.size ≤ gb885) : w0.heap.size ≤ gb885)); clear HBW; clear HB; have HBW := n0_; have HB := n1_; have BK885 := n2_; have GW885 := n3_; have GE885 := n4_; clear n0_ n1_ n2_ n3_ n4_; clear hb hbox hg))
        go_ret
        exact ⟨_, rfl, (show IsS73 w0 _ gb885 l0 0 x3_1 from ⟨_, _, by (with_reducible repeat (first | refine blk_drewN ?_ _ | refine blk_drew ?_ | refine blk_alloc ?_ _ )); exact BK885.out, GE885.out, HR0.out⟩), by repeat ((with_reducible exact HB.out)), by repeat ((with_reducible exact HBW.out))⟩

      rw [if_pos c2] at H
      have c2b0 : decide (x4_1 < (l0.length : Int)) = true := decide_eq_true c2
      clear c2
      by_cases c3 : x4_1 < 4000
      rotate_left
      · rw [if_neg c3] at H
        have c3b0 : decide (x4_1 < 4000) = false := decide_eq_false c3
        clear c3
        simp only [Option.some.injEq, Prod.mk.injEq] at H
        obtain ⟨rfl, rfl, rfl⟩ := H
        go_wp2_with (((with_reducible refine gate_dst (N := 31) rfl ?_); refine box_event ?hg (N := 31) ?hd (cs := #[.slice A0 l0.length c0, .int .i64 0, .int .i64 x3_1]) (t := 73) ?hr ?_; (case hd => rfl); (case hg => rfl); (case hr => (go_simp; done)); intro gb884 hg w5 hbox hb; have n0_ := Aside0.mk (below_step HBW.out hb); have n1_ := Aside0.mk (below_step (by repeat ((with_reducible exact HB.out))) hb); have n2_ := Aside0.mk (hbox); have n3_ := Aside0.mk ((by rw [hg]; exact (below_size (by repeat ((with_reducible exact HBW.out)))) : w.heap.size ≤ gb884)); have n4_ := Aside0.mk ((Nat.le_trans HW0.out (by rw [hg]; exact (below_size (by repeat ((with_reducible exact HBW.out)))) : w.heap.size ≤ gb884) : w0.heap.size ≤ gb884)); clear HBW; clear HB; have HBW := n0_; have HB := n1_; have BK884 := n2_; have GW884 := n3_; have GE884 := n4_; clear n0_ n1_ n2_ n3_ n4_; clear hb hbox hg))
        go_ret
        exact ⟨_, rfl, (show IsS73 w0 _ gb884 l0 0 x3_1 from ⟨_, _, by (with_reducible repeat (first | refine blk_drewN ?_ _ | refine blk_drew ?_ | refine blk_alloc ?_ _ )); exact BK884.out, GE884.out, HR0.out⟩), by repeat ((with_reducible exact HB.out)), by repeat ((with_reducible exact HBW.out))⟩
      rw [if_pos c3] at H
      have c3b0 : decide (x4_1 < 4000) = true := decide_eq_true c3
      clear c3
      by_cases c4 : 0 ≤ x4_1
      rotate_left
      · rw [if_neg c4] at H
        exact absurd H (by simp)
      rw [if_pos c4] at H
      have c4b0 : decide (0 ≤ x4_1) = true := decide_eq_true c4
      clear c4
      have H' := Aside0.mk H
      clear H
      have p883 : 0 ≤ (x4_1 : Int) := of_decide_eq_true (by (with_reducible assumption))
      have q883 : x4_1 < (l0.length : Int) := of_decide_eq_true (by (with_reducible assumption))
      obtain ⟨ad883, e883, hx883_0⟩ := Kd.at_int HR0.out x4_1 p883 q883
      cases e883
      replace hx883_0 := pw_cell_below HB.out hx883_0
      replace p883 := eq_true p883
      replace q883 := eq_true q883
      go_wp2
      go_roundg k1
      case measure => have := HK1.out; omega
      case rel => exact ⟨(Go.bits .and .i64 (wrap64 ((wrap64 ((wrap64 (x3_1 * 131)) + (wrap64 (rd l0 x4_1)))) + 7)) 1073741823), (wrap64 (x4_1 + 1)), (by rfl), (by rfl), H', ⟨by have := HK1.out; omega⟩, ⟨by repeat ((with_reducible exact HB.out))⟩, ⟨by repeat ((with_reducible exact HBW.out))⟩⟩
def spec_l01Once.f (s0_0 : List Int) (s0_1 : Int) (s0_2 : Int) (a1 : Int) : Option (Bool × Int × Int) := (spec_l01Below.f s0_0 s0_1 s0_2 a1).bind fun bt1054 => (some ((bt1054.1 == 0), bt1054.2.1, bt1054.2.2))
set_option maxHeartbeats 8000000 in
set_option maxRecDepth 100000 in
theorem spec_l01Once.calls (g : Nat) (s0_0 : List Int) (s0_1 : Int) (s0_2 : Int) (a1 : Int) (r1 : Bool) (r2 : Int) (r3 : Int) (w0 w : World) (hI : IsS73 w0 w g s0_0 s0_1 s0_2) (hB : Below w0.heap.size w0 w) (h : spec_l01Once.f s0_0 s0_1 s0_2 a1 = some (r1, r2, r3)) :
    Calls Try.prog 69 #[.pointer (some ⟨g, 0, none⟩), .int .i64 a1] w fun e w' => e = .returned (.bool r1) ∧ IsS73 w0 w' g s0_0 r2 r3 ∧ Below w0.heap.size w0 w' ∧ KeepBut w w' g none := by
  have HI0 := Aside0.mk hI
  have HK := Aside0.mk (KeepBut.refl w g none)
  have HL := Aside0.mk hB.size
  clear hI
  have HW0 := Aside0.mk hB.size
  have HB := Aside0.mk hB
  clear hB
  have H : ((spec_l01Below.f s0_0 s0_1 s0_2 a1).bind fun bt1054 => (some ((bt1054.1 == 0), bt1054.2.1, bt1054.2.2))) = some (r1, r2, r3) := h
  clear h
  replace H := Option.bind_eq_some_iff.mp H
  obtain ⟨⟨t1054, t1055, t1056⟩, A30, H⟩ := H
  replace H : (some ((t1054 == 0), t1055, t1056)) = some (r1, r2, r3) := H
  have A3 := Aside0.mk A30
  clear A30
  simp only [Option.some.injEq, Prod.mk.injEq] at H
  obtain ⟨rfl, rfl, rfl⟩ := H
  go_enter Try.func69, Try.ntmps69
  go_wp2_with (((with_reducible refine gate_callee (f := 61) rfl ?_); refine goesL_ (some 7) rfl rfl Try.func61 (by kernel_rfl) rfl #[.pointer (some ⟨g, 0, none⟩), .int .i64 a1] rfl (by (try simp only [List.map_toArray, List.map_cons, List.map_nil]); rfl) ?_; (with_reducible refine (spec_l01Below.calls g s0_0 s0_1 s0_2 a1 t1054 t1055 t1056 w0 _ ?side1 ?side2 A3.out).mono ?_); (case side1 => repeat ((with_reducible exact HI0.out))); (case side2 => repeat ((with_reducible exact HB.out))); rintro e w4 ⟨rfl, hi, hb, hk⟩; refine ⟨_, rfl, ?_⟩; have n0_ := Aside0.mk (KeepBut.trans (by repeat ((with_reducible exact HK.out))) hk (.inl rfl)); have n1_ := Aside0.mk (hb); have n2_ := Aside0.mk (hi); clear HK; clear HB; clear HI0; have HK := n0_; have HB := n1_; have HI0 := n2_; clear n0_ n1_ n2_; (try clear hb); (try clear hb2); (try clear hk); (try clear hi)))
  go_ret
  exact ⟨by rfl, by repeat ((with_reducible exact HI0.out)), by repeat ((with_reducible exact HB.out)), by repeat ((with_reducible exact HK.out))⟩
end Go.Proofs.Ytdbhpcekjcohdaa.Q
