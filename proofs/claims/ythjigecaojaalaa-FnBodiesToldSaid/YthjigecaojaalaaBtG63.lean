import Derived.Test.YthjigecaojaalaaBtB0
import Derived.Test.YthjigecaojaalaaBtG33
import Derived.Test.YthjigecaojaalaaBtG56
import Derived.Test.YthjigecaojaalaaBtWApart
import Derived.Test.YthjigecaojaalaaBtWFoot
import Derived.Test.YthjigecaojaalaaBtWGuard
import Derived.Test.YthjigecaojaalaaBtWKept
import Derived.Test.YthjigecaojaalaaBtWLast
import Derived.Test.YthjigecaojaalaaBtWMore
import Derived.Test.YthjigecaojaalaaBtWN
import Derived.Test.YthjigecaojaalaaBtWRepsOne
import Derived.Test.YthjigecaojaalaaBtWShare
import Derived.Test.YthjigecaojaalaaBtWWords
namespace Go.Proofs.Ythjigecaojaalaa.Q
open Go.RowKit Go.Proofs.YthjigecaojaalaaW.PrintWords Go.Proofs.YthjigecaojaalaaW.PrintLast Go.Proofs.YthjigecaojaalaaW.PrintMore
attribute [local go_sem] max2_int min2_int max_two min_two max_three min_three max_four min_four   -- for this text's walks alone
set_option linter.unusedVariables false
set_option linter.unusedSimpArgs false
def spec_l10Number.l0 : Nat → ByteArray → Int → Int → Option (Int × Bool)
  | 0, _, _, _ => none
  | k + 1, x0, x4, x5 => if x5 < (x0.size : Int) then (if 0 ≤ x5 then (if (bt x0 x5) < 48 then (some (0, false)) else (if (bt x0 x5) > 57 then (some (0, false)) else (spec_l10Number.l0 k x0 (wrap64 ((wrap64 ((wrap64 (10 * x4)) + (wrap64 (bt x0 x5)))) - 48)) (wrap64 (x5 + 1))))) else (none)) else (some (x4, true))
def spec_l10Number.f (k : Nat) (a0 : ByteArray) : Option (Int × Bool) := (spec_l01In.f (a0.size : Int) 1 6).bind fun t328 => (if t328 = true then (spec_l10Number.l0 k a0 0 0) else (some (0, false)))
set_option maxHeartbeats 8000000 in
set_option maxRecDepth 100000 in
theorem spec_l10Number.calls (k : Nat) (a0 : ByteArray) (r1 : Int) (r2 : Bool) (w : World) (h : spec_l10Number.f k a0 = some (r1, r2)) :
    Calls Try.prog 63 #[.string a0] w fun e w' => e = .returned (.tuple #[.int .i64 r1, .bool r2]) ∧ Drawn0 w w' := by
  have H : ((spec_l01In.f (a0.size : Int) 1 6).bind fun t328 => (if t328 = true then (spec_l10Number.l0 k a0 0 0) else (some (0, false)))) = some (r1, r2) := h
  clear h
  replace H := Option.bind_eq_some_iff.mp H
  obtain ⟨t328, A20, H⟩ := H
  replace H : (if t328 = true then (spec_l10Number.l0 k a0 0 0) else (some (0, false))) = some (r1, r2) := H
  have A2 := Aside0.mk A20
  clear A20
  have HS3 := Aside0.mk H
  clear H
  go_enter Try.func63, Try.ntmps63
  go_upto_if 9 with (((with_reducible refine gate_callee (f := 33) rfl ?_); refine goesL_ (some 8) rfl rfl Try.func33 (by kernel_rfl) rfl #[.int .i64 (a0.size : Int), .int .i64 1, .int .i64 6] rfl (by (try simp only [List.map_toArray, List.map_cons, List.map_nil]); rfl) ?_; (with_reducible refine (spec_l01In.calls (a0.size : Int) 1 6 t328 _ A2.out).mono ?_); rintro e w' ⟨rfl, rfl⟩; refine ⟨_, rfl, ?_⟩))
  (try simp only [Act.put, List.setIfInBounds_toArray, List.set_cons_zero, List.set_cons_succ])
  have H := HS3.out
  clear HS3
  by_cases c4 : t328 = true
  · subst c4
    have H1 : (spec_l10Number.l0 k a0 0 0) = some (r1, r2) := by rw [if_pos rfl] at H; exact H
    clear H
    have H := H1
    clear H1
    have H' := Aside0.mk H
    clear H
    go_wp2
    go_loopg [4, 5] k (fun kq v4 v5 w' => ∃ (x4_1 : Int) (x5_1 : Int), v4 = .int .i64 x4_1 ∧ v5 = .int .i64 x5_1 ∧ Aside0 (spec_l10Number.l0 kq a0 x4_1 x5_1 = some (r1, r2)) ∧ Aside0 (kq ≤ k) ∧ Drawn0 w w')
    case atStart => exact ⟨(0), (0), (by rfl), (by rfl), H', ⟨Nat.le_refl _⟩, by repeat (exact Drawn0.refl _)⟩
    case round =>
      clear H'
      obtain ⟨x4_1, x5_1, rfl, rfl, HA, HK1, ⟨m1, rfl⟩⟩ := hrel
      cases gk with
      | zero => exact absurd HA.out (by simp [spec_l10Number.l0])
      | succ k1 =>
        have H := HA.out
        clear HA
        simp only [spec_l10Number.l0] at H
        by_cases c5 : x5_1 < (a0.size : Int)
        · rw [if_pos c5] at H
          have c5b0 : decide (x5_1 < (a0.size : Int)) = true := decide_eq_true c5
          clear c5
          (skip)
          by_cases c6 : 0 ≤ x5_1
          · rw [if_pos c6] at H
            have c6b0 : decide (0 ≤ x5_1) = true := decide_eq_true c6
            clear c6
            by_cases c8 : (bt a0 x5_1) < 48
            · rw [if_pos c8] at H
              have c8b0 : decide ((bt a0 x5_1) < 48) = true := decide_eq_true c8
              clear c8
              simp only [Option.some.injEq, Prod.mk.injEq] at H
              obtain ⟨rfl, rfl⟩ := H
              have p7 : 0 ≤ (x5_1 : Int) := of_decide_eq_true (by (with_reducible assumption))
              have q7 : x5_1 < (a0.size : Int) := of_decide_eq_true (by (with_reducible assumption))
              have hx7 := bt_at a0 x5_1
              replace p7 := eq_true p7
              replace q7 := eq_true q7
              go_wp2
              go_ret2
              exact ⟨by rfl, by repeat (first | exact Drawn0.refl _ | apply Drawn0.step)⟩
            · rw [if_neg c8] at H
              have c8b0 : decide ((bt a0 x5_1) < 48) = false := decide_eq_false c8
              clear c8
              by_cases c10 : (bt a0 x5_1) > 57
              · rw [if_pos c10] at H
                have c10b0 : decide (57 < (bt a0 x5_1)) = true := decide_eq_true c10
                clear c10
                simp only [Option.some.injEq, Prod.mk.injEq] at H
                obtain ⟨rfl, rfl⟩ := H
                have p7 : 0 ≤ (x5_1 : Int) := of_decide_eq_true (by (with_reducible assumption))
                have q7 : x5_1 < (a0.size : Int) := of_decide_eq_true (by (with_reducible assumption))
                have hx7 := bt_at a0 x5_1
                replace p7 := eq_true p7
                replace q7 := eq_true q7
                have p9 : 0 ≤ (x5_1 : Int) := of_decide_eq_true (by (with_reducible assumption))
                have q9 : x5_1 < (a0.size : Int) := of_decide_eq_true (by (with_reducible assumption))
                have hx9 := bt_at a0 x5_1
                replace p9 := eq_true p9
                replace q9 := eq_true q9
                go_wp2
                go_ret2
                exact ⟨by rfl, by repeat (first | exact Drawn0.refl _ | apply Drawn0.step)⟩
              · rw [if_neg c10] at H
                have c10b0 : decide (57 < (bt a0 x5_1)) = false := decide_eq_false c10
                clear c10
                have H' := Aside0.mk H
                clear H
                have p7 : 0 ≤ (x5_1 : Int) := of_decide_eq_true (by (with_reducible assumption))
                have q7 : x5_1 < (a0.size : Int) := of_decide_eq_true (by (with_reducible assumption))
                have hx7 := bt_at a0 x5_1
                replace p7 := eq_true p7
                replace q7 := eq_true q7
                have p9 : 0 ≤ (x5_1 : Int) := of_decide_eq_true (by (with_reducible assumption))
                have q9 : x5_1 < (a0.size : Int) := of_decide_eq_true (by (with_reducible assumption))
                have hx9 := bt_at a0 x5_1
                replace p9 := eq_true p9
                replace q9 := eq_true q9
                have p11 : 0 ≤ (x5_1 : Int) := of_decide_eq_true (by (with_reducible assumption))
                have q11 : x5_1 < (a0.size : Int) := of_decide_eq_true (by (with_reducible assumption))
                have hx11 := bt_at a0 x5_1
                replace p11 := eq_true p11
                replace q11 := eq_true q11
                go_wp2
                go_roundg k1
                case measure => have := HK1.out; omega
                case rel => exact ⟨(wrap64 ((wrap64 ((wrap64 (10 * x4_1)) + (wrap64 (bt a0 x5_1)))) - 48)), (wrap64 (x5_1 + 1)), (by rfl), (by rfl), H', ⟨by have := HK1.out; omega⟩, by repeat (first | exact Drawn0.refl _ | apply Drawn0.step)⟩
          · rw [if_neg c6] at H
            exact absurd H (by simp)
        · rw [if_neg c5] at H
          have c5b0 : decide (x5_1 < (a0.size : Int)) = false := decide_eq_false c5
          clear c5
          (skip)
          simp only [Option.some.injEq, Prod.mk.injEq] at H
          obtain ⟨rfl, rfl⟩ := H
          go_wp2
          go_ret2
          exact ⟨by rfl, by repeat (first | exact Drawn0.refl _ | apply Drawn0.step)⟩
  · replace c4 := Bool.eq_false_iff.mpr c4
    subst c4
    have H1 : (some (0, false)) = some (r1, r2) := by rw [if_neg (show ¬ (false = true) by decide)] at H; exact H
    clear H
    have H := H1
    clear H1
    simp only [Option.some.injEq, Prod.mk.injEq] at H
    obtain ⟨rfl, rfl⟩ := H
    go_wp2
    go_ret2
    exact ⟨by rfl, by repeat (exact Drawn0.refl _)⟩
def spec_l11Length.l0 : Nat → Int → Int → Int → ByteArray → List (S45) → Option (Int × Int × Bool)
  | 0, _, _, _, _, _ => none
  | k + 1, x5, x6, x7, x330000, x330001 => if x7 < (x330001.length : Int) then (if 0 ≤ x7 then (if ((rd_T45 x330001 x7).f0).toList = ([99, 111, 110, 116, 101, 110, 116, 45, 108, 101, 110, 103, 116, 104] : List UInt8) then ((spec_l10Number.f k ((rd_T45 x330001 x7).f1)).bind fun bt332 => (if bt332.2 = true then (if (((rd_T45 x330001 x7).f1).size : Int) > 3 then (some (0, wrap64 (x6 + 1), false)) else (if x6 > 0 then (if bt332.1 = x5 then (spec_l11Length.l0 k bt332.1 (wrap64 (x6 + 1)) (wrap64 (x7 + 1)) x330000 x330001) else (some (0, wrap64 (x6 + 1), false))) else (spec_l11Length.l0 k bt332.1 (wrap64 (x6 + 1)) (wrap64 (x7 + 1)) x330000 x330001))) else (some (0, wrap64 (x6 + 1), false)))) else (spec_l11Length.l0 k x5 x6 (wrap64 (x7 + 1)) x330000 x330001)) else (none)) else (some (x5, x6, true))
def spec_l11Length.f (k : Nat) (a0_0 : ByteArray) (l0_1 : List (S45)) : Option (Int × Int × Bool) := spec_l11Length.l0 k 0 0 0 a0_0 l0_1
set_option maxHeartbeats 8000000 in
set_option maxRecDepth 100000 in
theorem spec_l11Length.calls (k : Nat) (a0_0 : ByteArray) (A0_1 : Option Addr) (c0_1 : Nat) (l0_1 : List (S45)) (r1 : Int) (r2 : Int) (r3 : Bool) (w : World) (hr0_1 : Kd.C k45 w A0_1 l0_1.length l0_1) (hc0_1 : l0_1.length ≤ c0_1) (h : spec_l11Length.f k a0_0 l0_1 = some (r1, r2, r3)) :
    Calls Try.prog 49 #[.agg #[.string a0_0, .slice A0_1 l0_1.length c0_1]] w fun e w' => e = .returned (.tuple #[.int .i64 r1, .int .i64 r2, .bool r3]) ∧ Below w.heap.size w w' := by
  have hu48 := Try.underlying48
  have HR0_1 := Aside0.mk hr0_1
  have HC0_1 := Aside0.mk hc0_1
  clear hr0_1 hc0_1
  have HB := Aside0.mk (Below.refl w.heap.size w)
  have H : (spec_l11Length.l0 k 0 0 0 a0_0 l0_1) = some (r1, r2, r3) := h
  clear h
  have H' := Aside0.mk H
  clear H
  go_enter Try.func49, Try.ntmps49
  go_wp2_with (((with_reducible refine gate_dst (N := 1) rfl ?_); (try (refine gate_guard (by rfl) ?_; dsimp only)); refine box_event ?hg (N := 1) ?hd (cs := #[.string a0_0, .slice A0_1 l0_1.length c0_1]) (t := 48) ?hr ?_; (case hd => rfl); (case hg => rfl); (case hr => (go_simp; done)); intro gb329 hg w2 hbox hb; have n0_ := Aside0.mk (below_step (by repeat ((with_reducible exact HB.out))) hb); have n1_ := Aside0.mk (hbox); have n2_ := Aside0.mk ((by rw [hg]; exact (below_size (by repeat ((with_reducible exact HB.out)))) : w.heap.size ≤ gb329)); have n3_ := Aside0.mk ((by rw [hg]; exact (below_size (by repeat ((with_reducible exact HB.out)))) : w.heap.size ≤ gb329)); clear HB; have HB := n0_; have BK329 := n1_; have GW329 := n2_; have GE329 := n3_; clear n0_ n1_ n2_ n3_; clear hb hbox hg))
  go_loopg [5, 6, 7] k (fun kq v5 v6 v7 w' => ∃ (x5_1 : Int) (x6_1 : Int) (x7_1 : Int), v5 = .int .i64 x5_1 ∧ v6 = .int .i64 x6_1 ∧ v7 = .int .i64 x7_1 ∧ Aside0 (spec_l11Length.l0 kq x5_1 x6_1 x7_1 a0_0 l0_1 = some (r1, r2, r3)) ∧ Aside0 (kq ≤ k) ∧ Aside0 (w'.heap[gb329]? = some (.cells #[.string a0_0, (.slice A0_1 l0_1.length c0_1)] 48 (0, 0))) ∧ Aside0 (Below w.heap.size w w'))
  case atStart => exact ⟨(0), (0), (0), (by rfl), (by rfl), (by rfl), H', ⟨Nat.le_refl _⟩, ⟨by (with_reducible repeat (first | refine blk_drewN ?_ _ | refine blk_drew ?_ | refine blk_alloc ?_ _ )); exact BK329.out⟩, ⟨by repeat ((with_reducible exact HB.out))⟩⟩
  case round =>
    clear H'
    obtain ⟨x5_1, x6_1, x7_1, rfl, rfl, rfl, HA, HK1, BK329, HB⟩ := hrel
    cases gk with
    | zero => exact absurd HA.out (by simp [spec_l11Length.l0])
    | succ k1 =>
      have H := HA.out
      clear HA
      simp only [spec_l11Length.l0] at H
      by_cases c3 : x7_1 < (l0_1.length : Int)
      · rw [if_pos c3] at H
        have c3b0 : decide (x7_1 < (l0_1.length : Int)) = true := decide_eq_true c3
        clear c3
        by_cases c4 : 0 ≤ x7_1
        · rw [if_pos c4] at H
          have c4b0 : decide (0 ≤ x7_1) = true := decide_eq_true c4
          clear c4
          by_cases c5 : ((rd_T45 l0_1 x7_1).f0).toList = ([99, 111, 110, 116, 101, 110, 116, 45, 108, 101, 110, 103, 116, 104] : List UInt8)
          · rw [if_pos c5] at H
            have c5b0 : (((rd_T45 l0_1 x7_1).f0).toList == ([99, 111, 110, 116, 101, 110, 116, 45, 108, 101, 110, 103, 116, 104] : List UInt8)) = true := beq_iff_eq.mpr c5
            have c5b1 : (((rd_T45 l0_1 x7_1).f0).toList != ([99, 111, 110, 116, 101, 110, 116, 45, 108, 101, 110, 103, 116, 104] : List UInt8)) = false := bne_eq_false_iff_eq.mpr c5
            clear c5
            replace H := Option.bind_eq_some_iff.mp H
            obtain ⟨⟨t332, t333⟩, A60, H⟩ := H
            replace H : (if t333 = true then (if (((rd_T45 l0_1 x7_1).f1).size : Int) > 3 then (some (0, wrap64 (x6_1 + 1), false)) else (if x6_1 > 0 then (if t332 = x5_1 then (spec_l11Length.l0 k1 t332 (wrap64 (x6_1 + 1)) (wrap64 (x7_1 + 1)) a0_0 l0_1) else (some (0, wrap64 (x6_1 + 1), false))) else (spec_l11Length.l0 k1 t332 (wrap64 (x6_1 + 1)) (wrap64 (x7_1 + 1)) a0_0 l0_1))) else (some (0, wrap64 (x6_1 + 1), false))) = some (r1, r2, r3) := H
            have A6 := Aside0.mk A60
            clear A60
            have HS7 := Aside0.mk H
            clear H
            have hcz8_0 : wr.cell? ⟨gb329, 0, none⟩ = some (.string a0_0) := (blk_cell BK329.out 0).trans rfl
            have hcz8_1 : wr.cell? ⟨gb329, 1, none⟩ = some (.slice A0_1 l0_1.length c0_1) := (blk_cell BK329.out 1).trans rfl
            have hfz8_0 := blk_frozen BK329.out 0
            have hfz8_1 := blk_frozen BK329.out 1
            have p330 : 0 ≤ (x7_1 : Int) := of_decide_eq_true (by (with_reducible assumption))
            have q330 : x7_1 < (l0_1.length : Int) := of_decide_eq_true (by (with_reducible assumption))
            obtain ⟨ad330, e330, hx330_0, hx330_1⟩ := at_T45 HR0_1.out x7_1 p330 q330
            cases e330
            replace hx330_0 := (HB.out.cell (World.block_lt_of_cell? w _ hx330_0)).trans hx330_0
            replace hx330_1 := (HB.out.cell (World.block_lt_of_cell? w _ hx330_1)).trans hx330_1
            replace p330 := eq_true p330
            replace q330 := eq_true q330
            have p331 : 0 ≤ (x7_1 : Int) := of_decide_eq_true (by (with_reducible assumption))
            have q331 : x7_1 < (l0_1.length : Int) := of_decide_eq_true (by (with_reducible assumption))
            obtain ⟨ad331, e331, hx331_0, hx331_1⟩ := at_T45 HR0_1.out x7_1 p331 q331
            obtain rfl : ad330 = ad331 := (by injection e331)
            replace hx331_0 := (HB.out.cell (World.block_lt_of_cell? w _ hx331_0)).trans hx331_0
            replace hx331_1 := (HB.out.cell (World.block_lt_of_cell? w _ hx331_1)).trans hx331_1
            replace p331 := eq_true p331
            replace q331 := eq_true q331
            go_upto_region 8 with (((with_reducible refine gate_callee (f := 63) rfl ?_); refine goesL_ (some 31) rfl rfl Try.func63 (by kernel_rfl) rfl #[.string ((rd_T45 l0_1 x7_1).f1)] rfl (by (try simp only [List.map_toArray, List.map_cons, List.map_nil]); rfl) ?_; (with_reducible refine (spec_l10Number.calls k1 ((rd_T45 l0_1 x7_1).f1) t332 t333 _ A6.out).mono ?_); rintro e w' ⟨rfl, ⟨nd, rfl⟩⟩; refine ⟨_, rfl, ?_⟩))
            (try simp only [Act.put, List.setIfInBounds_toArray, List.set_cons_zero, List.set_cons_succ])
            have H := HS7.out
            clear HS7
            by_cases c9 : t333 = true
            · subst c9
              have H1 : (if (((rd_T45 l0_1 x7_1).f1).size : Int) > 3 then (some (0, wrap64 (x6_1 + 1), false)) else (if x6_1 > 0 then (if t332 = x5_1 then (spec_l11Length.l0 k1 t332 (wrap64 (x6_1 + 1)) (wrap64 (x7_1 + 1)) a0_0 l0_1) else (some (0, wrap64 (x6_1 + 1), false))) else (spec_l11Length.l0 k1 t332 (wrap64 (x6_1 + 1)) (wrap64 (x7_1 + 1)) a0_0 l0_1))) = some (r1, r2, r3) := by rw [if_pos rfl] at H; exact H
              clear H
              have H := H1
              clear H1
              by_cases c10 : (((rd_T45 l0_1 x7_1).f1).size : Int) > 3
              · rw [if_pos c10] at H
                have c10b0 : decide (3 < (((rd_T45 l0_1 x7_1).f1).size : Int)) = true := decide_eq_true c10
                have c10b1 : decide (3 < ((rd_T45 l0_1 x7_1).f1).size) = true := decide_eq_true (by omega)
                clear c10
                simp only [Option.some.injEq, Prod.mk.injEq] at H
                obtain ⟨rfl, rfl, rfl⟩ := H
                have hcz11_0 : wr.cell? ⟨gb329, 0, none⟩ = some (.string a0_0) := (blk_cell BK329.out 0).trans rfl
                have hcz11_1 : wr.cell? ⟨gb329, 1, none⟩ = some (.slice (some ad330) l0_1.length c0_1) := (blk_cell BK329.out 1).trans rfl
                have hfz11_0 := blk_frozen BK329.out 0
                have hfz11_1 := blk_frozen BK329.out 1
                have p334 : 0 ≤ (x7_1 : Int) := of_decide_eq_true (by (with_reducible assumption))
                have q334 : x7_1 < (l0_1.length : Int) := of_decide_eq_true (by (with_reducible assumption))
                obtain ⟨ad334, e334, hx334_0, hx334_1⟩ := at_T45 HR0_1.out x7_1 p334 q334
                obtain rfl : ad330 = ad334 := (by injection e334)
                replace hx334_0 := (HB.out.cell (World.block_lt_of_cell? w _ hx334_0)).trans hx334_0
                replace hx334_1 := (HB.out.cell (World.block_lt_of_cell? w _ hx334_1)).trans hx334_1
                replace p334 := eq_true p334
                replace q334 := eq_true q334
                go_wp2
                go_ret3
                exact ⟨by rfl, by repeat ((with_reducible first | exact HB.out | apply pw_below_drewN))⟩
              · rw [if_neg c10] at H
                have c10b0 : decide (3 < (((rd_T45 l0_1 x7_1).f1).size : Int)) = false := decide_eq_false c10
                have c10b1 : decide (3 < ((rd_T45 l0_1 x7_1).f1).size) = false := decide_eq_false (by omega)
                clear c10
                by_cases c12 : x6_1 > 0
                · rw [if_pos c12] at H
                  have c12b0 : decide (0 < x6_1) = true := decide_eq_true c12
                  clear c12
                  by_cases c13 : t332 = x5_1
                  · rw [if_pos c13] at H
                    have c13b0 : (t332 == x5_1) = true := beq_iff_eq.mpr c13
                    have c13b1 : (t332 != x5_1) = false := bne_eq_false_iff_eq.mpr c13
                    clear c13
                    have H' := Aside0.mk H
                    clear H
                    have hcz14_0 : wr.cell? ⟨gb329, 0, none⟩ = some (.string a0_0) := (blk_cell BK329.out 0).trans rfl
                    have hcz14_1 : wr.cell? ⟨gb329, 1, none⟩ = some (.slice (some ad330) l0_1.length c0_1) := (blk_cell BK329.out 1).trans rfl
                    have hfz14_0 := blk_frozen BK329.out 0
                    have hfz14_1 := blk_frozen BK329.out 1
                    have p334 : 0 ≤ (x7_1 : Int) := of_decide_eq_true (by (with_reducible assumption))
                    have q334 : x7_1 < (l0_1.length : Int) := of_decide_eq_true (by (with_reducible assumption))
                    obtain ⟨ad334, e334, hx334_0, hx334_1⟩ := at_T45 HR0_1.out x7_1 p334 q334
                    obtain rfl : ad330 = ad334 := (by injection e334)
                    replace hx334_0 := (HB.out.cell (World.block_lt_of_cell? w _ hx334_0)).trans hx334_0
                    replace hx334_1 := (HB.out.cell (World.block_lt_of_cell? w _ hx334_1)).trans hx334_1
                    replace p334 := eq_true p334
                    replace q334 := eq_true q334
                    go_wp2
                    go_roundg k1
                    case measure => have := HK1.out; omega
                    case rel => exact ⟨(t332), (wrap64 (x6_1 + 1)), (wrap64 (x7_1 + 1)), (by rfl), (by rfl), (by rfl), H', ⟨by have := HK1.out; omega⟩, ⟨by (with_reducible repeat (refine blk_drewN ?_ _)); exact BK329.out⟩, ⟨by repeat ((with_reducible first | exact HB.out | apply pw_below_drewN))⟩⟩
                  · rw [if_neg c13] at H
                    have c13b0 : (t332 == x5_1) = false := beq_eq_false_iff_ne.mpr c13
                    have c13b1 : (t332 != x5_1) = true := bne_iff_ne.mpr c13
                    simp only [Option.some.injEq, Prod.mk.injEq] at H
                    obtain ⟨rfl, rfl, rfl⟩ := H
                    have hcz15_0 : wr.cell? ⟨gb329, 0, none⟩ = some (.string a0_0) := (blk_cell BK329.out 0).trans rfl
                    have hcz15_1 : wr.cell? ⟨gb329, 1, none⟩ = some (.slice (some ad330) l0_1.length c0_1) := (blk_cell BK329.out 1).trans rfl
                    have hfz15_0 := blk_frozen BK329.out 0
                    have hfz15_1 := blk_frozen BK329.out 1
                    have p334 : 0 ≤ (x7_1 : Int) := of_decide_eq_true (by (with_reducible assumption))
                    have q334 : x7_1 < (l0_1.length : Int) := of_decide_eq_true (by (with_reducible assumption))
                    obtain ⟨ad334, e334, hx334_0, hx334_1⟩ := at_T45 HR0_1.out x7_1 p334 q334
                    obtain rfl : ad330 = ad334 := (by injection e334)
                    replace hx334_0 := (HB.out.cell (World.block_lt_of_cell? w _ hx334_0)).trans hx334_0
                    replace hx334_1 := (HB.out.cell (World.block_lt_of_cell? w _ hx334_1)).trans hx334_1
                    replace p334 := eq_true p334
                    replace q334 := eq_true q334
                    go_wp2
                    go_ret3
                    exact ⟨by rfl, by repeat ((with_reducible first | exact HB.out | apply pw_below_drewN))⟩
                · rw [if_neg c12] at H
                  have c12b0 : decide (0 < x6_1) = false := decide_eq_false c12
                  clear c12
                  have H' := Aside0.mk H
                  clear H
                  have hcz16_0 : wr.cell? ⟨gb329, 0, none⟩ = some (.string a0_0) := (blk_cell BK329.out 0).trans rfl
                  have hcz16_1 : wr.cell? ⟨gb329, 1, none⟩ = some (.slice (some ad330) l0_1.length c0_1) := (blk_cell BK329.out 1).trans rfl
                  have hfz16_0 := blk_frozen BK329.out 0
                  have hfz16_1 := blk_frozen BK329.out 1
                  have p334 : 0 ≤ (x7_1 : Int) := of_decide_eq_true (by (with_reducible assumption))
                  have q334 : x7_1 < (l0_1.length : Int) := of_decide_eq_true (by (with_reducible assumption))
                  obtain ⟨ad334, e334, hx334_0, hx334_1⟩ := at_T45 HR0_1.out x7_1 p334 q334
                  obtain rfl : ad330 = ad334 := (by injection e334)
                  replace hx334_0 := (HB.out.cell (World.block_lt_of_cell? w _ hx334_0)).trans hx334_0
                  replace hx334_1 := (HB.out.cell (World.block_lt_of_cell? w _ hx334_1)).trans hx334_1
                  replace p334 := eq_true p334
                  replace q334 := eq_true q334
                  go_wp2
                  go_roundg k1
                  case measure => have := HK1.out; omega
                  case rel => exact ⟨(t332), (wrap64 (x6_1 + 1)), (wrap64 (x7_1 + 1)), (by rfl), (by rfl), (by rfl), H', ⟨by have := HK1.out; omega⟩, ⟨by (with_reducible repeat (refine blk_drewN ?_ _)); exact BK329.out⟩, ⟨by repeat ((with_reducible first | exact HB.out | apply pw_below_drewN))⟩⟩
            · replace c9 := Bool.eq_false_iff.mpr c9
              subst c9
              have H1 : (some (0, wrap64 (x6_1 + 1), false)) = some (r1, r2, r3) := by rw [if_neg (show ¬ (false = true) by decide)] at H; exact H
              clear H
              have H := H1
              clear H1
              simp only [Option.some.injEq, Prod.mk.injEq] at H
              obtain ⟨rfl, rfl, rfl⟩ := H
              go_wp2
              go_ret3
              exact ⟨by rfl, by repeat ((with_reducible first | exact HB.out | apply pw_below_drewN))⟩
          · rw [if_neg c5] at H
            have c5b0 : (((rd_T45 l0_1 x7_1).f0).toList == ([99, 111, 110, 116, 101, 110, 116, 45, 108, 101, 110, 103, 116, 104] : List UInt8)) = false := beq_eq_false_iff_ne.mpr c5
            have c5b1 : (((rd_T45 l0_1 x7_1).f0).toList != ([99, 111, 110, 116, 101, 110, 116, 45, 108, 101, 110, 103, 116, 104] : List UInt8)) = true := bne_iff_ne.mpr c5
            have H' := Aside0.mk H
            clear H
            have hcz17_0 : wr.cell? ⟨gb329, 0, none⟩ = some (.string a0_0) := (blk_cell BK329.out 0).trans rfl
            have hcz17_1 : wr.cell? ⟨gb329, 1, none⟩ = some (.slice A0_1 l0_1.length c0_1) := (blk_cell BK329.out 1).trans rfl
            have hfz17_0 := blk_frozen BK329.out 0
            have hfz17_1 := blk_frozen BK329.out 1
            have p330 : 0 ≤ (x7_1 : Int) := of_decide_eq_true (by (with_reducible assumption))
            have q330 : x7_1 < (l0_1.length : Int) := of_decide_eq_true (by (with_reducible assumption))
            obtain ⟨ad330, e330, hx330_0, hx330_1⟩ := at_T45 HR0_1.out x7_1 p330 q330
            cases e330
            replace hx330_0 := (HB.out.cell (World.block_lt_of_cell? w _ hx330_0)).trans hx330_0
            replace hx330_1 := (HB.out.cell (World.block_lt_of_cell? w _ hx330_1)).trans hx330_1
            replace p330 := eq_true p330
            replace q330 := eq_true q330
            go_wp2
            go_roundg k1
            case measure => have := HK1.out; omega
            case rel => exact ⟨(x5_1), (x6_1), (wrap64 (x7_1 + 1)), (by rfl), (by rfl), (by rfl), H', ⟨by have := HK1.out; omega⟩, ⟨by (with_reducible repeat (first | refine blk_drewN ?_ _ | refine blk_drew ?_ | refine blk_alloc ?_ _ )); exact BK329.out⟩, ⟨by repeat ((with_reducible exact HB.out))⟩⟩
        · rw [if_neg c4] at H
          exact absurd H (by simp)
      · rw [if_neg c3] at H
        have c3b0 : decide (x7_1 < (l0_1.length : Int)) = false := decide_eq_false c3
        clear c3
        simp only [Option.some.injEq, Prod.mk.injEq] at H
        obtain ⟨rfl, rfl, rfl⟩ := H
        have hcz18_0 : wr.cell? ⟨gb329, 0, none⟩ = some (.string a0_0) := (blk_cell BK329.out 0).trans rfl
        have hcz18_1 : wr.cell? ⟨gb329, 1, none⟩ = some (.slice A0_1 l0_1.length c0_1) := (blk_cell BK329.out 1).trans rfl
        have hfz18_0 := blk_frozen BK329.out 0
        have hfz18_1 := blk_frozen BK329.out 1
        go_wp2
        go_ret3
        exact ⟨by rfl, by repeat ((with_reducible exact HB.out))⟩
def spec_FieldOf.l0 : Nat → ByteArray → Int → ByteArray → List (S45) → Option (ByteArray × Bool)
  | 0, _, _, _, _ => none
  | k + 1, x1, x6, x336000, x336001 => if x6 < (x336001.length : Int) then (if 0 ≤ x6 then (if ((rd_T45 x336001 x6).f0).toList = x1.toList then (some ((rd_T45 x336001 x6).f1, true)) else (spec_FieldOf.l0 k x1 (wrap64 (x6 + 1)) x336000 x336001)) else (none)) else (some ((⟨#[]⟩ : ByteArray), false))
def spec_FieldOf.f (k : Nat) (a0_0 : ByteArray) (l0_1 : List (S45)) (a1 : ByteArray) : Option (ByteArray × Bool) := spec_FieldOf.l0 k a1 0 a0_0 l0_1
set_option maxHeartbeats 8000000 in
set_option maxRecDepth 100000 in
theorem spec_FieldOf.calls (k : Nat) (a0_0 : ByteArray) (A0_1 : Option Addr) (c0_1 : Nat) (l0_1 : List (S45)) (a1 : ByteArray) (r1 : ByteArray) (r2 : Bool) (w : World) (hr0_1 : Kd.C k45 w A0_1 l0_1.length l0_1) (hc0_1 : l0_1.length ≤ c0_1) (h : spec_FieldOf.f k a0_0 l0_1 a1 = some (r1, r2)) :
    Calls Try.prog 50 #[.agg #[.string a0_0, .slice A0_1 l0_1.length c0_1], .string a1] w fun e w' => e = .returned (.tuple #[.string r1, .bool r2]) ∧ Below w.heap.size w w' := by
  have hu48 := Try.underlying48
  have HR0_1 := Aside0.mk hr0_1
  have HC0_1 := Aside0.mk hc0_1
  clear hr0_1 hc0_1
  have HB := Aside0.mk (Below.refl w.heap.size w)
  have H : (spec_FieldOf.l0 k a1 0 a0_0 l0_1) = some (r1, r2) := h
  clear h
  have H' := Aside0.mk H
  clear H
  go_enter Try.func50, Try.ntmps50
  go_wp2_with (((with_reducible refine gate_dst (N := 2) rfl ?_); refine box_event ?hg (N := 2) ?hd (cs := #[.string a0_0, .slice A0_1 l0_1.length c0_1]) (t := 48) ?hr ?_; (case hd => rfl); (case hg => rfl); (case hr => (go_simp; done)); intro gb335 hg w3 hbox hb; have n0_ := Aside0.mk (below_step (by repeat ((with_reducible exact HB.out))) hb); have n1_ := Aside0.mk (hbox); have n2_ := Aside0.mk ((by rw [hg]; exact (below_size (by repeat ((with_reducible exact HB.out)))) : w.heap.size ≤ gb335)); have n3_ := Aside0.mk ((by rw [hg]; exact (below_size (by repeat ((with_reducible exact HB.out)))) : w.heap.size ≤ gb335)); clear HB; have HB := n0_; have BK335 := n1_; have GW335 := n2_; have GE335 := n3_; clear n0_ n1_ n2_ n3_; clear hb hbox hg))
  go_loopg [6] k (fun kq v6 w' => ∃ (x6_1 : Int), v6 = .int .i64 x6_1 ∧ Aside0 (spec_FieldOf.l0 kq a1 x6_1 a0_0 l0_1 = some (r1, r2)) ∧ Aside0 (kq ≤ k) ∧ Aside0 (w'.heap[gb335]? = some (.cells #[.string a0_0, (.slice A0_1 l0_1.length c0_1)] 48 (0, 0))) ∧ Aside0 (Below w.heap.size w w'))
  case atStart => exact ⟨(0), (by rfl), H', ⟨Nat.le_refl _⟩, ⟨by (with_reducible repeat (first | refine blk_drewN ?_ _ | refine blk_drew ?_ | refine blk_alloc ?_ _ )); exact BK335.out⟩, ⟨by repeat ((with_reducible exact HB.out))⟩⟩
  case round =>
    clear H'
    obtain ⟨x6_1, rfl, HA, HK1, BK335, HB⟩ := hrel
    cases gk with
    | zero => exact absurd HA.out (by simp [spec_FieldOf.l0])
    | succ k1 =>
      have H := HA.out
      clear HA
      simp only [spec_FieldOf.l0] at H
      by_cases c4 : x6_1 < (l0_1.length : Int)
      · rw [if_pos c4] at H
        have c4b0 : decide (x6_1 < (l0_1.length : Int)) = true := decide_eq_true c4
        clear c4
        by_cases c5 : 0 ≤ x6_1
        · rw [if_pos c5] at H
          have c5b0 : decide (0 ≤ x6_1) = true := decide_eq_true c5
          clear c5
          by_cases c6 : ((rd_T45 l0_1 x6_1).f0).toList = a1.toList
          · rw [if_pos c6] at H
            have c6b0 : (((rd_T45 l0_1 x6_1).f0).toList == a1.toList) = true := beq_iff_eq.mpr c6
            have c6b1 : (((rd_T45 l0_1 x6_1).f0).toList != a1.toList) = false := bne_eq_false_iff_eq.mpr c6
            clear c6
            simp only [Option.some.injEq, Prod.mk.injEq] at H
            obtain ⟨rfl, rfl⟩ := H
            have hcz7_0 : wr.cell? ⟨gb335, 0, none⟩ = some (.string a0_0) := (blk_cell BK335.out 0).trans rfl
            have hcz7_1 : wr.cell? ⟨gb335, 1, none⟩ = some (.slice A0_1 l0_1.length c0_1) := (blk_cell BK335.out 1).trans rfl
            have hfz7_0 := blk_frozen BK335.out 0
            have hfz7_1 := blk_frozen BK335.out 1
            have p336 : 0 ≤ (x6_1 : Int) := of_decide_eq_true (by (with_reducible assumption))
            have q336 : x6_1 < (l0_1.length : Int) := of_decide_eq_true (by (with_reducible assumption))
            obtain ⟨ad336, e336, hx336_0, hx336_1⟩ := at_T45 HR0_1.out x6_1 p336 q336
            cases e336
            replace hx336_0 := (HB.out.cell (World.block_lt_of_cell? w _ hx336_0)).trans hx336_0
            replace hx336_1 := (HB.out.cell (World.block_lt_of_cell? w _ hx336_1)).trans hx336_1
            replace p336 := eq_true p336
            replace q336 := eq_true q336
            have p337 : 0 ≤ (x6_1 : Int) := of_decide_eq_true (by (with_reducible assumption))
            have q337 : x6_1 < (l0_1.length : Int) := of_decide_eq_true (by (with_reducible assumption))
            obtain ⟨ad337, e337, hx337_0, hx337_1⟩ := at_T45 HR0_1.out x6_1 p337 q337
            obtain rfl : ad336 = ad337 := (by injection e337)
            replace hx337_0 := (HB.out.cell (World.block_lt_of_cell? w _ hx337_0)).trans hx337_0
            replace hx337_1 := (HB.out.cell (World.block_lt_of_cell? w _ hx337_1)).trans hx337_1
            replace p337 := eq_true p337
            replace q337 := eq_true q337
            go_wp2
            go_ret2
            exact ⟨by rfl, by repeat ((with_reducible exact HB.out))⟩
          · rw [if_neg c6] at H
            have c6b0 : (((rd_T45 l0_1 x6_1).f0).toList == a1.toList) = false := beq_eq_false_iff_ne.mpr c6
            have c6b1 : (((rd_T45 l0_1 x6_1).f0).toList != a1.toList) = true := bne_iff_ne.mpr c6
            have H' := Aside0.mk H
            clear H
            have hcz8_0 : wr.cell? ⟨gb335, 0, none⟩ = some (.string a0_0) := (blk_cell BK335.out 0).trans rfl
            have hcz8_1 : wr.cell? ⟨gb335, 1, none⟩ = some (.slice A0_1 l0_1.length c0_1) := (blk_cell BK335.out 1).trans rfl
            have hfz8_0 := blk_frozen BK335.out 0
            have hfz8_1 := blk_frozen BK335.out 1
            have p336 : 0 ≤ (x6_1 : Int) := of_decide_eq_true (by (with_reducible assumption))
            have q336 : x6_1 < (l0_1.length : Int) := of_decide_eq_true (by (with_reducible assumption))
            obtain ⟨ad336, e336, hx336_0, hx336_1⟩ := at_T45 HR0_1.out x6_1 p336 q336
            cases e336
            replace hx336_0 := (HB.out.cell (World.block_lt_of_cell? w _ hx336_0)).trans hx336_0
            replace hx336_1 := (HB.out.cell (World.block_lt_of_cell? w _ hx336_1)).trans hx336_1
            replace p336 := eq_true p336
            replace q336 := eq_true q336
            go_wp2
            go_roundg k1
            case measure => have := HK1.out; omega
            case rel => exact ⟨(wrap64 (x6_1 + 1)), (by rfl), H', ⟨by have := HK1.out; omega⟩, ⟨by (with_reducible repeat (first | refine blk_drewN ?_ _ | refine blk_drew ?_ | refine blk_alloc ?_ _ )); exact BK335.out⟩, ⟨by repeat ((with_reducible exact HB.out))⟩⟩
        · rw [if_neg c5] at H
          exact absurd H (by simp)
      · rw [if_neg c4] at H
        have c4b0 : decide (x6_1 < (l0_1.length : Int)) = false := decide_eq_false c4
        clear c4
        simp only [Option.some.injEq, Prod.mk.injEq] at H
        obtain ⟨rfl, rfl⟩ := H
        have hcz9_0 : wr.cell? ⟨gb335, 0, none⟩ = some (.string a0_0) := (blk_cell BK335.out 0).trans rfl
        have hcz9_1 : wr.cell? ⟨gb335, 1, none⟩ = some (.slice A0_1 l0_1.length c0_1) := (blk_cell BK335.out 1).trans rfl
        have hfz9_0 := blk_frozen BK335.out 0
        have hfz9_1 := blk_frozen BK335.out 1
        go_wp2
        go_ret2
        exact ⟨by rfl, by repeat ((with_reducible exact HB.out))⟩
def spec_BodyOf.j0 : Nat → ByteArray → Int → Bool → Option (ByteArray × Int × Int)
  | 0, _, _, _ => none
  | k + 1, x1, x7, x42 => if x42 = true then (some ((⟨#[]⟩ : ByteArray), 0, 2)) else (if x7 > (x1.size : Int) then (some ((⟨#[]⟩ : ByteArray), 0, 1)) else (if 0 ≤ x7 then (if x7 ≤ (x1.size : Int) then (some (x1.extract 0 (x7 : Int).toNat, x7, 0)) else (none)) else (none)))
def spec_BodyOf.f (k : Nat) (a0_0 : ByteArray) (l0_1 : List (S45)) (a1 : ByteArray) : Option (ByteArray × Int × Int) := (spec_l11Length.f k a0_0 l0_1).bind fun bt339 => ((spec_FieldOf.f k a0_0 l0_1 (⟨#[116, 114, 97, 110, 115, 102, 101, 114, 45, 101, 110, 99, 111, 100, 105, 110, 103]⟩ : ByteArray)).bind fun bt342 => (if bt342.2 = true then (if bt339.2.1 > 0 then (some ((⟨#[]⟩ : ByteArray), 0, 2)) else (if bt342.1.toList = ([99, 104, 117, 110, 107, 101, 100] : List UInt8) then ((spec_ReadChunks.f k a1).bind fun bt344 => (some (bt344.1, bt344.2.1, bt344.2.2))) else (some ((⟨#[]⟩ : ByteArray), 0, 2)))) else (if bt339.2.1 = 0 then (some ((⟨#[]⟩ : ByteArray), 0, 0)) else (if bt339.2.2 = true then (spec_BodyOf.j0 k a1 bt339.1 (decide (bt339.1 > 400))) else (spec_BodyOf.j0 k a1 bt339.1 true)))))
set_option maxHeartbeats 8000000 in
set_option maxRecDepth 100000 in
theorem spec_BodyOf.calls (k : Nat) (a0_0 : ByteArray) (A0_1 : Option Addr) (c0_1 : Nat) (l0_1 : List (S45)) (a1 : ByteArray) (r1 : ByteArray) (r2 : Int) (r3 : Int) (w : World) (hr0_1 : Kd.C k45 w A0_1 l0_1.length l0_1) (hc0_1 : l0_1.length ≤ c0_1) (h : spec_BodyOf.f k a0_0 l0_1 a1 = some (r1, r2, r3)) :
    Calls Try.prog 27 #[.agg #[.string a0_0, .slice A0_1 l0_1.length c0_1], .string a1] w fun e w' => e = .returned (.tuple #[.string r1, .int .i64 r2, .int .i64 r3]) ∧ Below w.heap.size w w' := by
  have hu48 := Try.underlying48
  have HR0_1 := Aside0.mk hr0_1
  have HC0_1 := Aside0.mk hc0_1
  clear hr0_1 hc0_1
  have HB := Aside0.mk (Below.refl w.heap.size w)
  have H : ((spec_l11Length.f k a0_0 l0_1).bind fun bt339 => ((spec_FieldOf.f k a0_0 l0_1 (⟨#[116, 114, 97, 110, 115, 102, 101, 114, 45, 101, 110, 99, 111, 100, 105, 110, 103]⟩ : ByteArray)).bind fun bt342 => (if bt342.2 = true then (if bt339.2.1 > 0 then (some ((⟨#[]⟩ : ByteArray), 0, 2)) else (if bt342.1.toList = ([99, 104, 117, 110, 107, 101, 100] : List UInt8) then ((spec_ReadChunks.f k a1).bind fun bt344 => (some (bt344.1, bt344.2.1, bt344.2.2))) else (some ((⟨#[]⟩ : ByteArray), 0, 2)))) else (if bt339.2.1 = 0 then (some ((⟨#[]⟩ : ByteArray), 0, 0)) else (if bt339.2.2 = true then (spec_BodyOf.j0 k a1 bt339.1 (decide (bt339.1 > 400))) else (spec_BodyOf.j0 k a1 bt339.1 true)))))) = some (r1, r2, r3) := h
  clear h
  replace H := Option.bind_eq_some_iff.mp H
  obtain ⟨⟨t339, t340, t341⟩, A30, H⟩ := H
  replace H : ((spec_FieldOf.f k a0_0 l0_1 (⟨#[116, 114, 97, 110, 115, 102, 101, 114, 45, 101, 110, 99, 111, 100, 105, 110, 103]⟩ : ByteArray)).bind fun bt342 => (if bt342.2 = true then (if t340 > 0 then (some ((⟨#[]⟩ : ByteArray), 0, 2)) else (if bt342.1.toList = ([99, 104, 117, 110, 107, 101, 100] : List UInt8) then ((spec_ReadChunks.f k a1).bind fun bt344 => (some (bt344.1, bt344.2.1, bt344.2.2))) else (some ((⟨#[]⟩ : ByteArray), 0, 2)))) else (if t340 = 0 then (some ((⟨#[]⟩ : ByteArray), 0, 0)) else (if t341 = true then (spec_BodyOf.j0 k a1 t339 (decide (t339 > 400))) else (spec_BodyOf.j0 k a1 t339 true))))) = some (r1, r2, r3) := H
  have A3 := Aside0.mk A30
  clear A30
  replace H := Option.bind_eq_some_iff.mp H
  obtain ⟨⟨t342, t343⟩, A40, H⟩ := H
  replace H : (if t343 = true then (if t340 > 0 then (some ((⟨#[]⟩ : ByteArray), 0, 2)) else (if t342.toList = ([99, 104, 117, 110, 107, 101, 100] : List UInt8) then ((spec_ReadChunks.f k a1).bind fun bt344 => (some (bt344.1, bt344.2.1, bt344.2.2))) else (some ((⟨#[]⟩ : ByteArray), 0, 2)))) else (if t340 = 0 then (some ((⟨#[]⟩ : ByteArray), 0, 0)) else (if t341 = true then (spec_BodyOf.j0 k a1 t339 (decide (t339 > 400))) else (spec_BodyOf.j0 k a1 t339 true)))) = some (r1, r2, r3) := H
  have A4 := Aside0.mk A40
  clear A40
  have HS5 := Aside0.mk H
  clear H
  go_enter Try.func27, Try.ntmps27
  go_upto_if 23 with (first | ((with_reducible refine gate_dst (N := 2) rfl ?_); refine box_event ?hg (N := 2) ?hd (cs := #[.string a0_0, .slice A0_1 l0_1.length c0_1]) (t := 48) ?hr ?_; (case hd => rfl); (case hg => rfl); (case hr => (go_simp; done)); intro gb338 hg w6 hbox hb; have n0_ := Aside0.mk (below_step (by repeat ((with_reducible exact HB.out))) hb); have n1_ := Aside0.mk (hbox); have n2_ := Aside0.mk ((by rw [hg]; exact (below_size (by repeat ((with_reducible exact HB.out)))) : w.heap.size ≤ gb338)); have n3_ := Aside0.mk ((by rw [hg]; exact (below_size (by repeat ((with_reducible exact HB.out)))) : w.heap.size ≤ gb338)); clear HB; have HB := n0_; have BK338 := n1_; have GW338 := n2_; have GE338 := n3_; clear n0_ n1_ n2_ n3_; clear hb hbox hg; have hcz7_0 : w6.cell? ⟨gb338, 0, none⟩ = some (.string a0_0) := (blk_cell BK338.out 0).trans rfl; have hcz7_1 : w6.cell? ⟨gb338, 1, none⟩ = some (.slice A0_1 l0_1.length c0_1) := (blk_cell BK338.out 1).trans rfl; have hfz7_0 := blk_frozen BK338.out 0; have hfz7_1 := blk_frozen BK338.out 1) | ((with_reducible refine gate_callee (f := 49) rfl ?_); refine goesL_ (some 14) rfl rfl Try.func49 (by kernel_rfl) rfl #[.agg #[.string a0_0, .slice A0_1 l0_1.length c0_1]] rfl (by (try simp only [List.map_toArray, List.map_cons, List.map_nil]); rfl) ?_; (with_reducible refine (spec_l11Length.calls k a0_0 _ _ l0_1 t339 t340 t341 _ ?side1 ?side2 A3.out).mono ?_); (case side1 => repeat (exact (Kd.C_below HR0_1.out HB.out))); (case side2 => exact HC0_1.out); rintro e w8 ⟨rfl, hb⟩; refine ⟨_, rfl, ?_⟩; have n0_ := Aside0.mk (blk_below (g := gb338) (o := .cells #[.string a0_0, .slice A0_1 l0_1.length c0_1] 48 (0, 0)) (by (with_reducible repeat (first | refine blk_drewN ?_ _ | refine blk_drew ?_ | refine blk_alloc ?_ _ )); exact BK338.out) hb); have n1_ := Aside0.mk (below_step (by repeat ((with_reducible exact HB.out))) hb); clear BK338; clear HB; have BK338 := n0_; have HB := n1_; clear n0_ n1_; (try clear hb); (try clear hb2); (try clear hk); (try clear hi); have hcz9_0 : w8.cell? ⟨gb338, 0, none⟩ = some (.string a0_0) := (blk_cell BK338.out 0).trans rfl; have hcz9_1 : w8.cell? ⟨gb338, 1, none⟩ = some (.slice A0_1 l0_1.length c0_1) := (blk_cell BK338.out 1).trans rfl; have hfz9_0 := blk_frozen BK338.out 0; have hfz9_1 := blk_frozen BK338.out 1) | ((with_reducible refine gate_callee (f := 50) rfl ?_); refine goesL_ (some 20) rfl rfl Try.func50 (by kernel_rfl) rfl #[.agg #[.string a0_0, .slice A0_1 l0_1.length c0_1], .string (⟨#[116, 114, 97, 110, 115, 102, 101, 114, 45, 101, 110, 99, 111, 100, 105, 110, 103]⟩ : ByteArray)] rfl (by (try simp only [List.map_toArray, List.map_cons, List.map_nil]); rfl) ?_; (with_reducible refine (spec_FieldOf.calls k a0_0 _ _ l0_1 (⟨#[116, 114, 97, 110, 115, 102, 101, 114, 45, 101, 110, 99, 111, 100, 105, 110, 103]⟩ : ByteArray) t342 t343 _ ?side1 ?side2 A4.out).mono ?_); (case side1 => repeat (exact (Kd.C_below HR0_1.out HB.out))); (case side2 => exact HC0_1.out); rintro e w10 ⟨rfl, hb⟩; refine ⟨_, rfl, ?_⟩; have n0_ := Aside0.mk (blk_below (g := gb338) (o := .cells #[.string a0_0, .slice A0_1 l0_1.length c0_1] 48 (0, 0)) (by (with_reducible repeat (first | refine blk_drewN ?_ _ | refine blk_drew ?_ | refine blk_alloc ?_ _ )); exact BK338.out) hb); have n1_ := Aside0.mk (below_step (by repeat ((with_reducible exact HB.out))) hb); clear BK338; clear HB; have BK338 := n0_; have HB := n1_; clear n0_ n1_; (try clear hb); (try clear hb2); (try clear hk); (try clear hi)))
  (try simp only [Act.put, List.setIfInBounds_toArray, List.set_cons_zero, List.set_cons_succ])
  have H := HS5.out
  clear HS5
  by_cases c11 : t343 = true
  · subst c11
    have H1 : (if t340 > 0 then (some ((⟨#[]⟩ : ByteArray), 0, 2)) else (if t342.toList = ([99, 104, 117, 110, 107, 101, 100] : List UInt8) then ((spec_ReadChunks.f k a1).bind fun bt344 => (some (bt344.1, bt344.2.1, bt344.2.2))) else (some ((⟨#[]⟩ : ByteArray), 0, 2)))) = some (r1, r2, r3) := by rw [if_pos rfl] at H; exact H
    clear H
    have H := H1
    clear H1
    by_cases c12 : t340 > 0
    · rw [if_pos c12] at H
      have c12b0 : decide (0 < t340) = true := decide_eq_true c12
      clear c12
      (skip)
      simp only [Option.some.injEq, Prod.mk.injEq] at H
      obtain ⟨rfl, rfl, rfl⟩ := H
      go_wp2
      go_ret3
      exact ⟨by rfl, by repeat ((with_reducible exact HB.out))⟩
    · rw [if_neg c12] at H
      have c12b0 : decide (0 < t340) = false := decide_eq_false c12
      clear c12
      (skip)
      by_cases c13 : t342.toList = ([99, 104, 117, 110, 107, 101, 100] : List UInt8)
      · rw [if_pos c13] at H
        have c13b0 : (t342.toList == ([99, 104, 117, 110, 107, 101, 100] : List UInt8)) = true := beq_iff_eq.mpr c13
        have c13b1 : (t342.toList != ([99, 104, 117, 110, 107, 101, 100] : List UInt8)) = false := bne_eq_false_iff_eq.mpr c13
        clear c13
        replace H := Option.bind_eq_some_iff.mp H
        obtain ⟨⟨t344, t345, t346⟩, A140, H⟩ := H
        replace H : (some (t344, t345, t346)) = some (r1, r2, r3) := H
        have A14 := Aside0.mk A140
        clear A140
        simp only [Option.some.injEq, Prod.mk.injEq] at H
        obtain ⟨rfl, rfl, rfl⟩ := H
        go_wp2_with (((with_reducible refine gate_callee (f := 18) rfl ?_); refine goesL_ (some 31) rfl rfl Try.func18 (by kernel_rfl) rfl #[.string a1] rfl (by (try simp only [List.map_toArray, List.map_cons, List.map_nil]); rfl) ?_; (with_reducible refine (spec_ReadChunks.calls k a1 t344 t345 t346 _ A14.out).mono ?_); rintro e w' ⟨rfl, ⟨nd, rfl⟩⟩; refine ⟨_, rfl, ?_⟩))
        go_ret3
        exact ⟨by rfl, by repeat ((with_reducible first | exact HB.out | apply pw_below_drewN))⟩
      · rw [if_neg c13] at H
        have c13b0 : (t342.toList == ([99, 104, 117, 110, 107, 101, 100] : List UInt8)) = false := beq_eq_false_iff_ne.mpr c13
        have c13b1 : (t342.toList != ([99, 104, 117, 110, 107, 101, 100] : List UInt8)) = true := bne_iff_ne.mpr c13
        simp only [Option.some.injEq, Prod.mk.injEq] at H
        obtain ⟨rfl, rfl, rfl⟩ := H
        go_wp2
        go_ret3
        exact ⟨by rfl, by repeat ((with_reducible exact HB.out))⟩
  · replace c11 := Bool.eq_false_iff.mpr c11
    subst c11
    have H1 : (if t340 = 0 then (some ((⟨#[]⟩ : ByteArray), 0, 0)) else (if t341 = true then (spec_BodyOf.j0 k a1 t339 (decide (t339 > 400))) else (spec_BodyOf.j0 k a1 t339 true))) = some (r1, r2, r3) := by rw [if_neg (show ¬ (false = true) by decide)] at H; exact H
    clear H
    have H := H1
    clear H1
    by_cases c15 : t340 = 0
    · rw [if_pos c15] at H
      have c15b0 : (t340 == 0) = true := beq_iff_eq.mpr c15
      have c15b1 : (t340 != 0) = false := bne_eq_false_iff_eq.mpr c15
      clear c15
      simp only [Option.some.injEq, Prod.mk.injEq] at H
      obtain ⟨rfl, rfl, rfl⟩ := H
      go_wp2
      go_ret3
      exact ⟨by rfl, by repeat ((with_reducible exact HB.out))⟩
    · rw [if_neg c15] at H
      have c15b0 : (t340 == 0) = false := beq_eq_false_iff_ne.mpr c15
      have c15b1 : (t340 != 0) = true := bne_iff_ne.mpr c15
      have HC16 := Aside0.mk H
      clear H
      go_upto_region 9 with (fail)
      go_cut [42] (fun v42 wc => ∃ (kq : Nat) (x42_15 : Bool), v42 = .bool x42_15 ∧ Aside0 (spec_BodyOf.j0 kq a1 t339 x42_15 = some (r1, r2, r3)) ∧ Aside0 (kq ≤ k) ∧ Aside0 (wc.heap[gb338]? = some (.cells #[.string a0_0, (.slice A0_1 l0_1.length c0_1)] 48 (0, 0))) ∧ Aside0 (Below w.heap.size w wc))
      case first =>
        have H := HC16.out
        clear HC16
        by_cases c17 : t341 = true
        · subst c17
          have H1 : (spec_BodyOf.j0 k a1 t339 (decide (t339 > 400))) = some (r1, r2, r3) := by rw [if_pos rfl] at H; exact H
          clear H
          have H := H1
          clear H1
          have H' := Aside0.mk H
          clear H
          go_wp2
          go_meet
          case rel => exact ⟨_, (decide (t339 > 400)), (by rfl), H', ⟨by omega⟩, ⟨by (with_reducible repeat (first | refine blk_drewN ?_ _ | refine blk_drew ?_ | refine blk_alloc ?_ _ )); exact BK338.out⟩, ⟨by repeat ((with_reducible exact HB.out))⟩⟩
        · replace c17 := Bool.eq_false_iff.mpr c17
          subst c17
          have H1 : (spec_BodyOf.j0 k a1 t339 true) = some (r1, r2, r3) := by rw [if_neg (show ¬ (false = true) by decide)] at H; exact H
          clear H
          have H := H1
          clear H1
          have H' := Aside0.mk H
          clear H
          go_wp2
          go_meet
          case rel => exact ⟨_, (true), (by rfl), H', ⟨by omega⟩, ⟨by (with_reducible repeat (first | refine blk_drewN ?_ _ | refine blk_drew ?_ | refine blk_alloc ?_ _ )); exact BK338.out⟩, ⟨by repeat ((with_reducible exact HB.out))⟩⟩
      case rest =>
        clear HC16
        clear c15
        clear c15b0
        clear c15b1
        clear hcz7_0
        clear hcz7_1
        clear hcz9_0
        clear hcz9_1
        clear hfz7_0
        clear hfz7_1
        clear hfz9_0
        clear hfz9_1
        obtain ⟨kq, x42_15, rfl, HA, HJ15, BK338, HB⟩ := hcut
        cases kq with
        | zero => exact absurd HA.out (by simp [spec_BodyOf.j0])
        | succ kj15 =>
          have H := HA.out
          clear HA
          simp only [spec_BodyOf.j0] at H
          by_cases c18 : x42_15 = true
          · subst c18
            have H1 : (some ((⟨#[]⟩ : ByteArray), 0, 2)) = some (r1, r2, r3) := by rw [if_pos rfl] at H; exact H
            clear H
            have H := H1
            clear H1
            simp only [Option.some.injEq, Prod.mk.injEq] at H
            obtain ⟨rfl, rfl, rfl⟩ := H
            go_wp2
            go_ret3
            exact ⟨by rfl, by repeat ((with_reducible exact HB.out))⟩
          · replace c18 := Bool.eq_false_iff.mpr c18
            subst c18
            have H1 : (if t339 > (a1.size : Int) then (some ((⟨#[]⟩ : ByteArray), 0, 1)) else (if 0 ≤ t339 then (if t339 ≤ (a1.size : Int) then (some (a1.extract 0 (t339 : Int).toNat, t339, 0)) else (none)) else (none))) = some (r1, r2, r3) := by rw [if_neg (show ¬ (false = true) by decide)] at H; exact H
            clear H
            have H := H1
            clear H1
            by_cases c19 : t339 > (a1.size : Int)
            · rw [if_pos c19] at H
              have c19b0 : decide ((a1.size : Int) < t339) = true := decide_eq_true c19
              clear c19
              simp only [Option.some.injEq, Prod.mk.injEq] at H
              obtain ⟨rfl, rfl, rfl⟩ := H
              go_wp2
              go_ret3
              exact ⟨by rfl, by repeat ((with_reducible exact HB.out))⟩
            · rw [if_neg c19] at H
              have c19b0 : decide ((a1.size : Int) < t339) = false := decide_eq_false c19
              clear c19
              by_cases c20 : 0 ≤ t339
              · rw [if_pos c20] at H
                have c20b0 := eq_true c20
                have c20b1 : decide (0 ≤ t339) = true := decide_eq_true c20
                clear c20
                by_cases c21 : t339 ≤ (a1.size : Int)
                · rw [if_pos c21] at H
                  have c21b0 := eq_true c21
                  have c21b1 : decide (t339 ≤ (a1.size : Int)) = true := decide_eq_true c21
                  clear c21
                  simp only [Option.some.injEq, Prod.mk.injEq] at H
                  obtain ⟨rfl, rfl, rfl⟩ := H
                  go_wp2
                  go_ret3
                  exact ⟨by rfl, by repeat ((with_reducible exact HB.out))⟩
                · rw [if_neg c21] at H
                  exact absurd H (by simp)
              · rw [if_neg c20] at H
                exact absurd H (by simp)
end Go.Proofs.Ythjigecaojaalaa.Q
