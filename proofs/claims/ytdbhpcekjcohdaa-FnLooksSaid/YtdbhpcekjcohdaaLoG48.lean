import Derived.Test.YtdbhpcekjcohdaaLoB0
import Derived.Test.YtdbhpcekjcohdaaLoWApart
import Derived.Test.YtdbhpcekjcohdaaLoWFoot
import Derived.Test.YtdbhpcekjcohdaaLoWGuard
import Derived.Test.YtdbhpcekjcohdaaLoWKept
import Derived.Test.YtdbhpcekjcohdaaLoWLast
import Derived.Test.YtdbhpcekjcohdaaLoWMore
import Derived.Test.YtdbhpcekjcohdaaLoWN
import Derived.Test.YtdbhpcekjcohdaaLoWRepsOne
import Derived.Test.YtdbhpcekjcohdaaLoWShare
import Derived.Test.YtdbhpcekjcohdaaLoWWords
namespace Go.Proofs.Ytdbhpcekjcohdaa.Q
open Go.RowKit Go.Proofs.YtdbhpcekjcohdaaW.PrintWords Go.Proofs.YtdbhpcekjcohdaaW.PrintLast Go.Proofs.YtdbhpcekjcohdaaW.PrintMore
attribute [local go_sem] max2_int min2_int max_two min_two max_three min_three max_four min_four   -- for this text's walks alone
set_option linter.unusedVariables false
set_option linter.unusedSimpArgs false
def spec_l01In.f (a0 : Int) (a1 : Int) (a2 : Int) : Option (Bool) := if a0 ≥ a1 then (some (decide (a0 ≤ a2))) else (some false)
set_option maxHeartbeats 8000000 in
set_option maxRecDepth 100000 in
theorem spec_l01In.calls (a0 : Int) (a1 : Int) (a2 : Int) (r : Bool) (w : World) (h : spec_l01In.f a0 a1 a2 = some r) :
    Calls Try.prog 48 #[.int .i64 a0, .int .i64 a1, .int .i64 a2] w fun e w' => e = .returned (.bool r) ∧ w = w' := by
  have H : (if a0 ≥ a1 then (some (decide (a0 ≤ a2))) else (some false)) = some r := h
  clear h
  by_cases c4 : a0 ≥ a1
  · rw [if_pos c4] at H
    have c4b0 : decide (a1 ≤ a0) = true := decide_eq_true c4
    clear c4
    obtain rfl := Option.some.inj H
    go_enter Try.func48, Try.ntmps48
    go_wp2
    go_ret
    exact ⟨by rfl, rfl⟩
  · rw [if_neg c4] at H
    have c4b0 : decide (a1 ≤ a0) = false := decide_eq_false c4
    clear c4
    obtain rfl := Option.some.inj H
    go_enter Try.func48, Try.ntmps48
    go_wp2
    go_ret
    exact ⟨by rfl, rfl⟩
mutual
def spec_EpochsOk.j0 : Nat → Bool → Int → List Int → List (S57) → Option (Bool)
  | 0, _, _, _, _ => none
  | k + 1, x21, x175000, x175001, x175002 => if x21 = true then (some false) else (spec_EpochsOk.l0 k 0 x175000 x175001 x175002)
def spec_EpochsOk.l0 : Nat → Int → Int → List Int → List (S57) → Option (Bool)
  | 0, _, _, _, _ => none
  | k + 1, x3, x175000, x175001, x175002 => if x3 < (x175001.length : Int) then (if 0 ≤ x3 then (if (rd x175001 x3) = 0 then (spec_EpochsOk.l0 k (wrap64 (x3 + 1)) x175000 x175001 x175002) else (if (rd x175001 x3) = x175000 then (spec_EpochsOk.l0 k (wrap64 (x3 + 1)) x175000 x175001 x175002) else (if (rd x175001 x3) = (wrap64 (x175000 + 1)) then (spec_EpochsOk.l0 k (wrap64 (x3 + 1)) x175000 x175001 x175002) else (some false)))) else (none)) else (spec_EpochsOk.l1 k 0 x175000 x175001 x175002)
def spec_EpochsOk.l1 : Nat → Int → Int → List Int → List (S57) → Option (Bool)
  | 0, _, _, _, _ => none
  | k + 1, x4, x175000, x175001, x175002 => if x4 < (x175002.length : Int) then (if 0 ≤ x4 then ((spec_l01In.f ((rd_T57 x175002 x4).f0) 1 20).bind fun t181 => (if t181 = true then ((spec_l01In.f ((rd_T57 x175002 x4).f1) 0 x175000).bind fun t183 => (if t183 = true then (spec_EpochsOk.l1 k (wrap64 (x4 + 1)) x175000 x175001 x175002) else (some false))) else (some false))) else (none)) else (some true)
end
def spec_EpochsOk.f (k : Nat) (a0_0 : Int) (l0_1 : List Int) (l0_2 : List (S57)) : Option (Bool) := (spec_l01In.f a0_0 2 1000000000).bind fun t175 => (if t175 = true then ((spec_l01In.f (l0_1.length : Int) 1 4).bind fun t176 => (if t176 = true then (spec_EpochsOk.j0 k (decide ((l0_2.length : Int) > 40)) a0_0 l0_1 l0_2) else (spec_EpochsOk.j0 k true a0_0 l0_1 l0_2))) else (spec_EpochsOk.j0 k true a0_0 l0_1 l0_2))
set_option maxHeartbeats 8000000 in
set_option maxRecDepth 100000 in
theorem spec_EpochsOk.calls (k : Nat) (a0_0 : Int) (A0_1 : Option Addr) (c0_1 : Nat) (l0_1 : List Int) (A0_2 : Option Addr) (c0_2 : Nat) (l0_2 : List (S57)) (r : Bool) (w : World) (hr0_1 : Kd.C (Kd.int .i64) w A0_1 l0_1.length l0_1) (hc0_1 : l0_1.length ≤ c0_1) (hr0_2 : Kd.C k57 w A0_2 l0_2.length l0_2) (hc0_2 : l0_2.length ≤ c0_2) (h : spec_EpochsOk.f k a0_0 l0_1 l0_2 = some r) :
    Calls Try.prog 19 #[.agg #[.int .i64 a0_0, .slice A0_1 l0_1.length c0_1, .slice A0_2 l0_2.length c0_2]] w fun e w' => e = .returned (.bool r) ∧ Below w.heap.size w w' := by
  have hu25 := Try.underlying25
  have HR0_1 := Aside0.mk hr0_1
  have HC0_1 := Aside0.mk hc0_1
  clear hr0_1 hc0_1
  have HR0_2 := Aside0.mk hr0_2
  have HC0_2 := Aside0.mk hc0_2
  clear hr0_2 hc0_2
  have HB := Aside0.mk (Below.refl w.heap.size w)
  have H : ((spec_l01In.f a0_0 2 1000000000).bind fun t175 => (if t175 = true then ((spec_l01In.f (l0_1.length : Int) 1 4).bind fun t176 => (if t176 = true then (spec_EpochsOk.j0 k (decide ((l0_2.length : Int) > 40)) a0_0 l0_1 l0_2) else (spec_EpochsOk.j0 k true a0_0 l0_1 l0_2))) else (spec_EpochsOk.j0 k true a0_0 l0_1 l0_2))) = some r := h
  clear h
  have HC2 := Aside0.mk H
  clear H
  go_enter Try.func19, Try.ntmps19
  go_upto_region 1 with (((with_reducible refine gate_dst (N := 1) rfl ?_); (try (refine gate_guard (by rfl) ?_; dsimp only)); refine box_event ?hg (N := 1) ?hd (cs := #[.int .i64 a0_0, .slice A0_1 l0_1.length c0_1, .slice A0_2 l0_2.length c0_2]) (t := 25) ?hr ?_; (case hd => rfl); (case hg => rfl); (case hr => (go_simp; done)); intro gb174 hg w3 hbox hb; have n0_ := Aside0.mk (below_step (by repeat ((with_reducible exact HB.out))) hb); have n1_ := Aside0.mk (hbox); have n2_ := Aside0.mk ((by rw [hg]; exact (below_size (by repeat ((with_reducible exact HB.out)))) : w.heap.size ≤ gb174)); have n3_ := Aside0.mk ((by rw [hg]; exact (below_size (by repeat ((with_reducible exact HB.out)))) : w.heap.size ≤ gb174)); clear HB; have HB := n0_; have BK174 := n1_; have GW174 := n2_; have GE174 := n3_; clear n0_ n1_ n2_ n3_; clear hb hbox hg))
  (try simp only [Act.put, List.setIfInBounds_toArray, List.set_cons_zero, List.set_cons_succ])
  go_cut [21] (fun v21 wc => ∃ (kq : Nat) (x21_1 : Bool), v21 = .bool x21_1 ∧ Aside0 (spec_EpochsOk.j0 kq x21_1 a0_0 l0_1 l0_2 = some r) ∧ Aside0 (kq ≤ k) ∧ Aside0 (wc.heap[gb174]? = some (.cells #[.int .i64 a0_0, (.slice A0_1 l0_1.length c0_1), (.slice A0_2 l0_2.length c0_2)] 25 (0, 0))) ∧ Aside0 (Below w.heap.size w wc))
  case first =>
    have H := HC2.out
    clear HC2
    replace H := Option.bind_eq_some_iff.mp H
    obtain ⟨t175, A40, H⟩ := H
    replace H : (if t175 = true then ((spec_l01In.f (l0_1.length : Int) 1 4).bind fun t176 => (if t176 = true then (spec_EpochsOk.j0 k (decide ((l0_2.length : Int) > 40)) a0_0 l0_1 l0_2) else (spec_EpochsOk.j0 k true a0_0 l0_1 l0_2))) else (spec_EpochsOk.j0 k true a0_0 l0_1 l0_2)) = some r := H
    have A4 := Aside0.mk A40
    clear A40
    by_cases c5 : t175 = true
    · subst c5
      have H1 : ((spec_l01In.f (l0_1.length : Int) 1 4).bind fun t176 => (if t176 = true then (spec_EpochsOk.j0 k (decide ((l0_2.length : Int) > 40)) a0_0 l0_1 l0_2) else (spec_EpochsOk.j0 k true a0_0 l0_1 l0_2))) = some r := by rw [if_pos rfl] at H; exact H
      clear H
      have H := H1
      clear H1
      replace H := Option.bind_eq_some_iff.mp H
      obtain ⟨t176, A60, H⟩ := H
      replace H : (if t176 = true then (spec_EpochsOk.j0 k (decide ((l0_2.length : Int) > 40)) a0_0 l0_1 l0_2) else (spec_EpochsOk.j0 k true a0_0 l0_1 l0_2)) = some r := H
      have A6 := Aside0.mk A60
      clear A60
      by_cases c7 : t176 = true
      · subst c7
        have H1 : (spec_EpochsOk.j0 k (decide ((l0_2.length : Int) > 40)) a0_0 l0_1 l0_2) = some r := by rw [if_pos rfl] at H; exact H
        clear H
        have H := H1
        clear H1
        have H' := Aside0.mk H
        clear H
        have hcz8_0 : w3.cell? ⟨gb174, 0, none⟩ = some (.int .i64 a0_0) := (blk_cell BK174.out 0).trans rfl
        have hcz8_1 : w3.cell? ⟨gb174, 1, none⟩ = some (.slice A0_1 l0_1.length c0_1) := (blk_cell BK174.out 1).trans rfl
        have hcz8_2 : w3.cell? ⟨gb174, 2, none⟩ = some (.slice A0_2 l0_2.length c0_2) := (blk_cell BK174.out 2).trans rfl
        have hfz8_0 := blk_frozen BK174.out 0
        have hfz8_1 := blk_frozen BK174.out 1
        have hfz8_2 := blk_frozen BK174.out 2
        go_wp2_with (first | (go_at_call 48; (with_reducible refine (spec_l01In.calls a0_0 2 1000000000 true _ A4.out).mono ?_); rintro e w' ⟨rfl, rfl⟩; (try exact ⟨rfl, _, rfl⟩)) | (go_at_call 48; (with_reducible refine (spec_l01In.calls (l0_1.length : Int) 1 4 true _ A6.out).mono ?_); rintro e w' ⟨rfl, rfl⟩; (try exact ⟨rfl, _, rfl⟩)))
        go_meet
        case rel => exact ⟨_, (decide ((l0_2.length : Int) > 40)), (by rfl), H', ⟨by omega⟩, ⟨by (with_reducible repeat (first | refine blk_drewN ?_ _ | refine blk_drew ?_ | refine blk_alloc ?_ _ )); exact BK174.out⟩, ⟨by repeat ((with_reducible exact HB.out))⟩⟩
      · replace c7 := Bool.eq_false_iff.mpr c7
        subst c7
        have H1 : (spec_EpochsOk.j0 k true a0_0 l0_1 l0_2) = some r := by rw [if_neg (show ¬ (false = true) by decide)] at H; exact H
        clear H
        have H := H1
        clear H1
        have H' := Aside0.mk H
        clear H
        have hcz9_0 : w3.cell? ⟨gb174, 0, none⟩ = some (.int .i64 a0_0) := (blk_cell BK174.out 0).trans rfl
        have hcz9_1 : w3.cell? ⟨gb174, 1, none⟩ = some (.slice A0_1 l0_1.length c0_1) := (blk_cell BK174.out 1).trans rfl
        have hcz9_2 : w3.cell? ⟨gb174, 2, none⟩ = some (.slice A0_2 l0_2.length c0_2) := (blk_cell BK174.out 2).trans rfl
        have hfz9_0 := blk_frozen BK174.out 0
        have hfz9_1 := blk_frozen BK174.out 1
        have hfz9_2 := blk_frozen BK174.out 2
        go_wp2_with (first | (go_at_call 48; (with_reducible refine (spec_l01In.calls a0_0 2 1000000000 true _ A4.out).mono ?_); rintro e w' ⟨rfl, rfl⟩; (try exact ⟨rfl, _, rfl⟩)) | (go_at_call 48; (with_reducible refine (spec_l01In.calls (l0_1.length : Int) 1 4 false _ A6.out).mono ?_); rintro e w' ⟨rfl, rfl⟩; (try exact ⟨rfl, _, rfl⟩)))
        go_meet
        case rel => exact ⟨_, (true), (by rfl), H', ⟨by omega⟩, ⟨by (with_reducible repeat (first | refine blk_drewN ?_ _ | refine blk_drew ?_ | refine blk_alloc ?_ _ )); exact BK174.out⟩, ⟨by repeat ((with_reducible exact HB.out))⟩⟩
    · replace c5 := Bool.eq_false_iff.mpr c5
      subst c5
      have H1 : (spec_EpochsOk.j0 k true a0_0 l0_1 l0_2) = some r := by rw [if_neg (show ¬ (false = true) by decide)] at H; exact H
      clear H
      have H := H1
      clear H1
      have H' := Aside0.mk H
      clear H
      have hcz10_0 : w3.cell? ⟨gb174, 0, none⟩ = some (.int .i64 a0_0) := (blk_cell BK174.out 0).trans rfl
      have hcz10_1 : w3.cell? ⟨gb174, 1, none⟩ = some (.slice A0_1 l0_1.length c0_1) := (blk_cell BK174.out 1).trans rfl
      have hcz10_2 : w3.cell? ⟨gb174, 2, none⟩ = some (.slice A0_2 l0_2.length c0_2) := (blk_cell BK174.out 2).trans rfl
      have hfz10_0 := blk_frozen BK174.out 0
      have hfz10_1 := blk_frozen BK174.out 1
      have hfz10_2 := blk_frozen BK174.out 2
      go_wp2_with ((go_at_call 48; (with_reducible refine (spec_l01In.calls a0_0 2 1000000000 false _ A4.out).mono ?_); rintro e w' ⟨rfl, rfl⟩; (try exact ⟨rfl, _, rfl⟩)))
      go_meet
      case rel => exact ⟨_, (true), (by rfl), H', ⟨by omega⟩, ⟨by (with_reducible repeat (first | refine blk_drewN ?_ _ | refine blk_drew ?_ | refine blk_alloc ?_ _ )); exact BK174.out⟩, ⟨by repeat ((with_reducible exact HB.out))⟩⟩
  case rest =>
    clear HC2
    obtain ⟨kq, x21_1, rfl, HA, HJ1, BK174, HB⟩ := hcut
    cases kq with
    | zero => exact absurd HA.out (by simp [spec_EpochsOk.j0])
    | succ kj1 =>
      have H := HA.out
      clear HA
      simp only [spec_EpochsOk.j0] at H
      by_cases c11 : x21_1 = true
      · subst c11
        have H1 : (some false) = some r := by rw [if_pos rfl] at H; exact H
        clear H
        have H := H1
        clear H1
        obtain rfl := Option.some.inj H
        go_wp2
        go_ret
        exact ⟨by rfl, by repeat ((with_reducible exact HB.out))⟩
      · replace c11 := Bool.eq_false_iff.mpr c11
        subst c11
        have H1 : (spec_EpochsOk.l0 kj1 0 a0_0 l0_1 l0_2) = some r := by rw [if_neg (show ¬ (false = true) by decide)] at H; exact H
        clear H
        have H := H1
        clear H1
        have H' := Aside0.mk H
        clear H
        go_wp2
        go_loopg [3] kj1 (fun kq v3 w' => ∃ (x3_2 : Int), v3 = .int .i64 x3_2 ∧ Aside0 (spec_EpochsOk.l0 kq x3_2 a0_0 l0_1 l0_2 = some r) ∧ Aside0 (kq ≤ kj1) ∧ Aside0 (w'.heap[gb174]? = some (.cells #[.int .i64 a0_0, (.slice A0_1 l0_1.length c0_1), (.slice A0_2 l0_2.length c0_2)] 25 (0, 0))) ∧ Aside0 (Below w.heap.size w w'))
        case atStart => exact ⟨(0), (by rfl), H', ⟨Nat.le_refl _⟩, ⟨by (with_reducible repeat (first | refine blk_drewN ?_ _ | refine blk_drew ?_ | refine blk_alloc ?_ _ )); exact BK174.out⟩, ⟨by repeat ((with_reducible exact HB.out))⟩⟩
        case round =>
          clear H'
          obtain ⟨x3_2, rfl, HA, HK2, BK174, HB⟩ := hrel
          cases gk with
          | zero => exact absurd HA.out (by simp [spec_EpochsOk.l0])
          | succ k2 =>
            have H := HA.out
            clear HA
            simp only [spec_EpochsOk.l0] at H
            by_cases c12 : x3_2 < (l0_1.length : Int)
            · rw [if_pos c12] at H
              have c12b0 : decide (x3_2 < (l0_1.length : Int)) = true := decide_eq_true c12
              clear c12
              by_cases c13 : 0 ≤ x3_2
              · rw [if_pos c13] at H
                have c13b0 : decide (0 ≤ x3_2) = true := decide_eq_true c13
                clear c13
                by_cases c14 : (rd l0_1 x3_2) = 0
                · rw [if_pos c14] at H
                  have c14b0 : ((rd l0_1 x3_2) == 0) = true := beq_iff_eq.mpr c14
                  have c14b1 : ((rd l0_1 x3_2) != 0) = false := bne_eq_false_iff_eq.mpr c14
                  clear c14
                  have H' := Aside0.mk H
                  clear H
                  have hcz15_0 : wr.cell? ⟨gb174, 0, none⟩ = some (.int .i64 a0_0) := (blk_cell BK174.out 0).trans rfl
                  have hcz15_1 : wr.cell? ⟨gb174, 1, none⟩ = some (.slice A0_1 l0_1.length c0_1) := (blk_cell BK174.out 1).trans rfl
                  have hcz15_2 : wr.cell? ⟨gb174, 2, none⟩ = some (.slice A0_2 l0_2.length c0_2) := (blk_cell BK174.out 2).trans rfl
                  have hfz15_0 := blk_frozen BK174.out 0
                  have hfz15_1 := blk_frozen BK174.out 1
                  have hfz15_2 := blk_frozen BK174.out 2
                  have p177 : 0 ≤ (x3_2 : Int) := of_decide_eq_true (by (with_reducible assumption))
                  have q177 : x3_2 < (l0_1.length : Int) := of_decide_eq_true (by (with_reducible assumption))
                  obtain ⟨ad177, e177, hx177_0⟩ := Kd.at_int HR0_1.out x3_2 p177 q177
                  cases e177
                  replace hx177_0 := (HB.out.cell (World.block_lt_of_cell? w _ hx177_0)).trans hx177_0
                  replace p177 := eq_true p177
                  replace q177 := eq_true q177
                  go_wp2
                  repeat (go_quiet (fail); try go_wp2)
                  go_roundg k2
                  case measure => have := HJ1.out; have := HK2.out; omega
                  case rel => exact ⟨(wrap64 (x3_2 + 1)), (by rfl), H', ⟨by have := HJ1.out; have := HK2.out; omega⟩, ⟨by (with_reducible repeat (refine blk_drewN ?_ _)); exact BK174.out⟩, ⟨by repeat ((with_reducible first | exact HB.out | apply pw_below_drewN))⟩⟩
                · rw [if_neg c14] at H
                  have c14b0 : ((rd l0_1 x3_2) == 0) = false := beq_eq_false_iff_ne.mpr c14
                  have c14b1 : ((rd l0_1 x3_2) != 0) = true := bne_iff_ne.mpr c14
                  by_cases c16 : (rd l0_1 x3_2) = a0_0
                  · rw [if_pos c16] at H
                    have c16b0 : ((rd l0_1 x3_2) == a0_0) = true := beq_iff_eq.mpr c16
                    have c16b1 : ((rd l0_1 x3_2) != a0_0) = false := bne_eq_false_iff_eq.mpr c16
                    clear c16
                    have H' := Aside0.mk H
                    clear H
                    have hcz17_0 : wr.cell? ⟨gb174, 0, none⟩ = some (.int .i64 a0_0) := (blk_cell BK174.out 0).trans rfl
                    have hcz17_1 : wr.cell? ⟨gb174, 1, none⟩ = some (.slice A0_1 l0_1.length c0_1) := (blk_cell BK174.out 1).trans rfl
                    have hcz17_2 : wr.cell? ⟨gb174, 2, none⟩ = some (.slice A0_2 l0_2.length c0_2) := (blk_cell BK174.out 2).trans rfl
                    have hfz17_0 := blk_frozen BK174.out 0
                    have hfz17_1 := blk_frozen BK174.out 1
                    have hfz17_2 := blk_frozen BK174.out 2
                    have p177 : 0 ≤ (x3_2 : Int) := of_decide_eq_true (by (with_reducible assumption))
                    have q177 : x3_2 < (l0_1.length : Int) := of_decide_eq_true (by (with_reducible assumption))
                    obtain ⟨ad177, e177, hx177_0⟩ := Kd.at_int HR0_1.out x3_2 p177 q177
                    cases e177
                    replace hx177_0 := (HB.out.cell (World.block_lt_of_cell? w _ hx177_0)).trans hx177_0
                    replace p177 := eq_true p177
                    replace q177 := eq_true q177
                    have p178 : 0 ≤ (x3_2 : Int) := of_decide_eq_true (by (with_reducible assumption))
                    have q178 : x3_2 < (l0_1.length : Int) := of_decide_eq_true (by (with_reducible assumption))
                    obtain ⟨ad178, e178, hx178_0⟩ := Kd.at_int HR0_1.out x3_2 p178 q178
                    obtain rfl : ad177 = ad178 := (by injection e178)
                    replace hx178_0 := (HB.out.cell (World.block_lt_of_cell? w _ hx178_0)).trans hx178_0
                    replace p178 := eq_true p178
                    replace q178 := eq_true q178
                    go_wp2
                    repeat (go_quiet (fail); try go_wp2)
                    go_roundg k2
                    case measure => have := HJ1.out; have := HK2.out; omega
                    case rel => exact ⟨(wrap64 (x3_2 + 1)), (by rfl), H', ⟨by have := HJ1.out; have := HK2.out; omega⟩, ⟨by (with_reducible repeat (refine blk_drewN ?_ _)); exact BK174.out⟩, ⟨by repeat ((with_reducible first | exact HB.out | apply pw_below_drewN))⟩⟩
                  · rw [if_neg c16] at H
                    have c16b0 : ((rd l0_1 x3_2) == a0_0) = false := beq_eq_false_iff_ne.mpr c16
                    have c16b1 : ((rd l0_1 x3_2) != a0_0) = true := bne_iff_ne.mpr c16
                    by_cases c18 : (rd l0_1 x3_2) = (wrap64 (a0_0 + 1))
                    · rw [if_pos c18] at H
                      have c18b0 : ((rd l0_1 x3_2) == (wrap64 (a0_0 + 1))) = true := beq_iff_eq.mpr c18
                      have c18b1 : ((rd l0_1 x3_2) != (wrap64 (a0_0 + 1))) = false := bne_eq_false_iff_eq.mpr c18
                      clear c18
                      have H' := Aside0.mk H
                      clear H
                      have hcz19_0 : wr.cell? ⟨gb174, 0, none⟩ = some (.int .i64 a0_0) := (blk_cell BK174.out 0).trans rfl
                      have hcz19_1 : wr.cell? ⟨gb174, 1, none⟩ = some (.slice A0_1 l0_1.length c0_1) := (blk_cell BK174.out 1).trans rfl
                      have hcz19_2 : wr.cell? ⟨gb174, 2, none⟩ = some (.slice A0_2 l0_2.length c0_2) := (blk_cell BK174.out 2).trans rfl
                      have hfz19_0 := blk_frozen BK174.out 0
                      have hfz19_1 := blk_frozen BK174.out 1
                      have hfz19_2 := blk_frozen BK174.out 2
                      have p177 : 0 ≤ (x3_2 : Int) := of_decide_eq_true (by (with_reducible assumption))
                      have q177 : x3_2 < (l0_1.length : Int) := of_decide_eq_true (by (with_reducible assumption))
                      obtain ⟨ad177, e177, hx177_0⟩ := Kd.at_int HR0_1.out x3_2 p177 q177
                      cases e177
                      replace hx177_0 := (HB.out.cell (World.block_lt_of_cell? w _ hx177_0)).trans hx177_0
                      replace p177 := eq_true p177
                      replace q177 := eq_true q177
                      have p178 : 0 ≤ (x3_2 : Int) := of_decide_eq_true (by (with_reducible assumption))
                      have q178 : x3_2 < (l0_1.length : Int) := of_decide_eq_true (by (with_reducible assumption))
                      obtain ⟨ad178, e178, hx178_0⟩ := Kd.at_int HR0_1.out x3_2 p178 q178
                      obtain rfl : ad177 = ad178 := (by injection e178)
                      replace hx178_0 := (HB.out.cell (World.block_lt_of_cell? w _ hx178_0)).trans hx178_0
                      replace p178 := eq_true p178
                      replace q178 := eq_true q178
                      have p179 : 0 ≤ (x3_2 : Int) := of_decide_eq_true (by (with_reducible assumption))
                      have q179 : x3_2 < (l0_1.length : Int) := of_decide_eq_true (by (with_reducible assumption))
                      obtain ⟨ad179, e179, hx179_0⟩ := Kd.at_int HR0_1.out x3_2 p179 q179
                      obtain rfl : ad177 = ad179 := (by injection e179)
                      replace hx179_0 := (HB.out.cell (World.block_lt_of_cell? w _ hx179_0)).trans hx179_0
                      replace p179 := eq_true p179
                      replace q179 := eq_true q179
                      go_wp2
                      repeat (go_quiet (fail); try go_wp2)
                      go_roundg k2
                      case measure => have := HJ1.out; have := HK2.out; omega
                      case rel => exact ⟨(wrap64 (x3_2 + 1)), (by rfl), H', ⟨by have := HJ1.out; have := HK2.out; omega⟩, ⟨by (with_reducible repeat (refine blk_drewN ?_ _)); exact BK174.out⟩, ⟨by repeat ((with_reducible first | exact HB.out | apply pw_below_drewN))⟩⟩
                    · rw [if_neg c18] at H
                      have c18b0 : ((rd l0_1 x3_2) == (wrap64 (a0_0 + 1))) = false := beq_eq_false_iff_ne.mpr c18
                      have c18b1 : ((rd l0_1 x3_2) != (wrap64 (a0_0 + 1))) = true := bne_iff_ne.mpr c18
                      obtain rfl := Option.some.inj H
                      have hcz20_0 : wr.cell? ⟨gb174, 0, none⟩ = some (.int .i64 a0_0) := (blk_cell BK174.out 0).trans rfl
                      have hcz20_1 : wr.cell? ⟨gb174, 1, none⟩ = some (.slice A0_1 l0_1.length c0_1) := (blk_cell BK174.out 1).trans rfl
                      have hcz20_2 : wr.cell? ⟨gb174, 2, none⟩ = some (.slice A0_2 l0_2.length c0_2) := (blk_cell BK174.out 2).trans rfl
                      have hfz20_0 := blk_frozen BK174.out 0
                      have hfz20_1 := blk_frozen BK174.out 1
                      have hfz20_2 := blk_frozen BK174.out 2
                      have p177 : 0 ≤ (x3_2 : Int) := of_decide_eq_true (by (with_reducible assumption))
                      have q177 : x3_2 < (l0_1.length : Int) := of_decide_eq_true (by (with_reducible assumption))
                      obtain ⟨ad177, e177, hx177_0⟩ := Kd.at_int HR0_1.out x3_2 p177 q177
                      cases e177
                      replace hx177_0 := (HB.out.cell (World.block_lt_of_cell? w _ hx177_0)).trans hx177_0
                      replace p177 := eq_true p177
                      replace q177 := eq_true q177
                      have p178 : 0 ≤ (x3_2 : Int) := of_decide_eq_true (by (with_reducible assumption))
                      have q178 : x3_2 < (l0_1.length : Int) := of_decide_eq_true (by (with_reducible assumption))
                      obtain ⟨ad178, e178, hx178_0⟩ := Kd.at_int HR0_1.out x3_2 p178 q178
                      obtain rfl : ad177 = ad178 := (by injection e178)
                      replace hx178_0 := (HB.out.cell (World.block_lt_of_cell? w _ hx178_0)).trans hx178_0
                      replace p178 := eq_true p178
                      replace q178 := eq_true q178
                      have p179 : 0 ≤ (x3_2 : Int) := of_decide_eq_true (by (with_reducible assumption))
                      have q179 : x3_2 < (l0_1.length : Int) := of_decide_eq_true (by (with_reducible assumption))
                      obtain ⟨ad179, e179, hx179_0⟩ := Kd.at_int HR0_1.out x3_2 p179 q179
                      obtain rfl : ad177 = ad179 := (by injection e179)
                      replace hx179_0 := (HB.out.cell (World.block_lt_of_cell? w _ hx179_0)).trans hx179_0
                      replace p179 := eq_true p179
                      replace q179 := eq_true q179
                      go_wp2
                      repeat (go_quiet (fail); try go_wp2)
                      go_ret
                      exact ⟨by rfl, by repeat ((with_reducible first | exact HB.out | apply pw_below_drewN))⟩
              · rw [if_neg c13] at H
                exact absurd H (by simp)
            · rw [if_neg c12] at H
              have c12b0 : decide (x3_2 < (l0_1.length : Int)) = false := decide_eq_false c12
              clear c12
              have H' := Aside0.mk H
              clear H
              have hcz21_0 : wr.cell? ⟨gb174, 0, none⟩ = some (.int .i64 a0_0) := (blk_cell BK174.out 0).trans rfl
              have hcz21_1 : wr.cell? ⟨gb174, 1, none⟩ = some (.slice A0_1 l0_1.length c0_1) := (blk_cell BK174.out 1).trans rfl
              have hcz21_2 : wr.cell? ⟨gb174, 2, none⟩ = some (.slice A0_2 l0_2.length c0_2) := (blk_cell BK174.out 2).trans rfl
              have hfz21_0 := blk_frozen BK174.out 0
              have hfz21_1 := blk_frozen BK174.out 1
              have hfz21_2 := blk_frozen BK174.out 2
              go_wp2
              go_loopg [4] k2 (fun kq v4 w' => ∃ (x4_3 : Int), v4 = .int .i64 x4_3 ∧ Aside0 (spec_EpochsOk.l1 kq x4_3 a0_0 l0_1 l0_2 = some r) ∧ Aside0 (kq ≤ k2) ∧ Aside0 (w'.heap[gb174]? = some (.cells #[.int .i64 a0_0, (.slice A0_1 l0_1.length c0_1), (.slice A0_2 l0_2.length c0_2)] 25 (0, 0))) ∧ Aside0 (Below w.heap.size w w'))
              case atStart => exact ⟨(0), (by rfl), H', ⟨Nat.le_refl _⟩, ⟨by (with_reducible repeat (first | refine blk_drewN ?_ _ | refine blk_drew ?_ | refine blk_alloc ?_ _ )); exact BK174.out⟩, ⟨by repeat ((with_reducible exact HB.out))⟩⟩
              case round =>
                clear H'
                clear c12b0
                clear hcz21_0
                clear hcz21_1
                clear hcz21_2
                clear hfz21_0
                clear hfz21_1
                clear hfz21_2
                obtain ⟨x4_3, rfl, HA, HK3, BK174, HB⟩ := hrel
                cases gk with
                | zero => exact absurd HA.out (by simp [spec_EpochsOk.l1])
                | succ k3 =>
                  have H := HA.out
                  clear HA
                  simp only [spec_EpochsOk.l1] at H
                  by_cases c22 : x4_3 < (l0_2.length : Int)
                  · rw [if_pos c22] at H
                    have c22b0 : decide (x4_3 < (l0_2.length : Int)) = true := decide_eq_true c22
                    clear c22
                    by_cases c23 : 0 ≤ x4_3
                    · rw [if_pos c23] at H
                      have c23b0 : decide (0 ≤ x4_3) = true := decide_eq_true c23
                      clear c23
                      replace H := Option.bind_eq_some_iff.mp H
                      obtain ⟨t181, A240, H⟩ := H
                      replace H : (if t181 = true then ((spec_l01In.f ((rd_T57 l0_2 x4_3).f1) 0 a0_0).bind fun t183 => (if t183 = true then (spec_EpochsOk.l1 k3 (wrap64 (x4_3 + 1)) a0_0 l0_1 l0_2) else (some false))) else (some false)) = some r := H
                      have A24 := Aside0.mk A240
                      clear A240
                      by_cases c25 : t181 = true
                      · subst c25
                        have H1 : ((spec_l01In.f ((rd_T57 l0_2 x4_3).f1) 0 a0_0).bind fun t183 => (if t183 = true then (spec_EpochsOk.l1 k3 (wrap64 (x4_3 + 1)) a0_0 l0_1 l0_2) else (some false))) = some r := by rw [if_pos rfl] at H; exact H
                        clear H
                        have H := H1
                        clear H1
                        replace H := Option.bind_eq_some_iff.mp H
                        obtain ⟨t183, A260, H⟩ := H
                        replace H : (if t183 = true then (spec_EpochsOk.l1 k3 (wrap64 (x4_3 + 1)) a0_0 l0_1 l0_2) else (some false)) = some r := H
                        have A26 := Aside0.mk A260
                        clear A260
                        have HS27 := Aside0.mk H
                        clear H
                        have hcz28_0 : wr.cell? ⟨gb174, 0, none⟩ = some (.int .i64 a0_0) := (blk_cell BK174.out 0).trans rfl
                        have hcz28_1 : wr.cell? ⟨gb174, 1, none⟩ = some (.slice A0_1 l0_1.length c0_1) := (blk_cell BK174.out 1).trans rfl
                        have hcz28_2 : wr.cell? ⟨gb174, 2, none⟩ = some (.slice A0_2 l0_2.length c0_2) := (blk_cell BK174.out 2).trans rfl
                        have hfz28_0 := blk_frozen BK174.out 0
                        have hfz28_1 := blk_frozen BK174.out 1
                        have hfz28_2 := blk_frozen BK174.out 2
                        have p180 : 0 ≤ (x4_3 : Int) := of_decide_eq_true (by (with_reducible assumption))
                        have q180 : x4_3 < (l0_2.length : Int) := of_decide_eq_true (by (with_reducible assumption))
                        obtain ⟨ad180, e180, hx180_0, hx180_1⟩ := at_T57 HR0_2.out x4_3 p180 q180
                        cases e180
                        replace hx180_0 := (HB.out.cell (World.block_lt_of_cell? w _ hx180_0)).trans hx180_0
                        replace hx180_1 := (HB.out.cell (World.block_lt_of_cell? w _ hx180_1)).trans hx180_1
                        replace p180 := eq_true p180
                        replace q180 := eq_true q180
                        go_upto_if 82 with (first | (go_at_call 48; (with_reducible refine (spec_l01In.calls ((rd_T57 l0_2 x4_3).f0) 1 20 true _ A24.out).mono ?_); rintro e w' ⟨rfl, rfl⟩; (try exact ⟨rfl, _, rfl⟩); have p182 : 0 ≤ (x4_3 : Int) := of_decide_eq_true (by first | (with_reducible assumption) | assumption ); have q182 : x4_3 < (l0_2.length : Int) := of_decide_eq_true (by first | (with_reducible assumption) | assumption ); obtain ⟨ad182, e182, hx182_0, hx182_1⟩ := at_T57 HR0_2.out x4_3 p182 q182; obtain rfl : ad180 = ad182 := (by injection e182); replace hx182_0 := (HB.out.cell (World.block_lt_of_cell? w _ hx182_0)).trans hx182_0; replace hx182_1 := (HB.out.cell (World.block_lt_of_cell? w _ hx182_1)).trans hx182_1; replace p182 := eq_true p182; replace q182 := eq_true q182) | (go_at_call 48; (with_reducible refine (spec_l01In.calls ((rd_T57 l0_2 x4_3).f1) 0 a0_0 t183 _ A26.out).mono ?_); rintro e w' ⟨rfl, rfl⟩; (try exact ⟨rfl, _, rfl⟩)) )
                        repeat (go_quiet (first | (go_at_call 48; (with_reducible refine (spec_l01In.calls ((rd_T57 l0_2 x4_3).f0) 1 20 true _ A24.out).mono ?_); rintro e w' ⟨rfl, rfl⟩; (try exact ⟨rfl, _, rfl⟩); have p182 : 0 ≤ (x4_3 : Int) := of_decide_eq_true (by (with_reducible assumption)); have q182 : x4_3 < (l0_2.length : Int) := of_decide_eq_true (by (with_reducible assumption)); obtain ⟨ad182, e182, hx182_0, hx182_1⟩ := at_T57 HR0_2.out x4_3 p182 q182; obtain rfl : ad180 = ad182 := (by injection e182); replace hx182_0 := (HB.out.cell (World.block_lt_of_cell? w _ hx182_0)).trans hx182_0; replace hx182_1 := (HB.out.cell (World.block_lt_of_cell? w _ hx182_1)).trans hx182_1; replace p182 := eq_true p182; replace q182 := eq_true q182) | (go_at_call 48; (with_reducible refine (spec_l01In.calls ((rd_T57 l0_2 x4_3).f1) 0 a0_0 t183 _ A26.out).mono ?_); rintro e w' ⟨rfl, rfl⟩; (try exact ⟨rfl, _, rfl⟩))); go_upto_if 82 with (first | (go_at_call 48; (with_reducible refine (spec_l01In.calls ((rd_T57 l0_2 x4_3).f0) 1 20 true _ A24.out).mono ?_); rintro e w' ⟨rfl, rfl⟩; (try exact ⟨rfl, _, rfl⟩); have p182 : 0 ≤ (x4_3 : Int) := of_decide_eq_true (by first | (with_reducible assumption) | assumption ); have q182 : x4_3 < (l0_2.length : Int) := of_decide_eq_true (by first | (with_reducible assumption) | assumption ); obtain ⟨ad182, e182, hx182_0, hx182_1⟩ := at_T57 HR0_2.out x4_3 p182 q182; obtain rfl : ad180 = ad182 := (by injection e182); replace hx182_0 := (HB.out.cell (World.block_lt_of_cell? w _ hx182_0)).trans hx182_0; replace hx182_1 := (HB.out.cell (World.block_lt_of_cell? w _ hx182_1)).trans hx182_1; replace p182 := eq_true p182; replace q182 := eq_true q182) | (go_at_call 48; (with_reducible refine (spec_l01In.calls ((rd_T57 l0_2 x4_3).f1) 0 a0_0 t183 _ A26.out).mono ?_); rintro e w' ⟨rfl, rfl⟩; (try exact ⟨rfl, _, rfl⟩)) ))
                        (try simp only [Act.put, List.setIfInBounds_toArray, List.set_cons_zero, List.set_cons_succ])
                        have H := HS27.out
                        clear HS27
                        by_cases c29 : t183 = true
                        · subst c29
                          have H1 : (spec_EpochsOk.l1 k3 (wrap64 (x4_3 + 1)) a0_0 l0_1 l0_2) = some r := by rw [if_pos rfl] at H; exact H
                          clear H
                          have H := H1
                          clear H1
                          have H' := Aside0.mk H
                          clear H
                          go_wp2
                          go_roundg k3
                          case measure => have := HJ1.out; have := HK2.out; have := HK3.out; omega
                          case rel => exact ⟨(wrap64 (x4_3 + 1)), (by rfl), H', ⟨by have := HJ1.out; have := HK2.out; have := HK3.out; omega⟩, ⟨by (with_reducible repeat (refine blk_drewN ?_ _)); exact BK174.out⟩, ⟨by repeat ((with_reducible first | exact HB.out | apply pw_below_drewN))⟩⟩
                        · replace c29 := Bool.eq_false_iff.mpr c29
                          subst c29
                          have H1 : (some false) = some r := by rw [if_neg (show ¬ (false = true) by decide)] at H; exact H
                          clear H
                          have H := H1
                          clear H1
                          obtain rfl := Option.some.inj H
                          go_wp2
                          go_ret
                          exact ⟨by rfl, by repeat ((with_reducible first | exact HB.out | apply pw_below_drewN))⟩
                      · replace c25 := Bool.eq_false_iff.mpr c25
                        subst c25
                        have H1 : (some false) = some r := by rw [if_neg (show ¬ (false = true) by decide)] at H; exact H
                        clear H
                        have H := H1
                        clear H1
                        obtain rfl := Option.some.inj H
                        have hcz30_0 : wr.cell? ⟨gb174, 0, none⟩ = some (.int .i64 a0_0) := (blk_cell BK174.out 0).trans rfl
                        have hcz30_1 : wr.cell? ⟨gb174, 1, none⟩ = some (.slice A0_1 l0_1.length c0_1) := (blk_cell BK174.out 1).trans rfl
                        have hcz30_2 : wr.cell? ⟨gb174, 2, none⟩ = some (.slice A0_2 l0_2.length c0_2) := (blk_cell BK174.out 2).trans rfl
                        have hfz30_0 := blk_frozen BK174.out 0
                        have hfz30_1 := blk_frozen BK174.out 1
                        have hfz30_2 := blk_frozen BK174.out 2
                        have p180 : 0 ≤ (x4_3 : Int) := of_decide_eq_true (by (with_reducible assumption))
                        have q180 : x4_3 < (l0_2.length : Int) := of_decide_eq_true (by (with_reducible assumption))
                        obtain ⟨ad180, e180, hx180_0, hx180_1⟩ := at_T57 HR0_2.out x4_3 p180 q180
                        cases e180
                        replace hx180_0 := (HB.out.cell (World.block_lt_of_cell? w _ hx180_0)).trans hx180_0
                        replace hx180_1 := (HB.out.cell (World.block_lt_of_cell? w _ hx180_1)).trans hx180_1
                        replace p180 := eq_true p180
                        replace q180 := eq_true q180
                        go_wp2_with (first | (go_at_call 48; (with_reducible refine (spec_l01In.calls ((rd_T57 l0_2 x4_3).f0) 1 20 false _ A24.out).mono ?_); rintro e w' ⟨rfl, rfl⟩; (try exact ⟨rfl, _, rfl⟩)) )
                        repeat (go_quiet ((go_at_call 48; (with_reducible refine (spec_l01In.calls ((rd_T57 l0_2 x4_3).f0) 1 20 false _ A24.out).mono ?_); rintro e w' ⟨rfl, rfl⟩; (try exact ⟨rfl, _, rfl⟩))); try go_wp2_with (first | (go_at_call 48; (with_reducible refine (spec_l01In.calls ((rd_T57 l0_2 x4_3).f0) 1 20 false _ A24.out).mono ?_); rintro e w' ⟨rfl, rfl⟩; (try exact ⟨rfl, _, rfl⟩)) ))
                        go_ret
                        exact ⟨by rfl, by repeat ((with_reducible first | exact HB.out | apply pw_below_drewN))⟩
                    · rw [if_neg c23] at H
                      exact absurd H (by simp)
                  · rw [if_neg c22] at H
                    have c22b0 : decide (x4_3 < (l0_2.length : Int)) = false := decide_eq_false c22
                    clear c22
                    obtain rfl := Option.some.inj H
                    have hcz31_0 : wr.cell? ⟨gb174, 0, none⟩ = some (.int .i64 a0_0) := (blk_cell BK174.out 0).trans rfl
                    have hcz31_1 : wr.cell? ⟨gb174, 1, none⟩ = some (.slice A0_1 l0_1.length c0_1) := (blk_cell BK174.out 1).trans rfl
                    have hcz31_2 : wr.cell? ⟨gb174, 2, none⟩ = some (.slice A0_2 l0_2.length c0_2) := (blk_cell BK174.out 2).trans rfl
                    have hfz31_0 := blk_frozen BK174.out 0
                    have hfz31_1 := blk_frozen BK174.out 1
                    have hfz31_2 := blk_frozen BK174.out 2
                    go_wp2
                    go_ret
                    exact ⟨by rfl, by repeat ((with_reducible exact HB.out))⟩
def impl_within.f (a0 : Int) (a1 : Int) (a2 : Int) : Option (Bool) := if a0 ≥ a1 then (some (decide (a0 ≤ a2))) else (some false)
set_option maxHeartbeats 8000000 in
set_option maxRecDepth 100000 in
theorem impl_within.calls (a0 : Int) (a1 : Int) (a2 : Int) (r : Bool) (w : World) (h : impl_within.f a0 a1 a2 = some r) :
    Calls Try.prog 51 #[.int .i64 a0, .int .i64 a1, .int .i64 a2] w fun e w' => e = .returned (.bool r) ∧ w = w' := by
  have H : (if a0 ≥ a1 then (some (decide (a0 ≤ a2))) else (some false)) = some r := h
  clear h
  by_cases c4 : a0 ≥ a1
  · rw [if_pos c4] at H
    have c4b0 : decide (a1 ≤ a0) = true := decide_eq_true c4
    clear c4
    obtain rfl := Option.some.inj H
    go_enter Try.func51, Try.ntmps51
    go_wp2
    go_ret
    exact ⟨by rfl, rfl⟩
  · rw [if_neg c4] at H
    have c4b0 : decide (a1 ≤ a0) = false := decide_eq_false c4
    clear c4
    obtain rfl := Option.some.inj H
    go_enter Try.func51, Try.ntmps51
    go_wp2
    go_ret
    exact ⟨by rfl, rfl⟩
mutual
def impl_EpochsOk.l0 : Nat → List Int → Int → Int → Int → List Int → List (S57) → Option (Bool)
  | 0, _, _, _, _, _, _ => none
  | k + 1, x8, x9, x10, x209000, x209001, x209002 => if x10 < x9 then (if 0 ≤ x10 then (if x10 < (x8.length : Int) then (if (rd x8 x10) = 0 then (impl_EpochsOk.l0 k x8 x9 (wrap64 (x10 + 1)) x209000 x209001 x209002) else (if (rd x8 x10) = x209000 then (impl_EpochsOk.l0 k x8 x9 (wrap64 (x10 + 1)) x209000 x209001 x209002) else (if (rd x8 x10) = (wrap64 (x209000 + 1)) then (impl_EpochsOk.l0 k x8 x9 (wrap64 (x10 + 1)) x209000 x209001 x209002) else (some false)))) else (none)) else (none)) else (impl_EpochsOk.l1 k x209002 (x209002.length : Int) 0 x209000 x209001 x209002)
def impl_EpochsOk.l1 : Nat → List (S57) → Int → Int → Int → List Int → List (S57) → Option (Bool)
  | 0, _, _, _, _, _, _ => none
  | k + 1, x31, x32, x33, x209000, x209001, x209002 => if x33 < x32 then (if 0 ≤ x33 then (if x33 < (x31.length : Int) then ((impl_within.f ((rd_T57 x31 x33).f0) 1 20).bind fun t214 => (if t214 = true then ((impl_within.f ((rd_T57 x31 x33).f1) 0 x209000).bind fun t215 => (if t215 = true then (impl_EpochsOk.l1 k x31 x32 (wrap64 (x33 + 1)) x209000 x209001 x209002) else (some false))) else (some false))) else (none)) else (none)) else ((impl_within.f x209000 2 1000000000).bind fun t210 => (if t210 = true then ((impl_within.f (x209001.length : Int) 1 4).bind fun t211 => (if t211 = true then (some (decide ((x209002.length : Int) ≤ 40))) else (some false))) else (some false)))
end
def impl_EpochsOk.f (k : Nat) (a0_0 : Int) (l0_1 : List Int) (l0_2 : List (S57)) : Option (Bool) := impl_EpochsOk.l0 k l0_1 (l0_1.length : Int) 0 a0_0 l0_1 l0_2
set_option maxHeartbeats 8000000 in
set_option maxRecDepth 100000 in
theorem impl_EpochsOk.calls (k : Nat) (a0_0 : Int) (A0_1 : Option Addr) (c0_1 : Nat) (l0_1 : List Int) (A0_2 : Option Addr) (c0_2 : Nat) (l0_2 : List (S57)) (r : Bool) (w : World) (hr0_1 : Kd.C (Kd.int .i64) w A0_1 l0_1.length l0_1) (hc0_1 : l0_1.length ≤ c0_1) (hr0_2 : Kd.C k57 w A0_2 l0_2.length l0_2) (hc0_2 : l0_2.length ≤ c0_2) (h : impl_EpochsOk.f k a0_0 l0_1 l0_2 = some r) :
    Calls Try.prog 21 #[.agg #[.int .i64 a0_0, .slice A0_1 l0_1.length c0_1, .slice A0_2 l0_2.length c0_2]] w fun e w' => e = .returned (.bool r) ∧ Below w.heap.size w w' := by
  have hu25 := Try.underlying25
  have hu57 := Try.underlying57
  have HR0_1 := Aside0.mk hr0_1
  have HC0_1 := Aside0.mk hc0_1
  clear hr0_1 hc0_1
  have HR0_2 := Aside0.mk hr0_2
  have HC0_2 := Aside0.mk hc0_2
  clear hr0_2 hc0_2
  have HB := Aside0.mk (Below.refl w.heap.size w)
  have H : (impl_EpochsOk.l0 k l0_1 (l0_1.length : Int) 0 a0_0 l0_1 l0_2) = some r := h
  clear h
  have H' := Aside0.mk H
  clear H
  go_enter Try.func21, Try.ntmps21
  go_wp2_with (((with_reducible refine gate_dst (N := 1) rfl ?_); (try (refine gate_guard (by rfl) ?_; dsimp only)); refine box_event ?hg (N := 1) ?hd (cs := #[.int .i64 a0_0, .slice A0_1 l0_1.length c0_1, .slice A0_2 l0_2.length c0_2]) (t := 25) ?hr ?_; (case hd => rfl); (case hg => rfl); (case hr => (go_simp; done)); intro gb208 hg w2 hbox hb; have n0_ := Aside0.mk (below_step (by repeat ((with_reducible exact HB.out))) hb); have n1_ := Aside0.mk (hbox); have n2_ := Aside0.mk ((by rw [hg]; exact (below_size (by repeat ((with_reducible exact HB.out)))) : w.heap.size ≤ gb208)); have n3_ := Aside0.mk ((by rw [hg]; exact (below_size (by repeat ((with_reducible exact HB.out)))) : w.heap.size ≤ gb208)); clear HB; have HB := n0_; have BK208 := n1_; have GW208 := n2_; have GE208 := n3_; clear n0_ n1_ n2_ n3_; clear hb hbox hg; have hcz3_0 : w2.cell? ⟨gb208, 0, none⟩ = some (.int .i64 a0_0) := (blk_cell BK208.out 0).trans rfl; have hcz3_1 : w2.cell? ⟨gb208, 1, none⟩ = some (.slice A0_1 l0_1.length c0_1) := (blk_cell BK208.out 1).trans rfl; have hcz3_2 : w2.cell? ⟨gb208, 2, none⟩ = some (.slice A0_2 l0_2.length c0_2) := (blk_cell BK208.out 2).trans rfl; have hfz3_0 := blk_frozen BK208.out 0; have hfz3_1 := blk_frozen BK208.out 1; have hfz3_2 := blk_frozen BK208.out 2))
  go_loopg [10] k (fun kq v10 w' => ∃ (x10_1 : Int), v10 = .int .i64 x10_1 ∧ Aside0 (impl_EpochsOk.l0 kq l0_1 (l0_1.length : Int) x10_1 a0_0 l0_1 l0_2 = some r) ∧ Aside0 (kq ≤ k) ∧ Aside0 (w'.heap[gb208]? = some (.cells #[.int .i64 a0_0, (.slice A0_1 l0_1.length c0_1), (.slice A0_2 l0_2.length c0_2)] 25 (0, 0))) ∧ Aside0 (Below w.heap.size w w'))
  case atStart => exact ⟨(0), (by rfl), H', ⟨Nat.le_refl _⟩, ⟨by (with_reducible repeat (first | refine blk_drewN ?_ _ | refine blk_drew ?_ | refine blk_alloc ?_ _ )); exact BK208.out⟩, ⟨by repeat ((with_reducible exact HB.out))⟩⟩
  case round =>
    clear H'
    clear hcz3_0
    clear hcz3_1
    clear hcz3_2
    clear hfz3_0
    clear hfz3_1
    clear hfz3_2
    obtain ⟨x10_1, rfl, HA, HK1, BK208, HB⟩ := hrel
    cases gk with
    | zero => exact absurd HA.out (by simp [impl_EpochsOk.l0])
    | succ k1 =>
      have H := HA.out
      clear HA
      simp only [impl_EpochsOk.l0] at H
      by_cases c4 : x10_1 < (l0_1.length : Int)
      · rw [if_pos c4] at H
        have c4b0 : decide (x10_1 < (l0_1.length : Int)) = true := decide_eq_true c4
        clear c4
        by_cases c5 : 0 ≤ x10_1
        · rw [if_pos c5] at H
          have c5b0 : decide (0 ≤ x10_1) = true := decide_eq_true c5
          clear c5
          by_cases c6 : x10_1 < (l0_1.length : Int)
          · rw [if_pos c6] at H
            have c6b0 : decide (x10_1 < (l0_1.length : Int)) = true := decide_eq_true c6
            clear c6
            by_cases c7 : (rd l0_1 x10_1) = 0
            · rw [if_pos c7] at H
              have c7b0 : ((rd l0_1 x10_1) == 0) = true := beq_iff_eq.mpr c7
              have c7b1 : ((rd l0_1 x10_1) != 0) = false := bne_eq_false_iff_eq.mpr c7
              clear c7
              have H' := Aside0.mk H
              clear H
              have p209 : 0 ≤ (x10_1 : Int) := of_decide_eq_true (by (with_reducible assumption))
              have q209 : x10_1 < (l0_1.length : Int) := of_decide_eq_true (by (with_reducible assumption))
              obtain ⟨ad209, e209, hx209_0⟩ := Kd.at_int HR0_1.out x10_1 p209 q209
              cases e209
              replace hx209_0 := (HB.out.cell (World.block_lt_of_cell? w _ hx209_0)).trans hx209_0
              replace p209 := eq_true p209
              replace q209 := eq_true q209
              go_wp2
              go_roundg k1
              case measure => have := HK1.out; omega
              case rel => exact ⟨(wrap64 (x10_1 + 1)), (by rfl), H', ⟨by have := HK1.out; omega⟩, ⟨by (with_reducible repeat (first | refine blk_drewN ?_ _ | refine blk_drew ?_ | refine blk_alloc ?_ _ )); exact BK208.out⟩, ⟨by repeat ((with_reducible exact HB.out))⟩⟩
            · rw [if_neg c7] at H
              have c7b0 : ((rd l0_1 x10_1) == 0) = false := beq_eq_false_iff_ne.mpr c7
              have c7b1 : ((rd l0_1 x10_1) != 0) = true := bne_iff_ne.mpr c7
              by_cases c8 : (rd l0_1 x10_1) = a0_0
              · rw [if_pos c8] at H
                have c8b0 : ((rd l0_1 x10_1) == a0_0) = true := beq_iff_eq.mpr c8
                have c8b1 : ((rd l0_1 x10_1) != a0_0) = false := bne_eq_false_iff_eq.mpr c8
                clear c8
                have H' := Aside0.mk H
                clear H
                have p209 : 0 ≤ (x10_1 : Int) := of_decide_eq_true (by (with_reducible assumption))
                have q209 : x10_1 < (l0_1.length : Int) := of_decide_eq_true (by (with_reducible assumption))
                obtain ⟨ad209, e209, hx209_0⟩ := Kd.at_int HR0_1.out x10_1 p209 q209
                cases e209
                replace hx209_0 := (HB.out.cell (World.block_lt_of_cell? w _ hx209_0)).trans hx209_0
                replace p209 := eq_true p209
                replace q209 := eq_true q209
                have hcz9_0 : wr.cell? ⟨gb208, 0, none⟩ = some (.int .i64 a0_0) := (blk_cell BK208.out 0).trans rfl
                have hcz9_1 : wr.cell? ⟨gb208, 1, none⟩ = some (.slice (some ad209) l0_1.length c0_1) := (blk_cell BK208.out 1).trans rfl
                have hcz9_2 : wr.cell? ⟨gb208, 2, none⟩ = some (.slice A0_2 l0_2.length c0_2) := (blk_cell BK208.out 2).trans rfl
                have hfz9_0 := blk_frozen BK208.out 0
                have hfz9_1 := blk_frozen BK208.out 1
                have hfz9_2 := blk_frozen BK208.out 2
                go_wp2
                go_roundg k1
                case measure => have := HK1.out; omega
                case rel => exact ⟨(wrap64 (x10_1 + 1)), (by rfl), H', ⟨by have := HK1.out; omega⟩, ⟨by (with_reducible repeat (first | refine blk_drewN ?_ _ | refine blk_drew ?_ | refine blk_alloc ?_ _ )); exact BK208.out⟩, ⟨by repeat ((with_reducible exact HB.out))⟩⟩
              · rw [if_neg c8] at H
                have c8b0 : ((rd l0_1 x10_1) == a0_0) = false := beq_eq_false_iff_ne.mpr c8
                have c8b1 : ((rd l0_1 x10_1) != a0_0) = true := bne_iff_ne.mpr c8
                by_cases c10 : (rd l0_1 x10_1) = (wrap64 (a0_0 + 1))
                · rw [if_pos c10] at H
                  have c10b0 : ((rd l0_1 x10_1) == (wrap64 (a0_0 + 1))) = true := beq_iff_eq.mpr c10
                  have c10b1 : ((rd l0_1 x10_1) != (wrap64 (a0_0 + 1))) = false := bne_eq_false_iff_eq.mpr c10
                  clear c10
                  have H' := Aside0.mk H
                  clear H
                  have p209 : 0 ≤ (x10_1 : Int) := of_decide_eq_true (by (with_reducible assumption))
                  have q209 : x10_1 < (l0_1.length : Int) := of_decide_eq_true (by (with_reducible assumption))
                  obtain ⟨ad209, e209, hx209_0⟩ := Kd.at_int HR0_1.out x10_1 p209 q209
                  cases e209
                  replace hx209_0 := (HB.out.cell (World.block_lt_of_cell? w _ hx209_0)).trans hx209_0
                  replace p209 := eq_true p209
                  replace q209 := eq_true q209
                  have hcz11_0 : wr.cell? ⟨gb208, 0, none⟩ = some (.int .i64 a0_0) := (blk_cell BK208.out 0).trans rfl
                  have hcz11_1 : wr.cell? ⟨gb208, 1, none⟩ = some (.slice (some ad209) l0_1.length c0_1) := (blk_cell BK208.out 1).trans rfl
                  have hcz11_2 : wr.cell? ⟨gb208, 2, none⟩ = some (.slice A0_2 l0_2.length c0_2) := (blk_cell BK208.out 2).trans rfl
                  have hfz11_0 := blk_frozen BK208.out 0
                  have hfz11_1 := blk_frozen BK208.out 1
                  have hfz11_2 := blk_frozen BK208.out 2
                  go_wp2
                  go_roundg k1
                  case measure => have := HK1.out; omega
                  case rel => exact ⟨(wrap64 (x10_1 + 1)), (by rfl), H', ⟨by have := HK1.out; omega⟩, ⟨by (with_reducible repeat (first | refine blk_drewN ?_ _ | refine blk_drew ?_ | refine blk_alloc ?_ _ )); exact BK208.out⟩, ⟨by repeat ((with_reducible exact HB.out))⟩⟩
                · rw [if_neg c10] at H
                  have c10b0 : ((rd l0_1 x10_1) == (wrap64 (a0_0 + 1))) = false := beq_eq_false_iff_ne.mpr c10
                  have c10b1 : ((rd l0_1 x10_1) != (wrap64 (a0_0 + 1))) = true := bne_iff_ne.mpr c10
                  obtain rfl := Option.some.inj H
                  have p209 : 0 ≤ (x10_1 : Int) := of_decide_eq_true (by (with_reducible assumption))
                  have q209 : x10_1 < (l0_1.length : Int) := of_decide_eq_true (by (with_reducible assumption))
                  obtain ⟨ad209, e209, hx209_0⟩ := Kd.at_int HR0_1.out x10_1 p209 q209
                  cases e209
                  replace hx209_0 := (HB.out.cell (World.block_lt_of_cell? w _ hx209_0)).trans hx209_0
                  replace p209 := eq_true p209
                  replace q209 := eq_true q209
                  have hcz12_0 : wr.cell? ⟨gb208, 0, none⟩ = some (.int .i64 a0_0) := (blk_cell BK208.out 0).trans rfl
                  have hcz12_1 : wr.cell? ⟨gb208, 1, none⟩ = some (.slice (some ad209) l0_1.length c0_1) := (blk_cell BK208.out 1).trans rfl
                  have hcz12_2 : wr.cell? ⟨gb208, 2, none⟩ = some (.slice A0_2 l0_2.length c0_2) := (blk_cell BK208.out 2).trans rfl
                  have hfz12_0 := blk_frozen BK208.out 0
                  have hfz12_1 := blk_frozen BK208.out 1
                  have hfz12_2 := blk_frozen BK208.out 2
                  go_wp2
                  go_ret
                  exact ⟨by rfl, by repeat ((with_reducible exact HB.out))⟩
          · rw [if_neg c6] at H
            exact absurd H (by simp)
        · rw [if_neg c5] at H
          exact absurd H (by simp)
      · rw [if_neg c4] at H
        have c4b0 : decide (x10_1 < (l0_1.length : Int)) = false := decide_eq_false c4
        clear c4
        have H' := Aside0.mk H
        clear H
        have hcz13_0 : wr.cell? ⟨gb208, 0, none⟩ = some (.int .i64 a0_0) := (blk_cell BK208.out 0).trans rfl
        have hcz13_1 : wr.cell? ⟨gb208, 1, none⟩ = some (.slice A0_1 l0_1.length c0_1) := (blk_cell BK208.out 1).trans rfl
        have hcz13_2 : wr.cell? ⟨gb208, 2, none⟩ = some (.slice A0_2 l0_2.length c0_2) := (blk_cell BK208.out 2).trans rfl
        have hfz13_0 := blk_frozen BK208.out 0
        have hfz13_1 := blk_frozen BK208.out 1
        have hfz13_2 := blk_frozen BK208.out 2
        go_wp2
        go_loopg [33] k1 (fun kq v33 w' => ∃ (x33_2 : Int), v33 = .int .i64 x33_2 ∧ Aside0 (impl_EpochsOk.l1 kq l0_2 (l0_2.length : Int) x33_2 a0_0 l0_1 l0_2 = some r) ∧ Aside0 (kq ≤ k1) ∧ Aside0 (w'.heap[gb208]? = some (.cells #[.int .i64 a0_0, (.slice A0_1 l0_1.length c0_1), (.slice A0_2 l0_2.length c0_2)] 25 (0, 0))) ∧ Aside0 (Below w.heap.size w w'))
        case atStart => exact ⟨(0), (by rfl), H', ⟨Nat.le_refl _⟩, ⟨by (with_reducible repeat (first | refine blk_drewN ?_ _ | refine blk_drew ?_ | refine blk_alloc ?_ _ )); exact BK208.out⟩, ⟨by repeat ((with_reducible exact HB.out))⟩⟩
        case round =>
          clear H'
          clear c4b0
          clear hcz13_0
          clear hcz13_1
          clear hcz13_2
          clear hfz13_0
          clear hfz13_1
          clear hfz13_2
          obtain ⟨x33_2, rfl, HA, HK2, BK208, HB⟩ := hrel
          cases gk with
          | zero => exact absurd HA.out (by simp [impl_EpochsOk.l1])
          | succ k2 =>
            have H := HA.out
            clear HA
            simp only [impl_EpochsOk.l1] at H
            by_cases c14 : x33_2 < (l0_2.length : Int)
            · rw [if_pos c14] at H
              have c14b0 : decide (x33_2 < (l0_2.length : Int)) = true := decide_eq_true c14
              clear c14
              by_cases c15 : 0 ≤ x33_2
              · rw [if_pos c15] at H
                have c15b0 : decide (0 ≤ x33_2) = true := decide_eq_true c15
                clear c15
                by_cases c16 : x33_2 < (l0_2.length : Int)
                · rw [if_pos c16] at H
                  have c16b0 : decide (x33_2 < (l0_2.length : Int)) = true := decide_eq_true c16
                  clear c16
                  have HS17 := Aside0.mk H
                  clear H
                  have p212 : 0 ≤ (x33_2 : Int) := of_decide_eq_true (by (with_reducible assumption))
                  have q212 : x33_2 < (l0_2.length : Int) := of_decide_eq_true (by (with_reducible assumption))
                  obtain ⟨ad212, e212, hx212_0, hx212_1⟩ := at_T57 HR0_2.out x33_2 p212 q212
                  cases e212
                  replace hx212_0 := (HB.out.cell (World.block_lt_of_cell? w _ hx212_0)).trans hx212_0
                  replace hx212_1 := (HB.out.cell (World.block_lt_of_cell? w _ hx212_1)).trans hx212_1
                  replace p212 := eq_true p212
                  replace q212 := eq_true q212
                  go_upto_region 10 with (((with_reducible refine gate_dst (N := 6) rfl ?_); (try (refine gate_guard (by rfl) ?_; dsimp only)); refine box_event ?hg (N := 6) ?hd (cs := #[.int .i64 0, .int .i64 0]) (t := 57) ?hr ?_; (case hd => rfl); (case hg => rfl); (case hr => (go_simp; done)); intro gb213 hg w18 hbox hb; have n0_ := Aside0.mk (blk_below (g := gb208) (o := .cells #[.int .i64 a0_0, .slice A0_1 l0_1.length c0_1, .slice (some ad212) l0_2.length c0_2] 25 (0, 0)) (by (with_reducible repeat (first | refine blk_drewN ?_ _ | refine blk_drew ?_ | refine blk_alloc ?_ _ )); exact BK208.out) hb); have n1_ := Aside0.mk (below_step (by repeat ((with_reducible exact HB.out))) hb); have n2_ := Aside0.mk (hbox); have n3_ := Aside0.mk ((by rw [hg]; exact (below_size (by repeat ((with_reducible exact HB.out)))) : w.heap.size ≤ gb213)); have n4_ := Aside0.mk ((by rw [hg]; exact (below_size (by repeat ((with_reducible exact HB.out)))) : w.heap.size ≤ gb213)); have n5_ := Aside0.mk ((by rw [hg]; exact Nat.ne_of_lt (blk_lt (g := gb208) (o := .cells #[.int .i64 a0_0, .slice A0_1 l0_1.length c0_1, .slice (some ad212) l0_2.length c0_2] 25 (0, 0)) (by (with_reducible repeat (first | refine blk_drewN ?_ _ | refine blk_drew ?_ | refine blk_alloc ?_ _ )); exact BK208.out)) : gb208 ≠ gb213)); have n6_ := Aside0.mk ((by rw [hg]; exact Nat.ne_of_gt (blk_lt (g := gb208) (o := .cells #[.int .i64 a0_0, .slice A0_1 l0_1.length c0_1, .slice (some ad212) l0_2.length c0_2] 25 (0, 0)) (by (with_reducible repeat (first | refine blk_drewN ?_ _ | refine blk_drew ?_ | refine blk_alloc ?_ _ )); exact BK208.out)) : gb213 ≠ gb208)); clear BK208; clear HB; have BK208 := n0_; have HB := n1_; have BK213 := n2_; have GW213 := n3_; have GE213 := n4_; have NB208_213 := n5_; have NB213_208 := n6_; clear n0_ n1_ n2_ n3_ n4_ n5_ n6_; clear hb hbox hg; have hnb19 := NB213_208.out; have hnc19 := NB208_213.out; have hcz20_0 : w18.cell? ⟨gb213, 0, none⟩ = some (.int .i64 0) := (blk_cell BK213.out 0).trans rfl; have hcz20_1 : w18.cell? ⟨gb213, 1, none⟩ = some (.int .i64 0) := (blk_cell BK213.out 1).trans rfl; have hfz20_0 := blk_frozen BK213.out 0; have hfz20_1 := blk_frozen BK213.out 1))
                  (try simp only [Act.put, List.setIfInBounds_toArray, List.set_cons_zero, List.set_cons_succ])
                  have H := HS17.out
                  clear HS17
                  replace H := Option.bind_eq_some_iff.mp H
                  obtain ⟨t214, A210, H⟩ := H
                  replace H : (if t214 = true then ((impl_within.f ((rd_T57 l0_2 x33_2).f1) 0 a0_0).bind fun t215 => (if t215 = true then (impl_EpochsOk.l1 k2 l0_2 (l0_2.length : Int) (wrap64 (x33_2 + 1)) a0_0 l0_1 l0_2) else (some false))) else (some false)) = some r := H
                  have A21 := Aside0.mk A210
                  clear A210
                  by_cases c22 : t214 = true
                  · subst c22
                    have H1 : ((impl_within.f ((rd_T57 l0_2 x33_2).f1) 0 a0_0).bind fun t215 => (if t215 = true then (impl_EpochsOk.l1 k2 l0_2 (l0_2.length : Int) (wrap64 (x33_2 + 1)) a0_0 l0_1 l0_2) else (some false))) = some r := by rw [if_pos rfl] at H; exact H
                    clear H
                    have H := H1
                    clear H1
                    replace H := Option.bind_eq_some_iff.mp H
                    obtain ⟨t215, A230, H⟩ := H
                    replace H : (if t215 = true then (impl_EpochsOk.l1 k2 l0_2 (l0_2.length : Int) (wrap64 (x33_2 + 1)) a0_0 l0_1 l0_2) else (some false)) = some r := H
                    have A23 := Aside0.mk A230
                    clear A230
                    have HS24 := Aside0.mk H
                    clear H
                    have hnb25 := NB213_208.out
                    have hnc25 := NB208_213.out
                    have hcz26_0 : w18.cell? ⟨gb213, 0, none⟩ = some (.int .i64 0) := (blk_cell BK213.out 0).trans rfl
                    have hcz26_1 : w18.cell? ⟨gb213, 1, none⟩ = some (.int .i64 0) := (blk_cell BK213.out 1).trans rfl
                    have hfz26_0 := blk_frozen BK213.out 0
                    have hfz26_1 := blk_frozen BK213.out 1
                    go_upto_if 48 with (first | ((with_reducible refine gate_callee (f := 51) rfl ?_); refine goesL_ (some 39) rfl rfl Try.func51 (by kernel_rfl) rfl #[.int .i64 ((rd_T57 l0_2 x33_2).f0), .int .i64 1, .int .i64 20] rfl (by (try simp only [List.map_toArray, List.map_cons, List.map_nil]); rfl) ?_; (with_reducible refine (impl_within.calls ((rd_T57 l0_2 x33_2).f0) 1 20 true _ A21.out).mono ?_); rintro e w' ⟨rfl, rfl⟩; refine ⟨_, rfl, ?_⟩; have hcz27_0 : w18.cell? ⟨gb208, 0, none⟩ = some (.int .i64 a0_0) := (blk_cell BK208.out 0).trans rfl; have hcz27_1 : w18.cell? ⟨gb208, 1, none⟩ = some (.slice A0_1 l0_1.length c0_1) := (blk_cell BK208.out 1).trans rfl; have hcz27_2 : w18.cell? ⟨gb208, 2, none⟩ = some (.slice (some ad212) l0_2.length c0_2) := (blk_cell BK208.out 2).trans rfl; have hfz27_0 := blk_frozen BK208.out 0; have hfz27_1 := blk_frozen BK208.out 1; have hfz27_2 := blk_frozen BK208.out 2) | (go_at_call 51; (with_reducible refine (impl_within.calls ((rd_T57 l0_2 x33_2).f1) 0 a0_0 t215 _ A23.out).mono ?_); rintro e w' ⟨rfl, rfl⟩))
                    (try simp only [Act.put, List.setIfInBounds_toArray, List.set_cons_zero, List.set_cons_succ])
                    have H := HS24.out
                    clear HS24
                    by_cases c28 : t215 = true
                    · subst c28
                      have H1 : (impl_EpochsOk.l1 k2 l0_2 (l0_2.length : Int) (wrap64 (x33_2 + 1)) a0_0 l0_1 l0_2) = some r := by rw [if_pos rfl] at H; exact H
                      clear H
                      have H := H1
                      clear H1
                      have H' := Aside0.mk H
                      clear H
                      go_wp2
                      go_roundg k2
                      case measure => have := HK1.out; have := HK2.out; omega
                      case rel => exact ⟨(wrap64 (x33_2 + 1)), (by rfl), H', ⟨by have := HK1.out; have := HK2.out; omega⟩, ⟨by (with_reducible repeat (first | refine blk_drewN ?_ _ | refine blk_drew ?_ | refine blk_alloc ?_ _ )); refine blk_far ?_ NB208_213.out _; (with_reducible repeat (first | refine blk_drewN ?_ _ | refine blk_drew ?_ | refine blk_alloc ?_ _ )); refine blk_far ?_ NB208_213.out _; (with_reducible repeat (first | refine blk_drewN ?_ _ | refine blk_drew ?_ | refine blk_alloc ?_ _ )); exact BK208.out⟩, ⟨by repeat ((with_reducible first | exact HB.out | refine below_set ?_ GE213.out))⟩⟩
                    · replace c28 := Bool.eq_false_iff.mpr c28
                      subst c28
                      have H1 : (some false) = some r := by rw [if_neg (show ¬ (false = true) by decide)] at H; exact H
                      clear H
                      have H := H1
                      clear H1
                      obtain rfl := Option.some.inj H
                      go_wp2
                      go_ret
                      exact ⟨by rfl, by repeat ((with_reducible first | exact HB.out | refine below_set ?_ GE213.out))⟩
                  · replace c22 := Bool.eq_false_iff.mpr c22
                    subst c22
                    have H1 : (some false) = some r := by rw [if_neg (show ¬ (false = true) by decide)] at H; exact H
                    clear H
                    have H := H1
                    clear H1
                    obtain rfl := Option.some.inj H
                    have hnb29 := NB213_208.out
                    have hnc29 := NB208_213.out
                    have hcz30_0 : w18.cell? ⟨gb213, 0, none⟩ = some (.int .i64 0) := (blk_cell BK213.out 0).trans rfl
                    have hcz30_1 : w18.cell? ⟨gb213, 1, none⟩ = some (.int .i64 0) := (blk_cell BK213.out 1).trans rfl
                    have hfz30_0 := blk_frozen BK213.out 0
                    have hfz30_1 := blk_frozen BK213.out 1
                    go_wp2_with (((with_reducible refine gate_callee (f := 51) rfl ?_); refine goesL_ (some 39) rfl rfl Try.func51 (by kernel_rfl) rfl #[.int .i64 ((rd_T57 l0_2 x33_2).f0), .int .i64 1, .int .i64 20] rfl (by (try simp only [List.map_toArray, List.map_cons, List.map_nil]); rfl) ?_; (with_reducible refine (impl_within.calls ((rd_T57 l0_2 x33_2).f0) 1 20 false _ A21.out).mono ?_); rintro e w' ⟨rfl, rfl⟩; refine ⟨_, rfl, ?_⟩))
                    go_ret
                    exact ⟨by rfl, by repeat ((with_reducible first | exact HB.out | refine below_set ?_ GE213.out))⟩
                · rw [if_neg c16] at H
                  exact absurd H (by simp)
              · rw [if_neg c15] at H
                exact absurd H (by simp)
            · rw [if_neg c14] at H
              have c14b0 : decide (x33_2 < (l0_2.length : Int)) = false := decide_eq_false c14
              clear c14
              replace H := Option.bind_eq_some_iff.mp H
              obtain ⟨t210, A310, H⟩ := H
              replace H : (if t210 = true then ((impl_within.f (l0_1.length : Int) 1 4).bind fun t211 => (if t211 = true then (some (decide ((l0_2.length : Int) ≤ 40))) else (some false))) else (some false)) = some r := H
              have A31 := Aside0.mk A310
              clear A310
              by_cases c32 : t210 = true
              · subst c32
                have H1 : ((impl_within.f (l0_1.length : Int) 1 4).bind fun t211 => (if t211 = true then (some (decide ((l0_2.length : Int) ≤ 40))) else (some false))) = some r := by rw [if_pos rfl] at H; exact H
                clear H
                have H := H1
                clear H1
                replace H := Option.bind_eq_some_iff.mp H
                obtain ⟨t211, A330, H⟩ := H
                replace H : (if t211 = true then (some (decide ((l0_2.length : Int) ≤ 40))) else (some false)) = some r := H
                have A33 := Aside0.mk A330
                clear A330
                by_cases c34 : t211 = true
                · subst c34
                  have H1 : (some (decide ((l0_2.length : Int) ≤ 40))) = some r := by rw [if_pos rfl] at H; exact H
                  clear H
                  have H := H1
                  clear H1
                  obtain rfl := Option.some.inj H
                  have hcz35_0 : wr.cell? ⟨gb208, 0, none⟩ = some (.int .i64 a0_0) := (blk_cell BK208.out 0).trans rfl
                  have hcz35_1 : wr.cell? ⟨gb208, 1, none⟩ = some (.slice A0_1 l0_1.length c0_1) := (blk_cell BK208.out 1).trans rfl
                  have hcz35_2 : wr.cell? ⟨gb208, 2, none⟩ = some (.slice A0_2 l0_2.length c0_2) := (blk_cell BK208.out 2).trans rfl
                  have hfz35_0 := blk_frozen BK208.out 0
                  have hfz35_1 := blk_frozen BK208.out 1
                  have hfz35_2 := blk_frozen BK208.out 2
                  go_wp2_with (first | ((with_reducible refine gate_callee (f := 51) rfl ?_); refine goesL_ (some 52) rfl rfl Try.func51 (by kernel_rfl) rfl #[.int .i64 a0_0, .int .i64 2, .int .i64 1000000000] rfl (by (try simp only [List.map_toArray, List.map_cons, List.map_nil]); rfl) ?_; (with_reducible refine (impl_within.calls a0_0 2 1000000000 true _ A31.out).mono ?_); rintro e w' ⟨rfl, rfl⟩; refine ⟨_, rfl, ?_⟩) | (go_at_call 51; (with_reducible refine (impl_within.calls (l0_1.length : Int) 1 4 true _ A33.out).mono ?_); rintro e w' ⟨rfl, rfl⟩))
                  go_ret
                  exact ⟨by rfl, by repeat ((with_reducible exact HB.out))⟩
                · replace c34 := Bool.eq_false_iff.mpr c34
                  subst c34
                  have H1 : (some false) = some r := by rw [if_neg (show ¬ (false = true) by decide)] at H; exact H
                  clear H
                  have H := H1
                  clear H1
                  obtain rfl := Option.some.inj H
                  have hcz36_0 : wr.cell? ⟨gb208, 0, none⟩ = some (.int .i64 a0_0) := (blk_cell BK208.out 0).trans rfl
                  have hcz36_1 : wr.cell? ⟨gb208, 1, none⟩ = some (.slice A0_1 l0_1.length c0_1) := (blk_cell BK208.out 1).trans rfl
                  have hcz36_2 : wr.cell? ⟨gb208, 2, none⟩ = some (.slice A0_2 l0_2.length c0_2) := (blk_cell BK208.out 2).trans rfl
                  have hfz36_0 := blk_frozen BK208.out 0
                  have hfz36_1 := blk_frozen BK208.out 1
                  have hfz36_2 := blk_frozen BK208.out 2
                  go_wp2_with (first | ((with_reducible refine gate_callee (f := 51) rfl ?_); refine goesL_ (some 52) rfl rfl Try.func51 (by kernel_rfl) rfl #[.int .i64 a0_0, .int .i64 2, .int .i64 1000000000] rfl (by (try simp only [List.map_toArray, List.map_cons, List.map_nil]); rfl) ?_; (with_reducible refine (impl_within.calls a0_0 2 1000000000 true _ A31.out).mono ?_); rintro e w' ⟨rfl, rfl⟩; refine ⟨_, rfl, ?_⟩) | (go_at_call 51; (with_reducible refine (impl_within.calls (l0_1.length : Int) 1 4 false _ A33.out).mono ?_); rintro e w' ⟨rfl, rfl⟩))
                  go_ret
                  exact ⟨by rfl, by repeat ((with_reducible exact HB.out))⟩
              · replace c32 := Bool.eq_false_iff.mpr c32
                subst c32
                have H1 : (some false) = some r := by rw [if_neg (show ¬ (false = true) by decide)] at H; exact H
                clear H
                have H := H1
                clear H1
                obtain rfl := Option.some.inj H
                have hcz37_0 : wr.cell? ⟨gb208, 0, none⟩ = some (.int .i64 a0_0) := (blk_cell BK208.out 0).trans rfl
                have hcz37_1 : wr.cell? ⟨gb208, 1, none⟩ = some (.slice A0_1 l0_1.length c0_1) := (blk_cell BK208.out 1).trans rfl
                have hcz37_2 : wr.cell? ⟨gb208, 2, none⟩ = some (.slice A0_2 l0_2.length c0_2) := (blk_cell BK208.out 2).trans rfl
                have hfz37_0 := blk_frozen BK208.out 0
                have hfz37_1 := blk_frozen BK208.out 1
                have hfz37_2 := blk_frozen BK208.out 2
                go_wp2_with (((with_reducible refine gate_callee (f := 51) rfl ?_); refine goesL_ (some 52) rfl rfl Try.func51 (by kernel_rfl) rfl #[.int .i64 a0_0, .int .i64 2, .int .i64 1000000000] rfl (by (try simp only [List.map_toArray, List.map_cons, List.map_nil]); rfl) ?_; (with_reducible refine (impl_within.calls a0_0 2 1000000000 false _ A31.out).mono ?_); rintro e w' ⟨rfl, rfl⟩; refine ⟨_, rfl, ?_⟩))
                go_ret
                exact ⟨by rfl, by repeat ((with_reducible exact HB.out))⟩
end Go.Proofs.Ytdbhpcekjcohdaa.Q
