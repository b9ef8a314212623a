import Derived.Test.YtdbhpcekjcohdaaLoB0
import Derived.Test.YtdbhpcekjcohdaaLoG48
import Derived.Test.YtdbhpcekjcohdaaLoG52
import Derived.Test.YtdbhpcekjcohdaaLoWApart
import Derived.Test.YtdbhpcekjcohdaaLoWFoot
import Derived.Test.YtdbhpcekjcohdaaLoWGuard
import Derived.Test.YtdbhpcekjcohdaaLoWKept
import Derived.Test.YtdbhpcekjcohdaaLoWLast
import Derived.Test.YtdbhpcekjcohdaaLoWMore
import Derived.Test.YtdbhpcekjcohdaaLoWN
import Derived.Test.YtdbhpcekjcohdaaLoWShare
import Derived.Test.YtdbhpcekjcohdaaLoWWords
namespace Go.Proofs.Ytdbhpcekjcohdaa.Q
open Go.RowKit Go.Proofs.YtdbhpcekjcohdaaW.PrintWords Go.Proofs.YtdbhpcekjcohdaaW.PrintLast Go.Proofs.YtdbhpcekjcohdaaW.PrintMore
attribute [local go_sem] max2_int min2_int max_two min_two max_three min_three max_four min_four   -- for this text's walks alone
set_option linter.unusedVariables false
set_option linter.unusedSimpArgs false
mutual
def spec_RetireNode.j0 : Nat → Int → Bool → Int → List Int → List (S57) → Int → List Int → List (S57) → Option (Int × List Int × (List (S57)) × Bool)
  | 0, _, _, _, _, _, _, _, _ => none
  | k + 1, x1, x23, x699000, x699001, x699002, x708000, x708001, x708002 => if x23 = true then (some (x708000, x708001, x708002, false)) else (spec_RetireNode.l0 k x1 0 x699000 x699001 x699002 x708000 x708001 x708002)
def spec_RetireNode.l0 : Nat → Int → Int → Int → List Int → List (S57) → Int → List Int → List (S57) → Option (Int × List Int × (List (S57)) × Bool)
  | 0, _, _, _, _, _, _, _, _ => none
  | k + 1, x1, x7, x699000, x699001, x699002, x708000, x708001, x708002 => if x7 < (x699002.length : Int) then (if 0 ≤ x7 then (if ((rd_T57 x699002 x7).f0) = x1 then (some (x708000, x708001, x708002, false)) else (spec_RetireNode.l0 k x1 (wrap64 (x7 + 1)) x699000 x699001 x699002 x708000 x708001 x708002)) else (none)) else (if x708002.length < 8796093022208 then (some (x708000, x708001, (x708002 ++ [(⟨x1, x699000⟩ : S57)]), true)) else (none))
end
def spec_RetireNode.f (k : Nat) (a0_0 : Int) (l0_1 : List Int) (l0_2 : List (S57)) (a1 : Int) : Option (Int × List Int × (List (S57)) × Bool) := (spec_l08Copy.f a0_0 l0_1 l0_2).bind fun bt700 => ((spec_EpochsOk.f k a0_0 l0_1 l0_2).bind fun t708 => (if t708 = true then ((spec_l01In.f a1 1 20).bind fun t709 => (if t709 = true then (spec_RetireNode.j0 k a1 ((l0_2.length : Int) == 40) a0_0 l0_1 l0_2 bt700.1 bt700.2.1 bt700.2.2) else (spec_RetireNode.j0 k a1 true a0_0 l0_1 l0_2 bt700.1 bt700.2.1 bt700.2.2))) else (spec_RetireNode.j0 k a1 true a0_0 l0_1 l0_2 bt700.1 bt700.2.1 bt700.2.2)))
set_option maxHeartbeats 8000000 in
set_option maxRecDepth 100000 in
theorem spec_RetireNode.calls (k : Nat) (a0_0 : Int) (A0_1 : Option Addr) (c0_1 : Nat) (l0_1 : List Int) (A0_2 : Option Addr) (c0_2 : Nat) (l0_2 : List (S57)) (a1 : Int) (r1 : Int) (r2 : List Int) (r3 : List (S57)) (r4 : Bool) (w : World) (hr0_1 : Kd.C (Kd.int .i64) w A0_1 l0_1.length l0_1) (hc0_1 : l0_1.length ≤ c0_1) (hr0_2 : Kd.C k57 w A0_2 l0_2.length l0_2) (hc0_2 : l0_2.length ≤ c0_2) (h : spec_RetireNode.f k a0_0 l0_1 l0_2 a1 = some (r1, r2, r3, r4)) :
    Calls Try.prog 33 #[.agg #[.int .i64 a0_0, .slice A0_1 l0_1.length c0_1, .slice A0_2 l0_2.length c0_2], .int .i64 a1] w fun e w' => ∃ v1_ v2_ : Value, e = .returned (.tuple #[.agg #[.int .i64 r1, v1_, v2_], .bool r4]) ∧ Kd.R (Kd.int .i64) 3 w' w.heap.size (fun _ => True) v1_ r2 ∧ Kd.R k57 57 w' w.heap.size (fun _ => True) v2_ r3 ∧ Below w.heap.size w w' := by
  have hu25 := Try.underlying25
  have hu57 := Try.underlying57
  have HR0_1 := Aside0.mk hr0_1
  have HC0_1 := Aside0.mk hc0_1
  clear hr0_1 hc0_1
  have HR0_2 := Aside0.mk hr0_2
  have HC0_2 := Aside0.mk hc0_2
  clear hr0_2 hc0_2
  have HB := Aside0.mk (Below.refl w.heap.size w)
  have H : ((spec_l08Copy.f a0_0 l0_1 l0_2).bind fun bt700 => ((spec_EpochsOk.f k a0_0 l0_1 l0_2).bind fun t708 => (if t708 = true then ((spec_l01In.f a1 1 20).bind fun t709 => (if t709 = true then (spec_RetireNode.j0 k a1 ((l0_2.length : Int) == 40) a0_0 l0_1 l0_2 bt700.1 bt700.2.1 bt700.2.2) else (spec_RetireNode.j0 k a1 true a0_0 l0_1 l0_2 bt700.1 bt700.2.1 bt700.2.2))) else (spec_RetireNode.j0 k a1 true a0_0 l0_1 l0_2 bt700.1 bt700.2.1 bt700.2.2)))) = some (r1, r2, r3, r4) := h
  clear h
  replace H := Option.bind_eq_some_iff.mp H
  obtain ⟨⟨t700, t701, t704⟩, A30, H⟩ := H
  replace H : ((spec_EpochsOk.f k a0_0 l0_1 l0_2).bind fun t708 => (if t708 = true then ((spec_l01In.f a1 1 20).bind fun t709 => (if t709 = true then (spec_RetireNode.j0 k a1 ((l0_2.length : Int) == 40) a0_0 l0_1 l0_2 t700 t701 t704) else (spec_RetireNode.j0 k a1 true a0_0 l0_1 l0_2 t700 t701 t704))) else (spec_RetireNode.j0 k a1 true a0_0 l0_1 l0_2 t700 t701 t704))) = some (r1, r2, r3, r4) := H
  have A3 := Aside0.mk A30
  clear A30
  have HC4 := Aside0.mk H
  clear H
  go_enter Try.func33, Try.ntmps33
  go_upto_region 2 with (first | ((with_reducible refine gate_dst (N := 2) rfl ?_); (try (refine gate_guard (by rfl) ?_; dsimp only)); refine box_event ?hg (N := 2) ?hd (cs := #[.int .i64 a0_0, .slice A0_1 l0_1.length c0_1, .slice A0_2 l0_2.length c0_2]) (t := 25) ?hr ?_; (case hd => rfl); (case hg => rfl); (case hr => (go_simp; done)); intro gb698 hg w5 hbox hb; have n0_ := Aside0.mk (below_step (by repeat ((with_reducible exact HB.out))) hb); have n1_ := Aside0.mk (hbox); have n2_ := Aside0.mk ((by rw [hg]; exact (below_size (by repeat ((with_reducible exact HB.out)))) : w.heap.size ≤ gb698)); have n3_ := Aside0.mk ((by rw [hg]; exact (below_size (by repeat ((with_reducible exact HB.out)))) : w.heap.size ≤ gb698)); clear HB; have HB := n0_; have BK698 := n1_; have GW698 := n2_; have GE698 := n3_; clear n0_ n1_ n2_ n3_; clear hb hbox hg) | ((with_reducible refine gate_dst (N := 4) rfl ?_); (try (refine gate_guard (by rfl) ?_; dsimp only)); refine box_event ?hg (N := 4) ?hd (cs := #[.int .i64 0, .slice none 0 0, .slice none 0 0]) (t := 25) ?hr ?_; (case hd => rfl); (case hg => rfl); (case hr => (go_simp; done)); intro gb699 hg w6 hbox hb; have n0_ := Aside0.mk (blk_below (g := gb698) (o := .cells #[.int .i64 a0_0, .slice A0_1 l0_1.length c0_1, .slice A0_2 l0_2.length c0_2] 25 (0, 0)) (by (with_reducible repeat (first | refine blk_drewN ?_ _ | refine blk_drew ?_ | refine blk_alloc ?_ _ )); exact BK698.out) hb); have n1_ := Aside0.mk (below_step (by repeat ((with_reducible exact HB.out))) hb); have n2_ := Aside0.mk (hbox); have n3_ := Aside0.mk ((by rw [hg]; exact (below_size (by repeat ((with_reducible exact HB.out)))) : w.heap.size ≤ gb699)); have n4_ := Aside0.mk ((by rw [hg]; exact (below_size (by repeat ((with_reducible exact HB.out)))) : w.heap.size ≤ gb699)); have n5_ := Aside0.mk ((by rw [hg]; exact Nat.ne_of_lt (blk_lt (g := gb698) (o := .cells #[.int .i64 a0_0, .slice A0_1 l0_1.length c0_1, .slice A0_2 l0_2.length c0_2] 25 (0, 0)) (by (with_reducible repeat (first | refine blk_drewN ?_ _ | refine blk_drew ?_ | refine blk_alloc ?_ _ )); exact BK698.out)) : gb698 ≠ gb699)); have n6_ := Aside0.mk ((by rw [hg]; exact Nat.ne_of_gt (blk_lt (g := gb698) (o := .cells #[.int .i64 a0_0, .slice A0_1 l0_1.length c0_1, .slice A0_2 l0_2.length c0_2] 25 (0, 0)) (by (with_reducible repeat (first | refine blk_drewN ?_ _ | refine blk_drew ?_ | refine blk_alloc ?_ _ )); exact BK698.out)) : gb699 ≠ gb698)); clear BK698; clear HB; have BK698 := n0_; have HB := n1_; have BK699 := n2_; have GW699 := n3_; have GE699 := n4_; have NB698_699 := n5_; have NB699_698 := n6_; clear n0_ n1_ n2_ n3_ n4_ n5_ n6_; clear hb hbox hg; have hnb7 := NB698_699.out; have hnc7 := NB699_698.out; have hcz8_0 : w6.cell? ⟨gb698, 0, none⟩ = some (.int .i64 a0_0) := (blk_cell BK698.out 0).trans rfl; have hcz8_1 : w6.cell? ⟨gb698, 1, none⟩ = some (.slice A0_1 l0_1.length c0_1) := (blk_cell BK698.out 1).trans rfl; have hcz8_2 : w6.cell? ⟨gb698, 2, none⟩ = some (.slice A0_2 l0_2.length c0_2) := (blk_cell BK698.out 2).trans rfl; have hfz8_0 := blk_frozen BK698.out 0; have hfz8_1 := blk_frozen BK698.out 1; have hfz8_2 := blk_frozen BK698.out 2) | ((with_reducible refine gate_callee (f := 52) rfl ?_); refine goesL_ (some 9) rfl rfl Try.func52 (by kernel_rfl) rfl #[.agg #[.int .i64 a0_0, .slice A0_1 l0_1.length c0_1, .slice A0_2 l0_2.length c0_2]] rfl (by (try simp only [List.map_toArray, List.map_cons, List.map_nil]); rfl) ?_; (with_reducible refine (spec_l08Copy.calls a0_0 _ _ l0_1 _ _ l0_2 t700 t701 t704 _ ?side1 ?side2 ?side3 ?side4 A3.out).mono ?_); (case side1 => repeat (exact (Kd.C_below HR0_1.out HB.out))); (case side2 => exact HC0_1.out); (case side3 => repeat (exact (Kd.C_below HR0_2.out HB.out))); (case side4 => exact HC0_2.out); rintro e w9 ⟨v702, v705, rfl, ho0, ho1, hb⟩; refine ⟨_, rfl, ?_⟩; have n0_ := Aside0.mk (Kd.R_lower ho0 (below_size (by repeat ((with_reducible exact HB.out))))); have n1_ := Aside0.mk (Kd.R_lower ho1 (below_size (by repeat ((with_reducible exact HB.out))))); have n2_ := Aside0.mk (blk_below (g := gb698) (o := .cells #[.int .i64 a0_0, .slice A0_1 l0_1.length c0_1, .slice A0_2 l0_2.length c0_2] 25 (0, 0)) (by (with_reducible repeat (first | refine blk_drewN ?_ _ | refine blk_drew ?_ | refine blk_alloc ?_ _ )); exact BK698.out) hb); have n3_ := Aside0.mk (blk_below (g := gb699) (o := .cells #[.int .i64 0, .slice none 0 0, .slice none 0 0] 25 (0, 0)) (by (with_reducible repeat (first | refine blk_drewN ?_ _ | refine blk_drew ?_ | refine blk_alloc ?_ _ )); exact BK699.out) hb); have n4_ := Aside0.mk (below_step (by repeat ((with_reducible exact HB.out))) hb); clear BK698; clear BK699; clear HB; have HO703 := n0_; have HO706 := n1_; have BK698 := n2_; have BK699 := n3_; have HB := n4_; clear n0_ n1_ n2_ n3_ n4_; (try clear hb); (try clear hb2); (try clear hk); (try clear hi); (try clear ho0); (try clear ho1)) | ((with_reducible refine gate_dst (N := 6) rfl ?_); (try (refine gate_guard (by rfl) ?_; dsimp only)); refine box_event ?hg (N := 6) ?hd (cs := #[.int .i64 0, .slice none 0 0, .slice none 0 0]) (t := 25) ?hr ?_; (case hd => rfl); (case hg => rfl); (case hr => (go_simp; done)); intro gb707 hg w10 hbox hb; have n0_ := Aside0.mk (Kd.R_below (by (with_reducible repeat (first | apply Kd.R_alloc | apply Kd.R_drewN | apply Kd.R_drew )); exact HO703.out) hb); have n1_ := Aside0.mk (Kd.R_below (by (with_reducible repeat (first | apply Kd.R_alloc | apply Kd.R_drewN | apply Kd.R_drew )); exact HO706.out) hb); have n2_ := Aside0.mk (blk_below (g := gb698) (o := .cells #[.int .i64 a0_0, .slice A0_1 l0_1.length c0_1, .slice A0_2 l0_2.length c0_2] 25 (0, 0)) (by (with_reducible repeat (first | refine blk_drewN ?_ _ | refine blk_drew ?_ | refine blk_alloc ?_ _ )); exact BK698.out) hb); have n3_ := Aside0.mk (blk_below (g := gb699) (o := .cells #[.int .i64 0, .slice none 0 0, .slice none 0 0] 25 (0, 0)) (by (with_reducible repeat (first | refine blk_drewN ?_ _ | refine blk_drew ?_ | refine blk_alloc ?_ _ )); exact BK699.out) hb); have n4_ := Aside0.mk (below_step (by repeat ((with_reducible exact HB.out))) hb); have n5_ := Aside0.mk (hbox); have n6_ := Aside0.mk ((by rw [hg]; exact (below_size (by repeat ((with_reducible exact HB.out)))) : w.heap.size ≤ gb707)); have n7_ := Aside0.mk ((by rw [hg]; exact (below_size (by repeat ((with_reducible exact HB.out)))) : w.heap.size ≤ gb707)); have n8_ := Aside0.mk ((by rw [hg]; exact Nat.ne_of_lt (blk_lt (g := gb698) (o := .cells #[.int .i64 a0_0, .slice A0_1 l0_1.length c0_1, .slice A0_2 l0_2.length c0_2] 25 (0, 0)) (by (with_reducible repeat (first | refine blk_drewN ?_ _ | refine blk_drew ?_ | refine blk_alloc ?_ _ )); exact BK698.out)) : gb698 ≠ gb707)); have n9_ := Aside0.mk ((by rw [hg]; exact Nat.ne_of_gt (blk_lt (g := gb698) (o := .cells #[.int .i64 a0_0, .slice A0_1 l0_1.length c0_1, .slice A0_2 l0_2.length c0_2] 25 (0, 0)) (by (with_reducible repeat (first | refine blk_drewN ?_ _ | refine blk_drew ?_ | refine blk_alloc ?_ _ )); exact BK698.out)) : gb707 ≠ gb698)); have n10_ := Aside0.mk ((by rw [hg]; exact Nat.ne_of_lt (blk_lt (g := gb699) (o := .cells #[.int .i64 0, .slice none 0 0, .slice none 0 0] 25 (0, 0)) (by (with_reducible repeat (first | refine blk_drewN ?_ _ | refine blk_drew ?_ | refine blk_alloc ?_ _ )); exact BK699.out)) : gb699 ≠ gb707)); have n11_ := Aside0.mk ((by rw [hg]; exact Nat.ne_of_gt (blk_lt (g := gb699) (o := .cells #[.int .i64 0, .slice none 0 0, .slice none 0 0] 25 (0, 0)) (by (with_reducible repeat (first | refine blk_drewN ?_ _ | refine blk_drew ?_ | refine blk_alloc ?_ _ )); exact BK699.out)) : gb707 ≠ gb699)); clear HO703; clear HO706; clear BK698; clear BK699; clear HB; have HO703 := n0_; have HO706 := n1_; have BK698 := n2_; have BK699 := n3_; have HB := n4_; have BK707 := n5_; have GW707 := n6_; have GE707 := n7_; have NB698_707 := n8_; have NB707_698 := n9_; have NB699_707 := n10_; have NB707_699 := n11_; clear n0_ n1_ n2_ n3_ n4_ n5_ n6_ n7_ n8_ n9_ n10_ n11_; clear hb hbox hg; have hnb11 := NB707_698.out; have hnc11 := NB698_707.out; have hnb12 := NB707_699.out; have hnc12 := NB699_707.out; have hcz13_0 : w10.cell? ⟨gb707, 0, none⟩ = some (.int .i64 0) := (blk_cell BK707.out 0).trans rfl; have hcz13_1 : w10.cell? ⟨gb707, 1, none⟩ = some (.slice none 0 0) := (blk_cell BK707.out 1).trans rfl; have hcz13_2 : w10.cell? ⟨gb707, 2, none⟩ = some (.slice none 0 0) := (blk_cell BK707.out 2).trans rfl; have hfz13_0 := blk_frozen BK707.out 0; have hfz13_1 := blk_frozen BK707.out 1; have hfz13_2 := blk_frozen BK707.out 2; obtain ⟨Ao14, co14, eo14⟩ := Kd.R_slice HO703.out; subst eo14; obtain ⟨Ao15, co15, eo15⟩ := Kd.R_slice HO706.out; subst eo15))
  (try simp only [Act.put, List.setIfInBounds_toArray, List.set_cons_zero, List.set_cons_succ])
  go_cut [23] (fun v23 wc => ∃ (kq : Nat) (x23_3 : Bool), v23 = .bool x23_3 ∧ Aside0 (spec_RetireNode.j0 kq a1 x23_3 a0_0 l0_1 l0_2 t700 t701 t704 = some (r1, r2, r3, r4)) ∧ Aside0 (kq ≤ k) ∧ Aside0 (Kd.R (Kd.int .i64) 3 wc w.heap.size (fun _ => True) (.slice Ao14 t701.length co14) t701) ∧ Aside0 (Kd.R k57 57 wc w.heap.size (fun _ => True) (.slice Ao15 t704.length co15) t704) ∧ Aside0 (wc.heap[gb698]? = some (.cells #[.int .i64 a0_0, (.slice A0_1 l0_1.length c0_1), (.slice A0_2 l0_2.length c0_2)] 25 (0, 0))) ∧ Aside0 (wc.heap[gb699]? = some (.cells #[.int .i64 0, (.slice none 0 0), (.slice none 0 0)] 25 (0, 0))) ∧ Aside0 (wc.heap[gb707]? = some (.cells #[.int .i64 t700, (.slice Ao14 t701.length co14), (.slice Ao15 t704.length co15)] 25 (0, 0))) ∧ Aside0 (Below w.heap.size w wc))
  case first =>
    have H := HC4.out
    clear HC4
    replace H := Option.bind_eq_some_iff.mp H
    obtain ⟨t708, A160, H⟩ := H
    replace H : (if t708 = true then ((spec_l01In.f a1 1 20).bind fun t709 => (if t709 = true then (spec_RetireNode.j0 k a1 ((l0_2.length : Int) == 40) a0_0 l0_1 l0_2 t700 t701 t704) else (spec_RetireNode.j0 k a1 true a0_0 l0_1 l0_2 t700 t701 t704))) else (spec_RetireNode.j0 k a1 true a0_0 l0_1 l0_2 t700 t701 t704)) = some (r1, r2, r3, r4) := H
    have A16 := Aside0.mk A160
    clear A160
    by_cases c17 : t708 = true
    · subst c17
      have H1 : ((spec_l01In.f a1 1 20).bind fun t709 => (if t709 = true then (spec_RetireNode.j0 k a1 ((l0_2.length : Int) == 40) a0_0 l0_1 l0_2 t700 t701 t704) else (spec_RetireNode.j0 k a1 true a0_0 l0_1 l0_2 t700 t701 t704))) = some (r1, r2, r3, r4) := by rw [if_pos rfl] at H; exact H
      clear H
      have H := H1
      clear H1
      replace H := Option.bind_eq_some_iff.mp H
      obtain ⟨t709, A180, H⟩ := H
      replace H : (if t709 = true then (spec_RetireNode.j0 k a1 ((l0_2.length : Int) == 40) a0_0 l0_1 l0_2 t700 t701 t704) else (spec_RetireNode.j0 k a1 true a0_0 l0_1 l0_2 t700 t701 t704)) = some (r1, r2, r3, r4) := H
      have A18 := Aside0.mk A180
      clear A180
      by_cases c19 : t709 = true
      · subst c19
        have H1 : (spec_RetireNode.j0 k a1 ((l0_2.length : Int) == 40) a0_0 l0_1 l0_2 t700 t701 t704) = some (r1, r2, r3, r4) := by rw [if_pos rfl] at H; exact H
        clear H
        have H := H1
        clear H1
        have H' := Aside0.mk H
        clear H
        have hnb20 := NB698_699.out
        have hnc20 := NB699_698.out
        have hnb21 := NB698_707.out
        have hnc21 := NB707_698.out
        have hcz22_0 : w10.cell? ⟨gb698, 0, none⟩ = some (.int .i64 a0_0) := (blk_cell BK698.out 0).trans rfl
        have hcz22_1 : w10.cell? ⟨gb698, 1, none⟩ = some (.slice A0_1 l0_1.length c0_1) := (blk_cell BK698.out 1).trans rfl
        have hcz22_2 : w10.cell? ⟨gb698, 2, none⟩ = some (.slice A0_2 l0_2.length c0_2) := (blk_cell BK698.out 2).trans rfl
        have hfz22_0 := blk_frozen BK698.out 0
        have hfz22_1 := blk_frozen BK698.out 1
        have hfz22_2 := blk_frozen BK698.out 2
        go_wp2_with (first | ((with_reducible refine gate_callee (f := 19) rfl ?_); refine goesL_ (some 11) rfl rfl Try.func19 (by kernel_rfl) rfl #[.agg #[.int .i64 a0_0, .slice A0_1 l0_1.length c0_1, .slice A0_2 l0_2.length c0_2]] rfl (by (try simp only [List.map_toArray, List.map_cons, List.map_nil]); rfl) ?_; (with_reducible refine (spec_EpochsOk.calls k a0_0 _ _ l0_1 _ _ l0_2 true _ ?side1 ?side2 ?side3 ?side4 A16.out).mono ?_); (case side1 => exact Kd.C_below HR0_1.out (by repeat ((with_reducible first | exact HB.out | refine below_set ?_ GE707.out)))); (case side2 => exact HC0_1.out); (case side3 => exact Kd.C_below HR0_2.out (by repeat ((with_reducible first | exact HB.out | refine below_set ?_ GE707.out)))); (case side4 => exact HC0_2.out); rintro e w23 ⟨rfl, hb⟩; refine ⟨_, rfl, ?_⟩; have n0_ := Aside0.mk (Kd.R_below (by (with_reducible repeat (first | apply Kd.R_alloc | apply Kd.R_drewN | apply Kd.R_drew )); exact (Kd.R_mono (Kd.R_far (p := ⟨gb707, 2, none⟩) (Kd.R_far (p := ⟨gb707, 1, none⟩) (Kd.R_far (p := ⟨gb707, 0, none⟩) (Kd.R_types HO703.out BK707.out (by decide)) (fun _ hk => hk.2) (.int .i64 t700)) (fun _ hk => hk.2) (.slice Ao14 t701.length co14)) (fun _ hk => hk.2) (.slice Ao15 t704.length co15)) (fun _ h_ => by exact h_.1))) hb); have n1_ := Aside0.mk (Kd.R_below (by (with_reducible repeat (first | apply Kd.R_alloc | apply Kd.R_drewN | apply Kd.R_drew )); exact (Kd.R_mono (Kd.R_far (p := ⟨gb707, 2, none⟩) (Kd.R_far (p := ⟨gb707, 1, none⟩) (Kd.R_far (p := ⟨gb707, 0, none⟩) (Kd.R_types HO706.out BK707.out (by decide)) (fun _ hk => hk.2) (.int .i64 t700)) (fun _ hk => hk.2) (.slice Ao14 t701.length co14)) (fun _ hk => hk.2) (.slice Ao15 t704.length co15)) (fun _ h_ => by exact h_.1))) hb); have n2_ := Aside0.mk (blk_below (g := gb698) (o := .cells #[.int .i64 a0_0, .slice A0_1 l0_1.length c0_1, .slice A0_2 l0_2.length c0_2] 25 (0, 0)) (by (with_reducible repeat (first | refine blk_drewN ?_ _ | refine blk_drew ?_ | refine blk_alloc ?_ _ )); refine blk_far ?_ NB698_707.out _; (with_reducible repeat (first | refine blk_drewN ?_ _ | refine blk_drew ?_ | refine blk_alloc ?_ _ )); refine blk_far ?_ NB698_707.out _; (with_reducible repeat (first | refine blk_drewN ?_ _ | refine blk_drew ?_ | refine blk_alloc ?_ _ )); refine blk_far ?_ NB698_707.out _; (with_reducible repeat (first | refine blk_drewN ?_ _ | refine blk_drew ?_ | refine blk_alloc ?_ _ )); exact BK698.out) hb); have n3_ := Aside0.mk (blk_below (g := gb699) (o := .cells #[.int .i64 0, .slice none 0 0, .slice none 0 0] 25 (0, 0)) (by (with_reducible repeat (first | refine blk_drewN ?_ _ | refine blk_drew ?_ | refine blk_alloc ?_ _ )); refine blk_far ?_ NB699_707.out _; (with_reducible repeat (first | refine blk_drewN ?_ _ | refine blk_drew ?_ | refine blk_alloc ?_ _ )); refine blk_far ?_ NB699_707.out _; (with_reducible repeat (first | refine blk_drewN ?_ _ | refine blk_drew ?_ | refine blk_alloc ?_ _ )); refine blk_far ?_ NB699_707.out _; (with_reducible repeat (first | refine blk_drewN ?_ _ | refine blk_drew ?_ | refine blk_alloc ?_ _ )); exact BK699.out) hb); have n4_ := Aside0.mk (blk_below (g := gb707) (o := .cells #[.int .i64 t700, .slice Ao14 t701.length co14, .slice Ao15 t704.length co15] 25 (0, 0)) (by (with_reducible repeat (first | refine blk_drewN ?_ _ | refine blk_drew ?_ | refine blk_alloc ?_ _ )); refine blk_put (cs := #[.int .i64 t700, .slice Ao14 t701.length co14, .slice none 0 0]) ?_ 2 _ rfl; (with_reducible repeat (first | refine blk_drewN ?_ _ | refine blk_drew ?_ | refine blk_alloc ?_ _ )); refine blk_put (cs := #[.int .i64 t700, .slice none 0 0, .slice none 0 0]) ?_ 1 _ rfl; (with_reducible repeat (first | refine blk_drewN ?_ _ | refine blk_drew ?_ | refine blk_alloc ?_ _ )); refine blk_put (cs := #[.int .i64 0, .slice none 0 0, .slice none 0 0]) ?_ 0 _ rfl; (with_reducible repeat (first | refine blk_drewN ?_ _ | refine blk_drew ?_ | refine blk_alloc ?_ _ )); exact BK707.out) hb); have n5_ := Aside0.mk (below_step (by repeat ((with_reducible first | exact HB.out | refine below_set ?_ GE707.out))) hb); clear HO703; clear HO706; clear BK698; clear BK699; clear BK707; clear HB; have HO703 := n0_; have HO706 := n1_; have BK698 := n2_; have BK699 := n3_; have BK707 := n4_; have HB := n5_; clear n0_ n1_ n2_ n3_ n4_ n5_; (try clear hb); (try clear hb2); (try clear hk); (try clear hi)) | (go_at_call 48; (with_reducible refine (spec_l01In.calls a1 1 20 true _ A18.out).mono ?_); rintro e w' ⟨rfl, rfl⟩; have hcz24_0 : w23.cell? ⟨gb698, 0, none⟩ = some (.int .i64 a0_0) := (blk_cell BK698.out 0).trans rfl; have hcz24_1 : w23.cell? ⟨gb698, 1, none⟩ = some (.slice A0_1 l0_1.length c0_1) := (blk_cell BK698.out 1).trans rfl; have hcz24_2 : w23.cell? ⟨gb698, 2, none⟩ = some (.slice A0_2 l0_2.length c0_2) := (blk_cell BK698.out 2).trans rfl; have hfz24_0 := blk_frozen BK698.out 0; have hfz24_1 := blk_frozen BK698.out 1; have hfz24_2 := blk_frozen BK698.out 2))
        go_meet
        case rel => exact ⟨_, (((l0_2.length : Int) == 40)), (by rfl), H', ⟨by omega⟩, ⟨by (with_reducible repeat (first | apply Kd.R_alloc | apply Kd.R_drewN | apply Kd.R_drew )); exact HO703.out⟩, ⟨by (with_reducible repeat (first | apply Kd.R_alloc | apply Kd.R_drewN | apply Kd.R_drew )); exact HO706.out⟩, ⟨by (with_reducible repeat (first | refine blk_drewN ?_ _ | refine blk_drew ?_ | refine blk_alloc ?_ _ )); exact BK698.out⟩, ⟨by (with_reducible repeat (first | refine blk_drewN ?_ _ | refine blk_drew ?_ | refine blk_alloc ?_ _ )); exact BK699.out⟩, ⟨by (with_reducible repeat (first | refine blk_drewN ?_ _ | refine blk_drew ?_ | refine blk_alloc ?_ _ )); exact BK707.out⟩, ⟨by repeat ((with_reducible exact HB.out))⟩⟩
      · replace c19 := Bool.eq_false_iff.mpr c19
        subst c19
        have H1 : (spec_RetireNode.j0 k a1 true a0_0 l0_1 l0_2 t700 t701 t704) = some (r1, r2, r3, r4) := by rw [if_neg (show ¬ (false = true) by decide)] at H; exact H
        clear H
        have H := H1
        clear H1
        have H' := Aside0.mk H
        clear H
        have hnb25 := NB698_699.out
        have hnc25 := NB699_698.out
        have hnb26 := NB698_707.out
        have hnc26 := NB707_698.out
        have hcz27_0 : w10.cell? ⟨gb698, 0, none⟩ = some (.int .i64 a0_0) := (blk_cell BK698.out 0).trans rfl
        have hcz27_1 : w10.cell? ⟨gb698, 1, none⟩ = some (.slice A0_1 l0_1.length c0_1) := (blk_cell BK698.out 1).trans rfl
        have hcz27_2 : w10.cell? ⟨gb698, 2, none⟩ = some (.slice A0_2 l0_2.length c0_2) := (blk_cell BK698.out 2).trans rfl
        have hfz27_0 := blk_frozen BK698.out 0
        have hfz27_1 := blk_frozen BK698.out 1
        have hfz27_2 := blk_frozen BK698.out 2
        go_wp2_with (first | ((with_reducible refine gate_callee (f := 19) rfl ?_); refine goesL_ (some 11) rfl rfl Try.func19 (by kernel_rfl) rfl #[.agg #[.int .i64 a0_0, .slice A0_1 l0_1.length c0_1, .slice A0_2 l0_2.length c0_2]] rfl (by (try simp only [List.map_toArray, List.map_cons, List.map_nil]); rfl) ?_; (with_reducible refine (spec_EpochsOk.calls k a0_0 _ _ l0_1 _ _ l0_2 true _ ?side1 ?side2 ?side3 ?side4 A16.out).mono ?_); (case side1 => exact Kd.C_below HR0_1.out (by repeat ((with_reducible first | exact HB.out | refine below_set ?_ GE707.out)))); (case side2 => exact HC0_1.out); (case side3 => exact Kd.C_below HR0_2.out (by repeat ((with_reducible first | exact HB.out | refine below_set ?_ GE707.out)))); (case side4 => exact HC0_2.out); rintro e w28 ⟨rfl, hb⟩; refine ⟨_, rfl, ?_⟩; have n0_ := Aside0.mk (Kd.R_below (by (with_reducible repeat (first | apply Kd.R_alloc | apply Kd.R_drewN | apply Kd.R_drew )); exact (Kd.R_mono (Kd.R_far (p := ⟨gb707, 2, none⟩) (Kd.R_far (p := ⟨gb707, 1, none⟩) (Kd.R_far (p := ⟨gb707, 0, none⟩) (Kd.R_types HO703.out BK707.out (by decide)) (fun _ hk => hk.2) (.int .i64 t700)) (fun _ hk => hk.2) (.slice Ao14 t701.length co14)) (fun _ hk => hk.2) (.slice Ao15 t704.length co15)) (fun _ h_ => by exact h_.1))) hb); have n1_ := Aside0.mk (Kd.R_below (by (with_reducible repeat (first | apply Kd.R_alloc | apply Kd.R_drewN | apply Kd.R_drew )); exact (Kd.R_mono (Kd.R_far (p := ⟨gb707, 2, none⟩) (Kd.R_far (p := ⟨gb707, 1, none⟩) (Kd.R_far (p := ⟨gb707, 0, none⟩) (Kd.R_types HO706.out BK707.out (by decide)) (fun _ hk => hk.2) (.int .i64 t700)) (fun _ hk => hk.2) (.slice Ao14 t701.length co14)) (fun _ hk => hk.2) (.slice Ao15 t704.length co15)) (fun _ h_ => by exact h_.1))) hb); have n2_ := Aside0.mk (blk_below (g := gb698) (o := .cells #[.int .i64 a0_0, .slice A0_1 l0_1.length c0_1, .slice A0_2 l0_2.length c0_2] 25 (0, 0)) (by (with_reducible repeat (first | refine blk_drewN ?_ _ | refine blk_drew ?_ | refine blk_alloc ?_ _ )); refine blk_far ?_ NB698_707.out _; (with_reducible repeat (first | refine blk_drewN ?_ _ | refine blk_drew ?_ | refine blk_alloc ?_ _ )); refine blk_far ?_ NB698_707.out _; (with_reducible repeat (first | refine blk_drewN ?_ _ | refine blk_drew ?_ | refine blk_alloc ?_ _ )); refine blk_far ?_ NB698_707.out _; (with_reducible repeat (first | refine blk_drewN ?_ _ | refine blk_drew ?_ | refine blk_alloc ?_ _ )); exact BK698.out) hb); have n3_ := Aside0.mk (blk_below (g := gb699) (o := .cells #[.int .i64 0, .slice none 0 0, .slice none 0 0] 25 (0, 0)) (by (with_reducible repeat (first | refine blk_drewN ?_ _ | refine blk_drew ?_ | refine blk_alloc ?_ _ )); refine blk_far ?_ NB699_707.out _; (with_reducible repeat (first | refine blk_drewN ?_ _ | refine blk_drew ?_ | refine blk_alloc ?_ _ )); refine blk_far ?_ NB699_707.out _; (with_reducible repeat (first | refine blk_drewN ?_ _ | refine blk_drew ?_ | refine blk_alloc ?_ _ )); refine blk_far ?_ NB699_707.out _; (with_reducible repeat (first | refine blk_drewN ?_ _ | refine blk_drew ?_ | refine blk_alloc ?_ _ )); exact BK699.out) hb); have n4_ := Aside0.mk (blk_below (g := gb707) (o := .cells #[.int .i64 t700, .slice Ao14 t701.length co14, .slice Ao15 t704.length co15] 25 (0, 0)) (by (with_reducible repeat (first | refine blk_drewN ?_ _ | refine blk_drew ?_ | refine blk_alloc ?_ _ )); refine blk_put (cs := #[.int .i64 t700, .slice Ao14 t701.length co14, .slice none 0 0]) ?_ 2 _ rfl; (with_reducible repeat (first | refine blk_drewN ?_ _ | refine blk_drew ?_ | refine blk_alloc ?_ _ )); refine blk_put (cs := #[.int .i64 t700, .slice none 0 0, .slice none 0 0]) ?_ 1 _ rfl; (with_reducible repeat (first | refine blk_drewN ?_ _ | refine blk_drew ?_ | refine blk_alloc ?_ _ )); refine blk_put (cs := #[.int .i64 0, .slice none 0 0, .slice none 0 0]) ?_ 0 _ rfl; (with_reducible repeat (first | refine blk_drewN ?_ _ | refine blk_drew ?_ | refine blk_alloc ?_ _ )); exact BK707.out) hb); have n5_ := Aside0.mk (below_step (by repeat ((with_reducible first | exact HB.out | refine below_set ?_ GE707.out))) hb); clear HO703; clear HO706; clear BK698; clear BK699; clear BK707; clear HB; have HO703 := n0_; have HO706 := n1_; have BK698 := n2_; have BK699 := n3_; have BK707 := n4_; have HB := n5_; clear n0_ n1_ n2_ n3_ n4_ n5_; (try clear hb); (try clear hb2); (try clear hk); (try clear hi)) | (go_at_call 48; (with_reducible refine (spec_l01In.calls a1 1 20 false _ A18.out).mono ?_); rintro e w' ⟨rfl, rfl⟩))
        go_meet
        case rel => exact ⟨_, (true), (by rfl), H', ⟨by omega⟩, ⟨by (with_reducible repeat (first | apply Kd.R_alloc | apply Kd.R_drewN | apply Kd.R_drew )); exact HO703.out⟩, ⟨by (with_reducible repeat (first | apply Kd.R_alloc | apply Kd.R_drewN | apply Kd.R_drew )); exact HO706.out⟩, ⟨by (with_reducible repeat (first | refine blk_drewN ?_ _ | refine blk_drew ?_ | refine blk_alloc ?_ _ )); exact BK698.out⟩, ⟨by (with_reducible repeat (first | refine blk_drewN ?_ _ | refine blk_drew ?_ | refine blk_alloc ?_ _ )); exact BK699.out⟩, ⟨by (with_reducible repeat (first | refine blk_drewN ?_ _ | refine blk_drew ?_ | refine blk_alloc ?_ _ )); exact BK707.out⟩, ⟨by repeat ((with_reducible exact HB.out))⟩⟩
    · replace c17 := Bool.eq_false_iff.mpr c17
      subst c17
      have H1 : (spec_RetireNode.j0 k a1 true a0_0 l0_1 l0_2 t700 t701 t704) = some (r1, r2, r3, r4) := by rw [if_neg (show ¬ (false = true) by decide)] at H; exact H
      clear H
      have H := H1
      clear H1
      have H' := Aside0.mk H
      clear H
      have hnb29 := NB698_699.out
      have hnc29 := NB699_698.out
      have hnb30 := NB698_707.out
      have hnc30 := NB707_698.out
      have hcz31_0 : w10.cell? ⟨gb698, 0, none⟩ = some (.int .i64 a0_0) := (blk_cell BK698.out 0).trans rfl
      have hcz31_1 : w10.cell? ⟨gb698, 1, none⟩ = some (.slice A0_1 l0_1.length c0_1) := (blk_cell BK698.out 1).trans rfl
      have hcz31_2 : w10.cell? ⟨gb698, 2, none⟩ = some (.slice A0_2 l0_2.length c0_2) := (blk_cell BK698.out 2).trans rfl
      have hfz31_0 := blk_frozen BK698.out 0
      have hfz31_1 := blk_frozen BK698.out 1
      have hfz31_2 := blk_frozen BK698.out 2
      go_wp2_with (((with_reducible refine gate_callee (f := 19) rfl ?_); refine goesL_ (some 11) rfl rfl Try.func19 (by kernel_rfl) rfl #[.agg #[.int .i64 a0_0, .slice A0_1 l0_1.length c0_1, .slice A0_2 l0_2.length c0_2]] rfl (by (try simp only [List.map_toArray, List.map_cons, List.map_nil]); rfl) ?_; (with_reducible refine (spec_EpochsOk.calls k a0_0 _ _ l0_1 _ _ l0_2 false _ ?side1 ?side2 ?side3 ?side4 A16.out).mono ?_); (case side1 => exact Kd.C_below HR0_1.out (by repeat ((with_reducible first | exact HB.out | refine below_set ?_ GE707.out)))); (case side2 => exact HC0_1.out); (case side3 => exact Kd.C_below HR0_2.out (by repeat ((with_reducible first | exact HB.out | refine below_set ?_ GE707.out)))); (case side4 => exact HC0_2.out); rintro e w32 ⟨rfl, hb⟩; refine ⟨_, rfl, ?_⟩; have n0_ := Aside0.mk (Kd.R_below (by (with_reducible repeat (first | apply Kd.R_alloc | apply Kd.R_drewN | apply Kd.R_drew )); exact (Kd.R_mono (Kd.R_far (p := ⟨gb707, 2, none⟩) (Kd.R_far (p := ⟨gb707, 1, none⟩) (Kd.R_far (p := ⟨gb707, 0, none⟩) (Kd.R_types HO703.out BK707.out (by decide)) (fun _ hk => hk.2) (.int .i64 t700)) (fun _ hk => hk.2) (.slice Ao14 t701.length co14)) (fun _ hk => hk.2) (.slice Ao15 t704.length co15)) (fun _ h_ => by exact h_.1))) hb); have n1_ := Aside0.mk (Kd.R_below (by (with_reducible repeat (first | apply Kd.R_alloc | apply Kd.R_drewN | apply Kd.R_drew )); exact (Kd.R_mono (Kd.R_far (p := ⟨gb707, 2, none⟩) (Kd.R_far (p := ⟨gb707, 1, none⟩) (Kd.R_far (p := ⟨gb707, 0, none⟩) (Kd.R_types HO706.out BK707.out (by decide)) (fun _ hk => hk.2) (.int .i64 t700)) (fun _ hk => hk.2) (.slice Ao14 t701.length co14)) (fun _ hk => hk.2) (.slice Ao15 t704.length co15)) (fun _ h_ => by exact h_.1))) hb); have n2_ := Aside0.mk (blk_below (g := gb698) (o := .cells #[.int .i64 a0_0, .slice A0_1 l0_1.length c0_1, .slice A0_2 l0_2.length c0_2] 25 (0, 0)) (by (with_reducible repeat (first | refine blk_drewN ?_ _ | refine blk_drew ?_ | refine blk_alloc ?_ _ )); refine blk_far ?_ NB698_707.out _; (with_reducible repeat (first | refine blk_drewN ?_ _ | refine blk_drew ?_ | refine blk_alloc ?_ _ )); refine blk_far ?_ NB698_707.out _; (with_reducible repeat (first | refine blk_drewN ?_ _ | refine blk_drew ?_ | refine blk_alloc ?_ _ )); refine blk_far ?_ NB698_707.out _; (with_reducible repeat (first | refine blk_drewN ?_ _ | refine blk_drew ?_ | refine blk_alloc ?_ _ )); exact BK698.out) hb); have n3_ := Aside0.mk (blk_below (g := gb699) (o := .cells #[.int .i64 0, .slice none 0 0, .slice none 0 0] 25 (0, 0)) (by (with_reducible repeat (first | refine blk_drewN ?_ _ | refine blk_drew ?_ | refine blk_alloc ?_ _ )); refine blk_far ?_ NB699_707.out _; (with_reducible repeat (first | refine blk_drewN ?_ _ | refine blk_drew ?_ | refine blk_alloc ?_ _ )); refine blk_far ?_ NB699_707.out _; (with_reducible repeat (first | refine blk_drewN ?_ _ | refine blk_drew ?_ | refine blk_alloc ?_ _ )); refine blk_far ?_ NB699_707.out _; (with_reducible repeat (first | refine blk_drewN ?_ _ | refine blk_drew ?_ | refine blk_alloc ?_ _ )); exact BK699.out) hb); have n4_ := Aside0.mk (blk_below (g := gb707) (o := .cells #[.int .i64 t700, .slice Ao14 t701.length co14, .slice Ao15 t704.length co15] 25 (0, 0)) (by (with_reducible repeat (first | refine blk_drewN ?_ _ | refine blk_drew ?_ | refine blk_alloc ?_ _ )); refine blk_put (cs := #[.int .i64 t700, .slice Ao14 t701.length co14, .slice none 0 0]) ?_ 2 _ rfl; (with_reducible repeat (first | refine blk_drewN ?_ _ | refine blk_drew ?_ | refine blk_alloc ?_ _ )); refine blk_put (cs := #[.int .i64 t700, .slice none 0 0, .slice none 0 0]) ?_ 1 _ rfl; (with_reducible repeat (first | refine blk_drewN ?_ _ | refine blk_drew ?_ | refine blk_alloc ?_ _ )); refine blk_put (cs := #[.int .i64 0, .slice none 0 0, .slice none 0 0]) ?_ 0 _ rfl; (with_reducible repeat (first | refine blk_drewN ?_ _ | refine blk_drew ?_ | refine blk_alloc ?_ _ )); exact BK707.out) hb); have n5_ := Aside0.mk (below_step (by repeat ((with_reducible first | exact HB.out | refine below_set ?_ GE707.out))) hb); clear HO703; clear HO706; clear BK698; clear BK699; clear BK707; clear HB; have HO703 := n0_; have HO706 := n1_; have BK698 := n2_; have BK699 := n3_; have BK707 := n4_; have HB := n5_; clear n0_ n1_ n2_ n3_ n4_ n5_; (try clear hb); (try clear hb2); (try clear hk); (try clear hi)))
      go_meet
      case rel => exact ⟨_, (true), (by rfl), H', ⟨by omega⟩, ⟨by (with_reducible repeat (first | apply Kd.R_alloc | apply Kd.R_drewN | apply Kd.R_drew )); exact HO703.out⟩, ⟨by (with_reducible repeat (first | apply Kd.R_alloc | apply Kd.R_drewN | apply Kd.R_drew )); exact HO706.out⟩, ⟨by (with_reducible repeat (first | refine blk_drewN ?_ _ | refine blk_drew ?_ | refine blk_alloc ?_ _ )); exact BK698.out⟩, ⟨by (with_reducible repeat (first | refine blk_drewN ?_ _ | refine blk_drew ?_ | refine blk_alloc ?_ _ )); exact BK699.out⟩, ⟨by (with_reducible repeat (first | refine blk_drewN ?_ _ | refine blk_drew ?_ | refine blk_alloc ?_ _ )); exact BK707.out⟩, ⟨by repeat ((with_reducible exact HB.out))⟩⟩
  case rest =>
    clear HC4
    clear hcz13_0
    clear hcz13_1
    clear hcz13_2
    clear hcz8_0
    clear hcz8_1
    clear hcz8_2
    clear hfz13_0
    clear hfz13_1
    clear hfz13_2
    clear hfz8_0
    clear hfz8_1
    clear hfz8_2
    obtain ⟨kq, x23_3, rfl, HA, HJ3, HO_708001, HO_708002, BK698, BK699, BK707, HB⟩ := hcut
    cases kq with
    | zero => exact absurd HA.out (by simp [spec_RetireNode.j0])
    | succ kj3 =>
      have H := HA.out
      clear HA
      simp only [spec_RetireNode.j0] at H
      by_cases c33 : x23_3 = true
      · subst c33
        have H1 : (some (t700, t701, t704, false)) = some (r1, r2, r3, r4) := by rw [if_pos rfl] at H; exact H
        clear H
        have H := H1
        clear H1
        simp only [Option.some.injEq, Prod.mk.injEq] at H
        obtain ⟨rfl, rfl, rfl, rfl⟩ := H
        have hnb34 := NB707_698.out
        have hnc34 := NB698_707.out
        have hnb35 := NB707_699.out
        have hnc35 := NB699_707.out
        have hcz36_0 : wc.cell? ⟨gb707, 0, none⟩ = some (.int .i64 t700) := (blk_cell BK707.out 0).trans rfl
        have hcz36_1 : wc.cell? ⟨gb707, 1, none⟩ = some (.slice Ao14 t701.length co14) := (blk_cell BK707.out 1).trans rfl
        have hcz36_2 : wc.cell? ⟨gb707, 2, none⟩ = some (.slice Ao15 t704.length co15) := (blk_cell BK707.out 2).trans rfl
        have hfz36_0 := blk_frozen BK707.out 0
        have hfz36_1 := blk_frozen BK707.out 1
        have hfz36_2 := blk_frozen BK707.out 2
        have hnb37 := NB699_698.out
        have hnc37 := NB698_699.out
        have hcz38_0 : wc.cell? ⟨gb699, 0, none⟩ = some (.int .i64 0) := (blk_cell BK699.out 0).trans rfl
        have hcz38_1 : wc.cell? ⟨gb699, 1, none⟩ = some (.slice none 0 0) := (blk_cell BK699.out 1).trans rfl
        have hcz38_2 : wc.cell? ⟨gb699, 2, none⟩ = some (.slice none 0 0) := (blk_cell BK699.out 2).trans rfl
        have hfz38_0 := blk_frozen BK699.out 0
        have hfz38_1 := blk_frozen BK699.out 1
        have hfz38_2 := blk_frozen BK699.out 2
        go_wp2
        refine bodyPost_ret (results_ct rfl _ _ gb699 25 #[.int .i64 t700, .slice Ao14 t701.length co14, .slice Ao15 t704.length co15] (0, 0) _ rfl (by (with_reducible repeat (first | refine blk_drewN ?_ _ | refine blk_drew ?_ | refine blk_alloc ?_ _ )); refine blk_put (cs := #[.int .i64 t700, .slice Ao14 t701.length co14, .slice none 0 0]) ?_ 2 _ rfl; (with_reducible repeat (first | refine blk_drewN ?_ _ | refine blk_drew ?_ | refine blk_alloc ?_ _ )); refine blk_put (cs := #[.int .i64 t700, .slice none 0 0, .slice none 0 0]) ?_ 1 _ rfl; (with_reducible repeat (first | refine blk_drewN ?_ _ | refine blk_drew ?_ | refine blk_alloc ?_ _ )); refine blk_put (cs := #[.int .i64 0, .slice none 0 0, .slice none 0 0]) ?_ 0 _ rfl; (with_reducible repeat (first | refine blk_drewN ?_ _ | refine blk_drew ?_ | refine blk_alloc ?_ _ )); exact BK699.out) Try.underlying25 rfl (by kernel_rfl)) rfl ?_
        exact ⟨_, _, by rfl, by (with_reducible repeat (first | apply Kd.R_alloc | apply Kd.R_drewN | apply Kd.R_drew )); exact Kd.R_mono (Kd.R_far (p := ⟨gb699, 2, none⟩) (Kd.R_far (p := ⟨gb699, 1, none⟩) (Kd.R_far (p := ⟨gb699, 0, none⟩) (Kd.R_types HO_708001.out BK699.out (by decide)) (fun _ hk => hk.2) (.int .i64 t700)) (fun _ hk => hk.2) (.slice Ao14 t701.length co14)) (fun _ hk => hk.2) (.slice Ao15 t704.length co15)) (fun _ hk => trivial), by (with_reducible repeat (first | apply Kd.R_alloc | apply Kd.R_drewN | apply Kd.R_drew )); exact Kd.R_mono (Kd.R_far (p := ⟨gb699, 2, none⟩) (Kd.R_far (p := ⟨gb699, 1, none⟩) (Kd.R_far (p := ⟨gb699, 0, none⟩) (Kd.R_types HO_708002.out BK699.out (by decide)) (fun _ hk => hk.2) (.int .i64 t700)) (fun _ hk => hk.2) (.slice Ao14 t701.length co14)) (fun _ hk => hk.2) (.slice Ao15 t704.length co15)) (fun _ hk => trivial), by repeat ((with_reducible first | exact HB.out | refine below_set ?_ GE699.out))⟩
      · replace c33 := Bool.eq_false_iff.mpr c33
        subst c33
        have H1 : (spec_RetireNode.l0 kj3 a1 0 a0_0 l0_1 l0_2 t700 t701 t704) = some (r1, r2, r3, r4) := by rw [if_neg (show ¬ (false = true) by decide)] at H; exact H
        clear H
        have H := H1
        clear H1
        have H' := Aside0.mk H
        clear H
        go_wp2
        go_loopg [7] kj3 (fun kq v7 w' => ∃ (x7_2 : Int) (x700000_2 : Int), v7 = .int .i64 x7_2 ∧ Aside0 (spec_RetireNode.l0 kq a1 x7_2 a0_0 l0_1 l0_2 t700 t701 t704 = some (r1, r2, r3, r4)) ∧ Aside0 (kq ≤ kj3) ∧ Aside0 (Kd.R (Kd.int .i64) 3 w' w.heap.size (fun _ => True) (.slice Ao14 t701.length co14) t701) ∧ Aside0 (Kd.R k57 57 w' w.heap.size (fun _ => True) (.slice Ao15 t704.length co15) t704) ∧ Aside0 (w'.heap[gb698]? = some (.cells #[.int .i64 a0_0, (.slice A0_1 l0_1.length c0_1), (.slice A0_2 l0_2.length c0_2)] 25 (0, 0))) ∧ Aside0 (w'.heap[gb699]? = some (.cells #[.int .i64 x700000_2, (.slice none 0 0), (.slice none 0 0)] 25 (0, 0))) ∧ Aside0 (w'.heap[gb707]? = some (.cells #[.int .i64 t700, (.slice Ao14 t701.length co14), (.slice Ao15 t704.length co15)] 25 (0, 0))) ∧ Aside0 (Below w.heap.size w w'))
        case atStart => exact ⟨(0), (0), (by rfl), H', ⟨Nat.le_refl _⟩, ⟨by (with_reducible repeat (first | apply Kd.R_alloc | apply Kd.R_drewN | apply Kd.R_drew )); exact HO_708001.out⟩, ⟨by (with_reducible repeat (first | apply Kd.R_alloc | apply Kd.R_drewN | apply Kd.R_drew )); exact HO_708002.out⟩, ⟨by (with_reducible repeat (first | refine blk_drewN ?_ _ | refine blk_drew ?_ | refine blk_alloc ?_ _ )); exact BK698.out⟩, ⟨by (with_reducible repeat (first | refine blk_drewN ?_ _ | refine blk_drew ?_ | refine blk_alloc ?_ _ )); exact BK699.out⟩, ⟨by (with_reducible repeat (first | refine blk_drewN ?_ _ | refine blk_drew ?_ | refine blk_alloc ?_ _ )); exact BK707.out⟩, ⟨by repeat ((with_reducible exact HB.out))⟩⟩
        case round =>
          clear H'
          obtain ⟨x7_2, x700000_2, rfl, HA, HK2, HO_708001, HO_708002, BK698, BK699, BK707, HB⟩ := hrel
          cases gk with
          | zero => exact absurd HA.out (by simp [spec_RetireNode.l0])
          | succ k2 =>
            have H := HA.out
            clear HA
            simp only [spec_RetireNode.l0] at H
            by_cases c39 : x7_2 < (l0_2.length : Int)
            · rw [if_pos c39] at H
              have c39b0 : decide (x7_2 < (l0_2.length : Int)) = true := decide_eq_true c39
              clear c39
              by_cases c40 : 0 ≤ x7_2
              · rw [if_pos c40] at H
                have c40b0 : decide (0 ≤ x7_2) = true := decide_eq_true c40
                clear c40
                by_cases c41 : ((rd_T57 l0_2 x7_2).f0) = a1
                · rw [if_pos c41] at H
                  have c41b0 : (((rd_T57 l0_2 x7_2).f0) == a1) = true := beq_iff_eq.mpr c41
                  have c41b1 : (((rd_T57 l0_2 x7_2).f0) != a1) = false := bne_eq_false_iff_eq.mpr c41
                  clear c41
                  simp only [Option.some.injEq, Prod.mk.injEq] at H
                  obtain ⟨rfl, rfl, rfl, rfl⟩ := H
                  have hnb42 := NB698_699.out
                  have hnc42 := NB699_698.out
                  have hnb43 := NB698_707.out
                  have hnc43 := NB707_698.out
                  have hcz44_0 : wr.cell? ⟨gb698, 0, none⟩ = some (.int .i64 a0_0) := (blk_cell BK698.out 0).trans rfl
                  have hcz44_1 : wr.cell? ⟨gb698, 1, none⟩ = some (.slice A0_1 l0_1.length c0_1) := (blk_cell BK698.out 1).trans rfl
                  have hcz44_2 : wr.cell? ⟨gb698, 2, none⟩ = some (.slice A0_2 l0_2.length c0_2) := (blk_cell BK698.out 2).trans rfl
                  have hfz44_0 := blk_frozen BK698.out 0
                  have hfz44_1 := blk_frozen BK698.out 1
                  have hfz44_2 := blk_frozen BK698.out 2
                  have p710 : 0 ≤ (x7_2 : Int) := of_decide_eq_true (by (with_reducible assumption))
                  have q710 : x7_2 < (l0_2.length : Int) := of_decide_eq_true (by (with_reducible assumption))
                  obtain ⟨ad710, e710, hx710_0, hx710_1⟩ := at_T57 HR0_2.out x7_2 p710 q710
                  cases e710
                  replace hx710_0 := (HB.out.cell (World.block_lt_of_cell? w _ hx710_0)).trans hx710_0
                  replace hx710_1 := (HB.out.cell (World.block_lt_of_cell? w _ hx710_1)).trans hx710_1
                  replace p710 := eq_true p710
                  replace q710 := eq_true q710
                  have hnb45 := NB707_699.out
                  have hnc45 := NB699_707.out
                  have hcz46_0 : wr.cell? ⟨gb707, 0, none⟩ = some (.int .i64 t700) := (blk_cell BK707.out 0).trans rfl
                  have hcz46_1 : wr.cell? ⟨gb707, 1, none⟩ = some (.slice Ao14 t701.length co14) := (blk_cell BK707.out 1).trans rfl
                  have hcz46_2 : wr.cell? ⟨gb707, 2, none⟩ = some (.slice Ao15 t704.length co15) := (blk_cell BK707.out 2).trans rfl
                  have hfz46_0 := blk_frozen BK707.out 0
                  have hfz46_1 := blk_frozen BK707.out 1
                  have hfz46_2 := blk_frozen BK707.out 2
                  have hcz47_0 : wr.cell? ⟨gb699, 0, none⟩ = some (.int .i64 x700000_2) := (blk_cell BK699.out 0).trans rfl
                  have hcz47_1 : wr.cell? ⟨gb699, 1, none⟩ = some (.slice none 0 0) := (blk_cell BK699.out 1).trans rfl
                  have hcz47_2 : wr.cell? ⟨gb699, 2, none⟩ = some (.slice none 0 0) := (blk_cell BK699.out 2).trans rfl
                  have hfz47_0 := blk_frozen BK699.out 0
                  have hfz47_1 := blk_frozen BK699.out 1
                  have hfz47_2 := blk_frozen BK699.out 2
                  go_wp2
                  refine bodyPost_ret (results_ct rfl _ _ gb699 25 #[.int .i64 t700, .slice Ao14 t701.length co14, .slice Ao15 t704.length co15] (0, 0) _ rfl (by (with_reducible repeat (first | refine blk_drewN ?_ _ | refine blk_drew ?_ | refine blk_alloc ?_ _ )); refine blk_put (cs := #[.int .i64 t700, .slice Ao14 t701.length co14, .slice none 0 0]) ?_ 2 _ rfl; (with_reducible repeat (first | refine blk_drewN ?_ _ | refine blk_drew ?_ | refine blk_alloc ?_ _ )); refine blk_put (cs := #[.int .i64 t700, .slice none 0 0, .slice none 0 0]) ?_ 1 _ rfl; (with_reducible repeat (first | refine blk_drewN ?_ _ | refine blk_drew ?_ | refine blk_alloc ?_ _ )); refine blk_put (cs := #[.int .i64 x700000_2, .slice none 0 0, .slice none 0 0]) ?_ 0 _ rfl; (with_reducible repeat (first | refine blk_drewN ?_ _ | refine blk_drew ?_ | refine blk_alloc ?_ _ )); exact BK699.out) Try.underlying25 rfl (by kernel_rfl)) rfl ?_
                  exact ⟨_, _, by rfl, by (with_reducible repeat (first | apply Kd.R_alloc | apply Kd.R_drewN | apply Kd.R_drew )); exact Kd.R_mono (Kd.R_far (p := ⟨gb699, 2, none⟩) (Kd.R_far (p := ⟨gb699, 1, none⟩) (Kd.R_far (p := ⟨gb699, 0, none⟩) (Kd.R_types HO_708001.out BK699.out (by decide)) (fun _ hk => hk.2) (.int .i64 t700)) (fun _ hk => hk.2) (.slice Ao14 t701.length co14)) (fun _ hk => hk.2) (.slice Ao15 t704.length co15)) (fun _ hk => trivial), by (with_reducible repeat (first | apply Kd.R_alloc | apply Kd.R_drewN | apply Kd.R_drew )); exact Kd.R_mono (Kd.R_far (p := ⟨gb699, 2, none⟩) (Kd.R_far (p := ⟨gb699, 1, none⟩) (Kd.R_far (p := ⟨gb699, 0, none⟩) (Kd.R_types HO_708002.out BK699.out (by decide)) (fun _ hk => hk.2) (.int .i64 t700)) (fun _ hk => hk.2) (.slice Ao14 t701.length co14)) (fun _ hk => hk.2) (.slice Ao15 t704.length co15)) (fun _ hk => trivial), by repeat ((with_reducible first | exact HB.out | refine below_set ?_ GE699.out))⟩
                · rw [if_neg c41] at H
                  have c41b0 : (((rd_T57 l0_2 x7_2).f0) == a1) = false := beq_eq_false_iff_ne.mpr c41
                  have c41b1 : (((rd_T57 l0_2 x7_2).f0) != a1) = true := bne_iff_ne.mpr c41
                  have H' := Aside0.mk H
                  clear H
                  have hnb48 := NB698_699.out
                  have hnc48 := NB699_698.out
                  have hnb49 := NB698_707.out
                  have hnc49 := NB707_698.out
                  have hcz50_0 : wr.cell? ⟨gb698, 0, none⟩ = some (.int .i64 a0_0) := (blk_cell BK698.out 0).trans rfl
                  have hcz50_1 : wr.cell? ⟨gb698, 1, none⟩ = some (.slice A0_1 l0_1.length c0_1) := (blk_cell BK698.out 1).trans rfl
                  have hcz50_2 : wr.cell? ⟨gb698, 2, none⟩ = some (.slice A0_2 l0_2.length c0_2) := (blk_cell BK698.out 2).trans rfl
                  have hfz50_0 := blk_frozen BK698.out 0
                  have hfz50_1 := blk_frozen BK698.out 1
                  have hfz50_2 := blk_frozen BK698.out 2
                  have p710 : 0 ≤ (x7_2 : Int) := of_decide_eq_true (by (with_reducible assumption))
                  have q710 : x7_2 < (l0_2.length : Int) := of_decide_eq_true (by (with_reducible assumption))
                  obtain ⟨ad710, e710, hx710_0, hx710_1⟩ := at_T57 HR0_2.out x7_2 p710 q710
                  cases e710
                  replace hx710_0 := (HB.out.cell (World.block_lt_of_cell? w _ hx710_0)).trans hx710_0
                  replace hx710_1 := (HB.out.cell (World.block_lt_of_cell? w _ hx710_1)).trans hx710_1
                  replace p710 := eq_true p710
                  replace q710 := eq_true q710
                  go_wp2
                  go_roundg k2
                  case measure => have := HJ3.out; have := HK2.out; omega
                  case rel => exact ⟨(wrap64 (x7_2 + 1)), (x700000_2), (by rfl), H', ⟨by have := HJ3.out; have := HK2.out; omega⟩, ⟨by (with_reducible repeat (first | apply Kd.R_alloc | apply Kd.R_drewN | apply Kd.R_drew )); exact HO_708001.out⟩, ⟨by (with_reducible repeat (first | apply Kd.R_alloc | apply Kd.R_drewN | apply Kd.R_drew )); exact HO_708002.out⟩, ⟨by (with_reducible repeat (first | refine blk_drewN ?_ _ | refine blk_drew ?_ | refine blk_alloc ?_ _ )); exact BK698.out⟩, ⟨by (with_reducible repeat (first | refine blk_drewN ?_ _ | refine blk_drew ?_ | refine blk_alloc ?_ _ )); exact BK699.out⟩, ⟨by (with_reducible repeat (first | refine blk_drewN ?_ _ | refine blk_drew ?_ | refine blk_alloc ?_ _ )); exact BK707.out⟩, ⟨by repeat ((with_reducible exact HB.out))⟩⟩
              · rw [if_neg c40] at H
                exact absurd H (by simp)
            · rw [if_neg c39] at H
              have c39b0 : decide (x7_2 < (l0_2.length : Int)) = false := decide_eq_false c39
              clear c39
              by_cases c51 : t704.length < 8796093022208
              · rw [if_pos c51] at H
                have LMc51 := Aside0.mk c51
                clear c51
                obtain ⟨y711, hy711⟩ : ∃ y_ : List (S57), y_ = (t704 ++ [(⟨a1, a0_0⟩ : S57)]) := ⟨_, rfl⟩
                replace H : (some (t700, t701, y711, true)) = some (r1, r2, r3, r4) := by (rw [hy711]; with_reducible exact H)
                have Ny711 := Aside0.mk hy711
                clear hy711
                simp only [Option.some.injEq, Prod.mk.injEq] at H
                obtain ⟨rfl, rfl, rfl, rfl⟩ := H
                have hnb52 := NB698_699.out
                have hnc52 := NB699_698.out
                have hnb53 := NB698_707.out
                have hnc53 := NB707_698.out
                have hcz54_0 : wr.cell? ⟨gb698, 0, none⟩ = some (.int .i64 a0_0) := (blk_cell BK698.out 0).trans rfl
                have hcz54_1 : wr.cell? ⟨gb698, 1, none⟩ = some (.slice A0_1 l0_1.length c0_1) := (blk_cell BK698.out 1).trans rfl
                have hcz54_2 : wr.cell? ⟨gb698, 2, none⟩ = some (.slice A0_2 l0_2.length c0_2) := (blk_cell BK698.out 2).trans rfl
                have hfz54_0 := blk_frozen BK698.out 0
                have hfz54_1 := blk_frozen BK698.out 1
                have hfz54_2 := blk_frozen BK698.out 2
                have hnb55 := NB707_699.out
                have hnc55 := NB699_707.out
                have hcz56_0 : wr.cell? ⟨gb707, 0, none⟩ = some (.int .i64 t700) := (blk_cell BK707.out 0).trans rfl
                have hcz56_1 : wr.cell? ⟨gb707, 1, none⟩ = some (.slice Ao14 t701.length co14) := (blk_cell BK707.out 1).trans rfl
                have hcz56_2 : wr.cell? ⟨gb707, 2, none⟩ = some (.slice Ao15 t704.length co15) := (blk_cell BK707.out 2).trans rfl
                have hfz56_0 := blk_frozen BK707.out 0
                have hfz56_1 := blk_frozen BK707.out 1
                have hfz56_2 := blk_frozen BK707.out 2
                go_wp2_with (((with_reducible refine gate_builtin (b := .append) (xs := #[.tmp 42, .tmp 47]) rfl ?_); (try (refine gate_guard (by rfl) ?_; dsimp only)); at_builtin; refine Kd.R_append k57 (w0 := w) w.heap.size rfl (.tmp 42) (.tmp 47) 23 57 (.agg #[(.int .i64 0), (.int .i64 0)]) 16 rfl Try.underlying23 info57 rfl (by decide) (by omega) (.slice Ao15 t704.length co15) t704 (⟨a1, a0_0⟩ : S57) [.int .i64 a1, .int .i64 a0_0] (fun _ => True) (fun _ => False) rfl rfl ?aP (fun _ hk => hk.elim) ?aF ?aO ?aB ?aS ?aL ?_; (case aP => exact k57_mkM _ _ _ (⟨a1, a0_0⟩ : S57)); (case aB => exact (by repeat ((with_reducible exact HB.out)))); (case aF => exact (fun _ _ => trivial)); (case aO => exact (by (with_reducible repeat (first | apply Kd.R_alloc | apply Kd.R_drewN | apply Kd.R_drew )); exact HO_708002.out)); (case aS => exact (below_size (by repeat ((with_reducible exact HB.out))))); (case aL => have := LMc51.out; omega); intro v712 w57 ho hb hg hat; rw [← Ny711.out] at ho; have n0_ := Aside0.mk (Kd.R_over' (by (with_reducible repeat (first | apply Kd.R_alloc | apply Kd.R_drewN | apply Kd.R_drew )); exact HO_708001.out) (Kd.R_typed (by (with_reducible repeat (first | apply Kd.R_alloc | apply Kd.R_drewN | apply Kd.R_drew )); exact HO_708002.out)) (by decide) hg); have n1_ := Aside0.mk (blk_grown (g := gb698) (o := .cells #[.int .i64 a0_0, .slice A0_1 l0_1.length c0_1, .slice A0_2 l0_2.length c0_2] 25 (0, 0)) (by (with_reducible repeat (first | refine blk_drewN ?_ _ | refine blk_drew ?_ | refine blk_alloc ?_ _ )); exact BK698.out) hg (Kd.R_ne HO_708002.out BK698.out (by decide))); have n2_ := Aside0.mk (blk_grown (g := gb699) (o := .cells #[.int .i64 x700000_2, .slice none 0 0, .slice none 0 0] 25 (0, 0)) (by (with_reducible repeat (first | refine blk_drewN ?_ _ | refine blk_drew ?_ | refine blk_alloc ?_ _ )); exact BK699.out) hg (Kd.R_ne HO_708002.out BK699.out (by decide))); have n3_ := Aside0.mk (blk_grown (g := gb707) (o := .cells #[.int .i64 t700, .slice Ao14 t701.length co14, .slice Ao15 t704.length co15] 25 (0, 0)) (by (with_reducible repeat (first | refine blk_drewN ?_ _ | refine blk_drew ?_ | refine blk_alloc ?_ _ )); exact BK707.out) hg (Kd.R_ne HO_708002.out BK707.out (by decide))); have n4_ := Aside0.mk (hb); have n5_ := Aside0.mk (ho); clear HO_708001; clear BK698; clear BK699; clear BK707; clear HB; clear HO_708002; have HO_708001 := n0_; have BK698 := n1_; have BK699 := n2_; have BK707 := n3_; have HB := n4_; have HO713 := n5_; clear n0_ n1_ n2_ n3_ n4_ n5_; clear ho hb hg hat; obtain ⟨Ao58, co58, eo58⟩ := Kd.R_slice HO713.out; subst eo58; have hcz59_0 : w57.cell? ⟨gb707, 0, none⟩ = some (.int .i64 t700) := (blk_cell BK707.out 0).trans rfl; have hcz59_1 : w57.cell? ⟨gb707, 1, none⟩ = some (.slice Ao14 t701.length co14) := (blk_cell BK707.out 1).trans rfl; have hcz59_2 : w57.cell? ⟨gb707, 2, none⟩ = some (.slice Ao15 t704.length co15) := (blk_cell BK707.out 2).trans rfl; have hfz59_0 := blk_frozen BK707.out 0; have hfz59_1 := blk_frozen BK707.out 1; have hfz59_2 := blk_frozen BK707.out 2; have hcz60_0 : w57.cell? ⟨gb699, 0, none⟩ = some (.int .i64 x700000_2) := (blk_cell BK699.out 0).trans rfl; have hcz60_1 : w57.cell? ⟨gb699, 1, none⟩ = some (.slice none 0 0) := (blk_cell BK699.out 1).trans rfl; have hcz60_2 : w57.cell? ⟨gb699, 2, none⟩ = some (.slice none 0 0) := (blk_cell BK699.out 2).trans rfl; have hfz60_0 := blk_frozen BK699.out 0; have hfz60_1 := blk_frozen BK699.out 1; have hfz60_2 := blk_frozen BK699.out 2))
                refine bodyPost_ret (results_ct rfl _ _ gb699 25 #[.int .i64 t700, .slice Ao14 t701.length co14, .slice Ao58 y711.length co58] (0, 0) _ rfl (by (with_reducible repeat (first | refine blk_drewN ?_ _ | refine blk_drew ?_ | refine blk_alloc ?_ _ )); refine blk_put (cs := #[.int .i64 t700, .slice Ao14 t701.length co14, .slice none 0 0]) ?_ 2 _ rfl; (with_reducible repeat (first | refine blk_drewN ?_ _ | refine blk_drew ?_ | refine blk_alloc ?_ _ )); refine blk_put (cs := #[.int .i64 t700, .slice none 0 0, .slice none 0 0]) ?_ 1 _ rfl; (with_reducible repeat (first | refine blk_drewN ?_ _ | refine blk_drew ?_ | refine blk_alloc ?_ _ )); refine blk_put (cs := #[.int .i64 x700000_2, .slice none 0 0, .slice none 0 0]) ?_ 0 _ rfl; (with_reducible repeat (first | refine blk_drewN ?_ _ | refine blk_drew ?_ | refine blk_alloc ?_ _ )); refine blk_far ?_ NB699_707.out _; (with_reducible repeat (first | refine blk_drewN ?_ _ | refine blk_drew ?_ | refine blk_alloc ?_ _ )); exact BK699.out) Try.underlying25 rfl (by kernel_rfl)) rfl ?_
                exact ⟨_, _, by rfl, by (with_reducible repeat (first | apply Kd.R_alloc | apply Kd.R_drewN | apply Kd.R_drew )); exact Kd.R_mono (Kd.R_far (p := ⟨gb699, 2, none⟩) (Kd.R_far (p := ⟨gb699, 1, none⟩) (Kd.R_far (p := ⟨gb699, 0, none⟩) (Kd.R_far (p := ⟨gb707, 2, none⟩) (Kd.R_types (Kd.R_types HO_708001.out BK707.out (by decide)) BK699.out (by decide)) (fun _ hk => hk.1.2) (.slice Ao58 y711.length co58)) (fun _ hk => hk.2) (.int .i64 t700)) (fun _ hk => hk.2) (.slice Ao14 t701.length co14)) (fun _ hk => hk.2) (.slice Ao58 y711.length co58)) (fun _ hk => trivial), by (with_reducible repeat (first | apply Kd.R_alloc | apply Kd.R_drewN | apply Kd.R_drew )); exact Kd.R_mono (Kd.R_far (p := ⟨gb699, 2, none⟩) (Kd.R_far (p := ⟨gb699, 1, none⟩) (Kd.R_far (p := ⟨gb699, 0, none⟩) (Kd.R_far (p := ⟨gb707, 2, none⟩) (Kd.R_types (Kd.R_types HO713.out BK707.out (by decide)) BK699.out (by decide)) (fun _ hk => hk.1.2) (.slice Ao58 y711.length co58)) (fun _ hk => hk.2) (.int .i64 t700)) (fun _ hk => hk.2) (.slice Ao14 t701.length co14)) (fun _ hk => hk.2) (.slice Ao58 y711.length co58)) (fun _ hk => trivial), by repeat ((with_reducible first | exact HB.out | refine below_set ?_ GE699.out | refine below_set ?_ GE707.out))⟩
              · rw [if_neg c51] at H
                exact absurd H (by simp)
end Go.Proofs.Ytdbhpcekjcohdaa.Q
