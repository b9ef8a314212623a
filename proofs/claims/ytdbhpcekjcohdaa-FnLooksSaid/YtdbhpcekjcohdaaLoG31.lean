import Derived.Test.YtdbhpcekjcohdaaLoB0
import Derived.Test.YtdbhpcekjcohdaaLoG48
import Derived.Test.YtdbhpcekjcohdaaLoG52
import Derived.Test.YtdbhpcekjcohdaaLoWApart
import Derived.Test.YtdbhpcekjcohdaaLoWFoot
import Derived.Test.YtdbhpcekjcohdaaLoWKept
import Derived.Test.YtdbhpcekjcohdaaLoWLast
import Derived.Test.YtdbhpcekjcohdaaLoWMore
import Derived.Test.YtdbhpcekjcohdaaLoWN
import Derived.Test.YtdbhpcekjcohdaaLoWRepsOne
import Derived.Test.YtdbhpcekjcohdaaLoWShare
import Derived.Test.YtdbhpcekjcohdaaLoWWords
namespace Go.Proofs.Ytdbhpcekjcohdaa.Q
open Go.RowKit Go.Proofs.YtdbhpcekjcohdaaW.PrintWords Go.Proofs.YtdbhpcekjcohdaaW.PrintLast Go.Proofs.YtdbhpcekjcohdaaW.PrintMore
attribute [local go_sem] max2_int min2_int max_two min_two max_three min_three max_four min_four   -- for this text's walks alone
set_option linter.unusedVariables false
set_option linter.unusedSimpArgs false
mutual
def spec_AdvanceEpoch.j0 : Nat → Bool → Int → List Int → List (S57) → Int → List Int → List (S57) → Option (Int × List Int × (List (S57)) × Bool)
  | 0, _, _, _, _, _, _, _ => none
  | k + 1, x15, x603000, x603001, x603002, x612000, x612001, x612002 => if x15 = true then (some (x612000, x612001, x612002, false)) else (spec_AdvanceEpoch.l0 k 0 x603000 x603001 x603002 x612000 x612001 x612002)
def spec_AdvanceEpoch.l0 : Nat → Int → Int → List Int → List (S57) → Int → List Int → List (S57) → Option (Int × List Int × (List (S57)) × Bool)
  | 0, _, _, _, _, _, _, _ => none
  | k + 1, x5, x603000, x603001, x603002, x612000, x612001, x612002 => if x5 < (x603001.length : Int) then (if 0 ≤ x5 then (if (rd x603001 x5) = x603000 then (some (x612000, x612001, x612002, false)) else (spec_AdvanceEpoch.l0 k (wrap64 (x5 + 1)) x603000 x603001 x603002 x612000 x612001 x612002)) else (none)) else (some (wrap64 (x603000 + 1), x612001, x612002, true))
end
def spec_AdvanceEpoch.f (k : Nat) (a0_0 : Int) (l0_1 : List Int) (l0_2 : List (S57)) : Option (Int × List Int × (List (S57)) × Bool) := (spec_l08Copy.f a0_0 l0_1 l0_2).bind fun bt604 => ((spec_EpochsOk.f k a0_0 l0_1 l0_2).bind fun t612 => (if t612 = true then (spec_AdvanceEpoch.j0 k (a0_0 == 1000000000) a0_0 l0_1 l0_2 bt604.1 bt604.2.1 bt604.2.2) else (spec_AdvanceEpoch.j0 k true a0_0 l0_1 l0_2 bt604.1 bt604.2.1 bt604.2.2)))
set_option maxHeartbeats 8000000 in
set_option maxRecDepth 100000 in
theorem spec_AdvanceEpoch.calls (k : Nat) (a0_0 : Int) (A0_1 : Option Addr) (c0_1 : Nat) (l0_1 : List Int) (A0_2 : Option Addr) (c0_2 : Nat) (l0_2 : List (S57)) (r1 : Int) (r2 : List Int) (r3 : List (S57)) (r4 : Bool) (w : World) (hr0_1 : Kd.C (Kd.int .i64) w A0_1 l0_1.length l0_1) (hc0_1 : l0_1.length ≤ c0_1) (hr0_2 : Kd.C k57 w A0_2 l0_2.length l0_2) (hc0_2 : l0_2.length ≤ c0_2) (h : spec_AdvanceEpoch.f k a0_0 l0_1 l0_2 = some (r1, r2, r3, r4)) :
    Calls Try.prog 31 #[.agg #[.int .i64 a0_0, .slice A0_1 l0_1.length c0_1, .slice A0_2 l0_2.length c0_2]] w fun e w' => ∃ v1_ v2_ : Value, e = .returned (.tuple #[.agg #[.int .i64 r1, v1_, v2_], .bool r4]) ∧ Kd.R (Kd.int .i64) 3 w' w.heap.size (fun _ => True) v1_ r2 ∧ Kd.R k57 57 w' w.heap.size (fun _ => True) v2_ r3 ∧ Below w.heap.size w w' := by
  have hu25 := Try.underlying25
  have HR0_1 := Aside0.mk hr0_1
  have HC0_1 := Aside0.mk hc0_1
  clear hr0_1 hc0_1
  have HR0_2 := Aside0.mk hr0_2
  have HC0_2 := Aside0.mk hc0_2
  clear hr0_2 hc0_2
  have HB := Aside0.mk (Below.refl w.heap.size w)
  have H : ((spec_l08Copy.f a0_0 l0_1 l0_2).bind fun bt604 => ((spec_EpochsOk.f k a0_0 l0_1 l0_2).bind fun t612 => (if t612 = true then (spec_AdvanceEpoch.j0 k (a0_0 == 1000000000) a0_0 l0_1 l0_2 bt604.1 bt604.2.1 bt604.2.2) else (spec_AdvanceEpoch.j0 k true a0_0 l0_1 l0_2 bt604.1 bt604.2.1 bt604.2.2)))) = some (r1, r2, r3, r4) := h
  clear h
  replace H := Option.bind_eq_some_iff.mp H
  obtain ⟨⟨t604, t605, t608⟩, A20, H⟩ := H
  replace H : ((spec_EpochsOk.f k a0_0 l0_1 l0_2).bind fun t612 => (if t612 = true then (spec_AdvanceEpoch.j0 k (a0_0 == 1000000000) a0_0 l0_1 l0_2 t604 t605 t608) else (spec_AdvanceEpoch.j0 k true a0_0 l0_1 l0_2 t604 t605 t608))) = some (r1, r2, r3, r4) := H
  have A2 := Aside0.mk A20
  clear A20
  have HC3 := Aside0.mk H
  clear H
  go_enter Try.func31, Try.ntmps31
  go_upto_region 2 with (first | ((with_reducible refine gate_dst (N := 1) rfl ?_); refine box_event ?hg (N := 1) ?hd (cs := #[.int .i64 a0_0, .slice A0_1 l0_1.length c0_1, .slice A0_2 l0_2.length c0_2]) (t := 25) ?hr ?_; (case hd => rfl); (case hg => rfl); (case hr => (go_simp; done)); intro gb602 hg w4 hbox hb; have n0_ := Aside0.mk (below_step (by repeat ((with_reducible exact HB.out))) hb); have n1_ := Aside0.mk (hbox); have n2_ := Aside0.mk ((by rw [hg]; exact (below_size (by repeat ((with_reducible exact HB.out)))) : w.heap.size ≤ gb602)); have n3_ := Aside0.mk ((by rw [hg]; exact (below_size (by repeat ((with_reducible exact HB.out)))) : w.heap.size ≤ gb602)); clear HB; have HB := n0_; have BK602 := n1_; have GW602 := n2_; have GE602 := n3_; clear n0_ n1_ n2_ n3_; clear hb hbox hg) | ((with_reducible refine gate_dst (N := 2) rfl ?_); refine box_event ?hg (N := 2) ?hd (cs := #[.int .i64 0, .slice none 0 0, .slice none 0 0]) (t := 25) ?hr ?_; (case hd => rfl); (case hg => rfl); (case hr => (go_simp; done)); intro gb603 hg w5 hbox hb; have n0_ := Aside0.mk (blk_below (g := gb602) (o := .cells #[.int .i64 a0_0, .slice A0_1 l0_1.length c0_1, .slice A0_2 l0_2.length c0_2] 25 (0, 0)) (by (with_reducible repeat (first | refine blk_drewN ?_ _ | refine blk_drew ?_ | refine blk_alloc ?_ _ )); exact BK602.out) hb); have n1_ := Aside0.mk (below_step (by repeat ((with_reducible exact HB.out))) hb); have n2_ := Aside0.mk (hbox); have n3_ := Aside0.mk ((by rw [hg]; exact (below_size (by repeat ((with_reducible exact HB.out)))) : w.heap.size ≤ gb603)); have n4_ := Aside0.mk ((by rw [hg]; exact (below_size (by repeat ((with_reducible exact HB.out)))) : w.heap.size ≤ gb603)); have n5_ := Aside0.mk ((by rw [hg]; exact Nat.ne_of_lt (blk_lt (g := gb602) (o := .cells #[.int .i64 a0_0, .slice A0_1 l0_1.length c0_1, .slice A0_2 l0_2.length c0_2] 25 (0, 0)) (by (with_reducible repeat (first | refine blk_drewN ?_ _ | refine blk_drew ?_ | refine blk_alloc ?_ _ )); exact BK602.out)) : gb602 ≠ gb603)); have n6_ := Aside0.mk ((by rw [hg]; exact Nat.ne_of_gt (blk_lt (g := gb602) (o := .cells #[.int .i64 a0_0, .slice A0_1 l0_1.length c0_1, .slice A0_2 l0_2.length c0_2] 25 (0, 0)) (by (with_reducible repeat (first | refine blk_drewN ?_ _ | refine blk_drew ?_ | refine blk_alloc ?_ _ )); exact BK602.out)) : gb603 ≠ gb602)); clear BK602; clear HB; have BK602 := n0_; have HB := n1_; have BK603 := n2_; have GW603 := n3_; have GE603 := n4_; have NB602_603 := n5_; have NB603_602 := n6_; clear n0_ n1_ n2_ n3_ n4_ n5_ n6_; clear hb hbox hg; have hnb6 := NB602_603.out; have hnc6 := NB603_602.out; have hcz7_0 : w5.cell? ⟨gb602, 0, none⟩ = some (.int .i64 a0_0) := (blk_cell BK602.out 0).trans rfl; have hcz7_1 : w5.cell? ⟨gb602, 1, none⟩ = some (.slice A0_1 l0_1.length c0_1) := (blk_cell BK602.out 1).trans rfl; have hcz7_2 : w5.cell? ⟨gb602, 2, none⟩ = some (.slice A0_2 l0_2.length c0_2) := (blk_cell BK602.out 2).trans rfl; have hfz7_0 := blk_frozen BK602.out 0; have hfz7_1 := blk_frozen BK602.out 1; have hfz7_2 := blk_frozen BK602.out 2) | (go_at_call 52; (with_reducible refine (spec_l08Copy.calls a0_0 _ _ l0_1 _ _ l0_2 t604 t605 t608 _ ?side1 ?side2 ?side3 ?side4 A2.out).mono ?_); (case side1 => repeat (exact (Kd.C_below HR0_1.out HB.out))); (case side2 => exact HC0_1.out); (case side3 => repeat (exact (Kd.C_below HR0_2.out HB.out))); (case side4 => exact HC0_2.out); rintro e w8 ⟨v606, v609, rfl, ho0, ho1, hb⟩; have n0_ := Aside0.mk (Kd.R_lower ho0 (below_size (by repeat ((with_reducible exact HB.out))))); have n1_ := Aside0.mk (Kd.R_lower ho1 (below_size (by repeat ((with_reducible exact HB.out))))); have n2_ := Aside0.mk (blk_below (g := gb602) (o := .cells #[.int .i64 a0_0, .slice A0_1 l0_1.length c0_1, .slice A0_2 l0_2.length c0_2] 25 (0, 0)) (by (with_reducible repeat (first | refine blk_drewN ?_ _ | refine blk_drew ?_ | refine blk_alloc ?_ _ )); exact BK602.out) hb); have n3_ := Aside0.mk (blk_below (g := gb603) (o := .cells #[.int .i64 0, .slice none 0 0, .slice none 0 0] 25 (0, 0)) (by (with_reducible repeat (first | refine blk_drewN ?_ _ | refine blk_drew ?_ | refine blk_alloc ?_ _ )); exact BK603.out) hb); have n4_ := Aside0.mk (below_step (by repeat ((with_reducible exact HB.out))) hb); clear BK602; clear BK603; clear HB; have HO607 := n0_; have HO610 := n1_; have BK602 := n2_; have BK603 := n3_; have HB := n4_; clear n0_ n1_ n2_ n3_ n4_; (try clear hb); (try clear hb2); (try clear hk); (try clear hi); (try clear ho0); (try clear ho1)) | ((with_reducible refine gate_dst (N := 4) rfl ?_); refine box_event ?hg (N := 4) ?hd (cs := #[.int .i64 0, .slice none 0 0, .slice none 0 0]) (t := 25) ?hr ?_; (case hd => rfl); (case hg => rfl); (case hr => (go_simp; done)); intro gb611 hg w9 hbox hb; have n0_ := Aside0.mk (Kd.R_below (by (with_reducible repeat (first | apply Kd.R_alloc | apply Kd.R_drewN | apply Kd.R_drew )); exact HO607.out) hb); have n1_ := Aside0.mk (Kd.R_below (by (with_reducible repeat (first | apply Kd.R_alloc | apply Kd.R_drewN | apply Kd.R_drew )); exact HO610.out) hb); have n2_ := Aside0.mk (blk_below (g := gb602) (o := .cells #[.int .i64 a0_0, .slice A0_1 l0_1.length c0_1, .slice A0_2 l0_2.length c0_2] 25 (0, 0)) (by (with_reducible repeat (first | refine blk_drewN ?_ _ | refine blk_drew ?_ | refine blk_alloc ?_ _ )); exact BK602.out) hb); have n3_ := Aside0.mk (blk_below (g := gb603) (o := .cells #[.int .i64 0, .slice none 0 0, .slice none 0 0] 25 (0, 0)) (by (with_reducible repeat (first | refine blk_drewN ?_ _ | refine blk_drew ?_ | refine blk_alloc ?_ _ )); exact BK603.out) hb); have n4_ := Aside0.mk (below_step (by repeat ((with_reducible exact HB.out))) hb); have n5_ := Aside0.mk (hbox); have n6_ := Aside0.mk ((by rw [hg]; exact (below_size (by repeat ((with_reducible exact HB.out)))) : w.heap.size ≤ gb611)); have n7_ := Aside0.mk ((by rw [hg]; exact (below_size (by repeat ((with_reducible exact HB.out)))) : w.heap.size ≤ gb611)); have n8_ := Aside0.mk ((by rw [hg]; exact Nat.ne_of_lt (blk_lt (g := gb602) (o := .cells #[.int .i64 a0_0, .slice A0_1 l0_1.length c0_1, .slice A0_2 l0_2.length c0_2] 25 (0, 0)) (by (with_reducible repeat (first | refine blk_drewN ?_ _ | refine blk_drew ?_ | refine blk_alloc ?_ _ )); exact BK602.out)) : gb602 ≠ gb611)); have n9_ := Aside0.mk ((by rw [hg]; exact Nat.ne_of_gt (blk_lt (g := gb602) (o := .cells #[.int .i64 a0_0, .slice A0_1 l0_1.length c0_1, .slice A0_2 l0_2.length c0_2] 25 (0, 0)) (by (with_reducible repeat (first | refine blk_drewN ?_ _ | refine blk_drew ?_ | refine blk_alloc ?_ _ )); exact BK602.out)) : gb611 ≠ gb602)); have n10_ := Aside0.mk ((by rw [hg]; exact Nat.ne_of_lt (blk_lt (g := gb603) (o := .cells #[.int .i64 0, .slice none 0 0, .slice none 0 0] 25 (0, 0)) (by (with_reducible repeat (first | refine blk_drewN ?_ _ | refine blk_drew ?_ | refine blk_alloc ?_ _ )); exact BK603.out)) : gb603 ≠ gb611)); have n11_ := Aside0.mk ((by rw [hg]; exact Nat.ne_of_gt (blk_lt (g := gb603) (o := .cells #[.int .i64 0, .slice none 0 0, .slice none 0 0] 25 (0, 0)) (by (with_reducible repeat (first | refine blk_drewN ?_ _ | refine blk_drew ?_ | refine blk_alloc ?_ _ )); exact BK603.out)) : gb611 ≠ gb603)); clear HO607; clear HO610; clear BK602; clear BK603; clear HB; have HO607 := n0_; have HO610 := n1_; have BK602 := n2_; have BK603 := n3_; have HB := n4_; have BK611 := n5_; have GW611 := n6_; have GE611 := n7_; have NB602_611 := n8_; have NB611_602 := n9_; have NB603_611 := n10_; have NB611_603 := n11_; clear n0_ n1_ n2_ n3_ n4_ n5_ n6_ n7_ n8_ n9_ n10_ n11_; clear hb hbox hg; have hnb10 := NB611_602.out; have hnc10 := NB602_611.out; have hnb11 := NB611_603.out; have hnc11 := NB603_611.out; have hcz12_0 : w9.cell? ⟨gb611, 0, none⟩ = some (.int .i64 0) := (blk_cell BK611.out 0).trans rfl; have hcz12_1 : w9.cell? ⟨gb611, 1, none⟩ = some (.slice none 0 0) := (blk_cell BK611.out 1).trans rfl; have hcz12_2 : w9.cell? ⟨gb611, 2, none⟩ = some (.slice none 0 0) := (blk_cell BK611.out 2).trans rfl; have hfz12_0 := blk_frozen BK611.out 0; have hfz12_1 := blk_frozen BK611.out 1; have hfz12_2 := blk_frozen BK611.out 2; obtain ⟨Ao13, co13, eo13⟩ := Kd.R_slice HO607.out; subst eo13; obtain ⟨Ao14, co14, eo14⟩ := Kd.R_slice HO610.out; subst eo14))
  (try simp only [Act.put, List.setIfInBounds_toArray, List.set_cons_zero, List.set_cons_succ])
  go_cut [15] (fun v15 wc => ∃ (kq : Nat) (x15_2 : Bool), v15 = .bool x15_2 ∧ Aside0 (spec_AdvanceEpoch.j0 kq x15_2 a0_0 l0_1 l0_2 t604 t605 t608 = some (r1, r2, r3, r4)) ∧ Aside0 (kq ≤ k) ∧ Aside0 (Kd.R (Kd.int .i64) 3 wc w.heap.size (fun _ => True) (.slice Ao13 t605.length co13) t605) ∧ Aside0 (Kd.R k57 57 wc w.heap.size (fun _ => True) (.slice Ao14 t608.length co14) t608) ∧ Aside0 (wc.heap[gb602]? = some (.cells #[.int .i64 a0_0, (.slice A0_1 l0_1.length c0_1), (.slice A0_2 l0_2.length c0_2)] 25 (0, 0))) ∧ Aside0 (wc.heap[gb603]? = some (.cells #[.int .i64 0, (.slice none 0 0), (.slice none 0 0)] 25 (0, 0))) ∧ Aside0 (wc.heap[gb611]? = some (.cells #[.int .i64 t604, (.slice Ao13 t605.length co13), (.slice Ao14 t608.length co14)] 25 (0, 0))) ∧ Aside0 (Below w.heap.size w wc))
  case first =>
    have H := HC3.out
    clear HC3
    replace H := Option.bind_eq_some_iff.mp H
    obtain ⟨t612, A150, H⟩ := H
    replace H : (if t612 = true then (spec_AdvanceEpoch.j0 k (a0_0 == 1000000000) a0_0 l0_1 l0_2 t604 t605 t608) else (spec_AdvanceEpoch.j0 k true a0_0 l0_1 l0_2 t604 t605 t608)) = some (r1, r2, r3, r4) := H
    have A15 := Aside0.mk A150
    clear A150
    by_cases c16 : t612 = true
    · subst c16
      have H1 : (spec_AdvanceEpoch.j0 k (a0_0 == 1000000000) a0_0 l0_1 l0_2 t604 t605 t608) = some (r1, r2, r3, r4) := by rw [if_pos rfl] at H; exact H
      clear H
      have H := H1
      clear H1
      have H' := Aside0.mk H
      clear H
      have hnb17 := NB602_603.out
      have hnc17 := NB603_602.out
      have hnb18 := NB602_611.out
      have hnc18 := NB611_602.out
      have hcz19_0 : w9.cell? ⟨gb602, 0, none⟩ = some (.int .i64 a0_0) := (blk_cell BK602.out 0).trans rfl
      have hcz19_1 : w9.cell? ⟨gb602, 1, none⟩ = some (.slice A0_1 l0_1.length c0_1) := (blk_cell BK602.out 1).trans rfl
      have hcz19_2 : w9.cell? ⟨gb602, 2, none⟩ = some (.slice A0_2 l0_2.length c0_2) := (blk_cell BK602.out 2).trans rfl
      have hfz19_0 := blk_frozen BK602.out 0
      have hfz19_1 := blk_frozen BK602.out 1
      have hfz19_2 := blk_frozen BK602.out 2
      go_wp2_with ((go_at_call 19; (with_reducible refine (spec_EpochsOk.calls k a0_0 _ _ l0_1 _ _ l0_2 true _ ?side1 ?side2 ?side3 ?side4 A15.out).mono ?_); (case side1 => exact Kd.C_below HR0_1.out (by repeat ((with_reducible first | exact HB.out | refine below_set ?_ GE611.out)))); (case side2 => exact HC0_1.out); (case side3 => exact Kd.C_below HR0_2.out (by repeat ((with_reducible first | exact HB.out | refine below_set ?_ GE611.out)))); (case side4 => exact HC0_2.out); rintro e w20 ⟨rfl, hb⟩; have n0_ := Aside0.mk (Kd.R_below (by (with_reducible repeat (first | apply Kd.R_alloc | apply Kd.R_drewN | apply Kd.R_drew )); exact (Kd.R_mono (Kd.R_far (p := ⟨gb611, 2, none⟩) (Kd.R_far (p := ⟨gb611, 1, none⟩) (Kd.R_far (p := ⟨gb611, 0, none⟩) (Kd.R_types HO607.out BK611.out (by decide)) (fun _ hk => hk.2) (.int .i64 t604)) (fun _ hk => hk.2) (.slice Ao13 t605.length co13)) (fun _ hk => hk.2) (.slice Ao14 t608.length co14)) (fun _ h_ => by exact h_.1))) hb); have n1_ := Aside0.mk (Kd.R_below (by (with_reducible repeat (first | apply Kd.R_alloc | apply Kd.R_drewN | apply Kd.R_drew )); exact (Kd.R_mono (Kd.R_far (p := ⟨gb611, 2, none⟩) (Kd.R_far (p := ⟨gb611, 1, none⟩) (Kd.R_far (p := ⟨gb611, 0, none⟩) (Kd.R_types HO610.out BK611.out (by decide)) (fun _ hk => hk.2) (.int .i64 t604)) (fun _ hk => hk.2) (.slice Ao13 t605.length co13)) (fun _ hk => hk.2) (.slice Ao14 t608.length co14)) (fun _ h_ => by exact h_.1))) hb); have n2_ := Aside0.mk (blk_below (g := gb602) (o := .cells #[.int .i64 a0_0, .slice A0_1 l0_1.length c0_1, .slice A0_2 l0_2.length c0_2] 25 (0, 0)) (by (with_reducible repeat (first | refine blk_drewN ?_ _ | refine blk_drew ?_ | refine blk_alloc ?_ _ )); refine blk_far ?_ NB602_611.out _; (with_reducible repeat (first | refine blk_drewN ?_ _ | refine blk_drew ?_ | refine blk_alloc ?_ _ )); refine blk_far ?_ NB602_611.out _; (with_reducible repeat (first | refine blk_drewN ?_ _ | refine blk_drew ?_ | refine blk_alloc ?_ _ )); refine blk_far ?_ NB602_611.out _; (with_reducible repeat (first | refine blk_drewN ?_ _ | refine blk_drew ?_ | refine blk_alloc ?_ _ )); exact BK602.out) hb); have n3_ := Aside0.mk (blk_below (g := gb603) (o := .cells #[.int .i64 0, .slice none 0 0, .slice none 0 0] 25 (0, 0)) (by (with_reducible repeat (first | refine blk_drewN ?_ _ | refine blk_drew ?_ | refine blk_alloc ?_ _ )); refine blk_far ?_ NB603_611.out _; (with_reducible repeat (first | refine blk_drewN ?_ _ | refine blk_drew ?_ | refine blk_alloc ?_ _ )); refine blk_far ?_ NB603_611.out _; (with_reducible repeat (first | refine blk_drewN ?_ _ | refine blk_drew ?_ | refine blk_alloc ?_ _ )); refine blk_far ?_ NB603_611.out _; (with_reducible repeat (first | refine blk_drewN ?_ _ | refine blk_drew ?_ | refine blk_alloc ?_ _ )); exact BK603.out) hb); have n4_ := Aside0.mk (blk_below (g := gb611) (o := .cells #[.int .i64 t604, .slice Ao13 t605.length co13, .slice Ao14 t608.length co14] 25 (0, 0)) (by (with_reducible repeat (first | refine blk_drewN ?_ _ | refine blk_drew ?_ | refine blk_alloc ?_ _ )); refine blk_put (cs := #[.int .i64 t604, .slice Ao13 t605.length co13, .slice none 0 0]) ?_ 2 _ rfl; (with_reducible repeat (first | refine blk_drewN ?_ _ | refine blk_drew ?_ | refine blk_alloc ?_ _ )); refine blk_put (cs := #[.int .i64 t604, .slice none 0 0, .slice none 0 0]) ?_ 1 _ rfl; (with_reducible repeat (first | refine blk_drewN ?_ _ | refine blk_drew ?_ | refine blk_alloc ?_ _ )); refine blk_put (cs := #[.int .i64 0, .slice none 0 0, .slice none 0 0]) ?_ 0 _ rfl; (with_reducible repeat (first | refine blk_drewN ?_ _ | refine blk_drew ?_ | refine blk_alloc ?_ _ )); exact BK611.out) hb); have n5_ := Aside0.mk (below_step (by repeat ((with_reducible first | exact HB.out | refine below_set ?_ GE611.out))) hb); clear HO607; clear HO610; clear BK602; clear BK603; clear BK611; clear HB; have HO607 := n0_; have HO610 := n1_; have BK602 := n2_; have BK603 := n3_; have BK611 := n4_; have HB := n5_; clear n0_ n1_ n2_ n3_ n4_ n5_; (try clear hb); (try clear hb2); (try clear hk); (try clear hi); have hcz21_0 : w20.cell? ⟨gb602, 0, none⟩ = some (.int .i64 a0_0) := (blk_cell BK602.out 0).trans rfl; have hcz21_1 : w20.cell? ⟨gb602, 1, none⟩ = some (.slice A0_1 l0_1.length c0_1) := (blk_cell BK602.out 1).trans rfl; have hcz21_2 : w20.cell? ⟨gb602, 2, none⟩ = some (.slice A0_2 l0_2.length c0_2) := (blk_cell BK602.out 2).trans rfl; have hfz21_0 := blk_frozen BK602.out 0; have hfz21_1 := blk_frozen BK602.out 1; have hfz21_2 := blk_frozen BK602.out 2))
      go_meet
      case rel => exact ⟨_, ((a0_0 == 1000000000)), (by rfl), H', ⟨by omega⟩, ⟨by (with_reducible repeat (first | apply Kd.R_alloc | apply Kd.R_drewN | apply Kd.R_drew )); exact HO607.out⟩, ⟨by (with_reducible repeat (first | apply Kd.R_alloc | apply Kd.R_drewN | apply Kd.R_drew )); exact HO610.out⟩, ⟨by (with_reducible repeat (first | refine blk_drewN ?_ _ | refine blk_drew ?_ | refine blk_alloc ?_ _ )); exact BK602.out⟩, ⟨by (with_reducible repeat (first | refine blk_drewN ?_ _ | refine blk_drew ?_ | refine blk_alloc ?_ _ )); exact BK603.out⟩, ⟨by (with_reducible repeat (first | refine blk_drewN ?_ _ | refine blk_drew ?_ | refine blk_alloc ?_ _ )); exact BK611.out⟩, ⟨by repeat ((with_reducible exact HB.out))⟩⟩
    · replace c16 := Bool.eq_false_iff.mpr c16
      subst c16
      have H1 : (spec_AdvanceEpoch.j0 k true a0_0 l0_1 l0_2 t604 t605 t608) = some (r1, r2, r3, r4) := by rw [if_neg (show ¬ (false = true) by decide)] at H; exact H
      clear H
      have H := H1
      clear H1
      have H' := Aside0.mk H
      clear H
      have hnb22 := NB602_603.out
      have hnc22 := NB603_602.out
      have hnb23 := NB602_611.out
      have hnc23 := NB611_602.out
      have hcz24_0 : w9.cell? ⟨gb602, 0, none⟩ = some (.int .i64 a0_0) := (blk_cell BK602.out 0).trans rfl
      have hcz24_1 : w9.cell? ⟨gb602, 1, none⟩ = some (.slice A0_1 l0_1.length c0_1) := (blk_cell BK602.out 1).trans rfl
      have hcz24_2 : w9.cell? ⟨gb602, 2, none⟩ = some (.slice A0_2 l0_2.length c0_2) := (blk_cell BK602.out 2).trans rfl
      have hfz24_0 := blk_frozen BK602.out 0
      have hfz24_1 := blk_frozen BK602.out 1
      have hfz24_2 := blk_frozen BK602.out 2
      go_wp2_with ((go_at_call 19; (with_reducible refine (spec_EpochsOk.calls k a0_0 _ _ l0_1 _ _ l0_2 false _ ?side1 ?side2 ?side3 ?side4 A15.out).mono ?_); (case side1 => exact Kd.C_below HR0_1.out (by repeat ((with_reducible first | exact HB.out | refine below_set ?_ GE611.out)))); (case side2 => exact HC0_1.out); (case side3 => exact Kd.C_below HR0_2.out (by repeat ((with_reducible first | exact HB.out | refine below_set ?_ GE611.out)))); (case side4 => exact HC0_2.out); rintro e w25 ⟨rfl, hb⟩; have n0_ := Aside0.mk (Kd.R_below (by (with_reducible repeat (first | apply Kd.R_alloc | apply Kd.R_drewN | apply Kd.R_drew )); exact (Kd.R_mono (Kd.R_far (p := ⟨gb611, 2, none⟩) (Kd.R_far (p := ⟨gb611, 1, none⟩) (Kd.R_far (p := ⟨gb611, 0, none⟩) (Kd.R_types HO607.out BK611.out (by decide)) (fun _ hk => hk.2) (.int .i64 t604)) (fun _ hk => hk.2) (.slice Ao13 t605.length co13)) (fun _ hk => hk.2) (.slice Ao14 t608.length co14)) (fun _ h_ => by exact h_.1))) hb); have n1_ := Aside0.mk (Kd.R_below (by (with_reducible repeat (first | apply Kd.R_alloc | apply Kd.R_drewN | apply Kd.R_drew )); exact (Kd.R_mono (Kd.R_far (p := ⟨gb611, 2, none⟩) (Kd.R_far (p := ⟨gb611, 1, none⟩) (Kd.R_far (p := ⟨gb611, 0, none⟩) (Kd.R_types HO610.out BK611.out (by decide)) (fun _ hk => hk.2) (.int .i64 t604)) (fun _ hk => hk.2) (.slice Ao13 t605.length co13)) (fun _ hk => hk.2) (.slice Ao14 t608.length co14)) (fun _ h_ => by exact h_.1))) hb); have n2_ := Aside0.mk (blk_below (g := gb602) (o := .cells #[.int .i64 a0_0, .slice A0_1 l0_1.length c0_1, .slice A0_2 l0_2.length c0_2] 25 (0, 0)) (by (with_reducible repeat (first | refine blk_drewN ?_ _ | refine blk_drew ?_ | refine blk_alloc ?_ _ )); refine blk_far ?_ NB602_611.out _; (with_reducible repeat (first | refine blk_drewN ?_ _ | refine blk_drew ?_ | refine blk_alloc ?_ _ )); refine blk_far ?_ NB602_611.out _; (with_reducible repeat (first | refine blk_drewN ?_ _ | refine blk_drew ?_ | refine blk_alloc ?_ _ )); refine blk_far ?_ NB602_611.out _; (with_reducible repeat (first | refine blk_drewN ?_ _ | refine blk_drew ?_ | refine blk_alloc ?_ _ )); exact BK602.out) hb); have n3_ := Aside0.mk (blk_below (g := gb603) (o := .cells #[.int .i64 0, .slice none 0 0, .slice none 0 0] 25 (0, 0)) (by (with_reducible repeat (first | refine blk_drewN ?_ _ | refine blk_drew ?_ | refine blk_alloc ?_ _ )); refine blk_far ?_ NB603_611.out _; (with_reducible repeat (first | refine blk_drewN ?_ _ | refine blk_drew ?_ | refine blk_alloc ?_ _ )); refine blk_far ?_ NB603_611.out _; (with_reducible repeat (first | refine blk_drewN ?_ _ | refine blk_drew ?_ | refine blk_alloc ?_ _ )); refine blk_far ?_ NB603_611.out _; (with_reducible repeat (first | refine blk_drewN ?_ _ | refine blk_drew ?_ | refine blk_alloc ?_ _ )); exact BK603.out) hb); have n4_ := Aside0.mk (blk_below (g := gb611) (o := .cells #[.int .i64 t604, .slice Ao13 t605.length co13, .slice Ao14 t608.length co14] 25 (0, 0)) (by (with_reducible repeat (first | refine blk_drewN ?_ _ | refine blk_drew ?_ | refine blk_alloc ?_ _ )); refine blk_put (cs := #[.int .i64 t604, .slice Ao13 t605.length co13, .slice none 0 0]) ?_ 2 _ rfl; (with_reducible repeat (first | refine blk_drewN ?_ _ | refine blk_drew ?_ | refine blk_alloc ?_ _ )); refine blk_put (cs := #[.int .i64 t604, .slice none 0 0, .slice none 0 0]) ?_ 1 _ rfl; (with_reducible repeat (first | refine blk_drewN ?_ _ | refine blk_drew ?_ | refine blk_alloc ?_ _ )); refine blk_put (cs := #[.int .i64 0, .slice none 0 0, .slice none 0 0]) ?_ 0 _ rfl; (with_reducible repeat (first | refine blk_drewN ?_ _ | refine blk_drew ?_ | refine blk_alloc ?_ _ )); exact BK611.out) hb); have n5_ := Aside0.mk (below_step (by repeat ((with_reducible first | exact HB.out | refine below_set ?_ GE611.out))) hb); clear HO607; clear HO610; clear BK602; clear BK603; clear BK611; clear HB; have HO607 := n0_; have HO610 := n1_; have BK602 := n2_; have BK603 := n3_; have BK611 := n4_; have HB := n5_; clear n0_ n1_ n2_ n3_ n4_ n5_; (try clear hb); (try clear hb2); (try clear hk); (try clear hi)))
      go_meet
      case rel => exact ⟨_, (true), (by rfl), H', ⟨by omega⟩, ⟨by (with_reducible repeat (first | apply Kd.R_alloc | apply Kd.R_drewN | apply Kd.R_drew )); exact HO607.out⟩, ⟨by (with_reducible repeat (first | apply Kd.R_alloc | apply Kd.R_drewN | apply Kd.R_drew )); exact HO610.out⟩, ⟨by (with_reducible repeat (first | refine blk_drewN ?_ _ | refine blk_drew ?_ | refine blk_alloc ?_ _ )); exact BK602.out⟩, ⟨by (with_reducible repeat (first | refine blk_drewN ?_ _ | refine blk_drew ?_ | refine blk_alloc ?_ _ )); exact BK603.out⟩, ⟨by (with_reducible repeat (first | refine blk_drewN ?_ _ | refine blk_drew ?_ | refine blk_alloc ?_ _ )); exact BK611.out⟩, ⟨by repeat ((with_reducible exact HB.out))⟩⟩
  case rest =>
    clear HC3
    clear hcz12_0
    clear hcz12_1
    clear hcz12_2
    clear hcz7_0
    clear hcz7_1
    clear hcz7_2
    clear hfz12_0
    clear hfz12_1
    clear hfz12_2
    clear hfz7_0
    clear hfz7_1
    clear hfz7_2
    obtain ⟨kq, x15_2, rfl, HA, HJ2, HO_612001, HO_612002, BK602, BK603, BK611, HB⟩ := hcut
    cases kq with
    | zero => exact absurd HA.out (by simp [spec_AdvanceEpoch.j0])
    | succ kj2 =>
      have H := HA.out
      clear HA
      simp only [spec_AdvanceEpoch.j0] at H
      by_cases c26 : x15_2 = true
      · subst c26
        have H1 : (some (t604, t605, t608, false)) = some (r1, r2, r3, r4) := by rw [if_pos rfl] at H; exact H
        clear H
        have H := H1
        clear H1
        simp only [Option.some.injEq, Prod.mk.injEq] at H
        obtain ⟨rfl, rfl, rfl, rfl⟩ := H
        have hnb27 := NB611_602.out
        have hnc27 := NB602_611.out
        have hnb28 := NB611_603.out
        have hnc28 := NB603_611.out
        have hcz29_0 : wc.cell? ⟨gb611, 0, none⟩ = some (.int .i64 t604) := (blk_cell BK611.out 0).trans rfl
        have hcz29_1 : wc.cell? ⟨gb611, 1, none⟩ = some (.slice Ao13 t605.length co13) := (blk_cell BK611.out 1).trans rfl
        have hcz29_2 : wc.cell? ⟨gb611, 2, none⟩ = some (.slice Ao14 t608.length co14) := (blk_cell BK611.out 2).trans rfl
        have hfz29_0 := blk_frozen BK611.out 0
        have hfz29_1 := blk_frozen BK611.out 1
        have hfz29_2 := blk_frozen BK611.out 2
        have hnb30 := NB603_602.out
        have hnc30 := NB602_603.out
        have hcz31_0 : wc.cell? ⟨gb603, 0, none⟩ = some (.int .i64 0) := (blk_cell BK603.out 0).trans rfl
        have hcz31_1 : wc.cell? ⟨gb603, 1, none⟩ = some (.slice none 0 0) := (blk_cell BK603.out 1).trans rfl
        have hcz31_2 : wc.cell? ⟨gb603, 2, none⟩ = some (.slice none 0 0) := (blk_cell BK603.out 2).trans rfl
        have hfz31_0 := blk_frozen BK603.out 0
        have hfz31_1 := blk_frozen BK603.out 1
        have hfz31_2 := blk_frozen BK603.out 2
        go_wp2
        refine bodyPost_ret (results_ct rfl _ _ gb603 25 #[.int .i64 t604, .slice Ao13 t605.length co13, .slice Ao14 t608.length co14] (0, 0) _ rfl (by (with_reducible repeat (first | refine blk_drewN ?_ _ | refine blk_drew ?_ | refine blk_alloc ?_ _ )); refine blk_put (cs := #[.int .i64 t604, .slice Ao13 t605.length co13, .slice none 0 0]) ?_ 2 _ rfl; (with_reducible repeat (first | refine blk_drewN ?_ _ | refine blk_drew ?_ | refine blk_alloc ?_ _ )); refine blk_put (cs := #[.int .i64 t604, .slice none 0 0, .slice none 0 0]) ?_ 1 _ rfl; (with_reducible repeat (first | refine blk_drewN ?_ _ | refine blk_drew ?_ | refine blk_alloc ?_ _ )); refine blk_put (cs := #[.int .i64 0, .slice none 0 0, .slice none 0 0]) ?_ 0 _ rfl; (with_reducible repeat (first | refine blk_drewN ?_ _ | refine blk_drew ?_ | refine blk_alloc ?_ _ )); exact BK603.out) Try.underlying25 rfl (by kernel_rfl)) rfl ?_
        exact ⟨_, _, by rfl, by (with_reducible repeat (first | apply Kd.R_alloc | apply Kd.R_drewN | apply Kd.R_drew )); exact Kd.R_mono (Kd.R_far (p := ⟨gb603, 2, none⟩) (Kd.R_far (p := ⟨gb603, 1, none⟩) (Kd.R_far (p := ⟨gb603, 0, none⟩) (Kd.R_types HO_612001.out BK603.out (by decide)) (fun _ hk => hk.2) (.int .i64 t604)) (fun _ hk => hk.2) (.slice Ao13 t605.length co13)) (fun _ hk => hk.2) (.slice Ao14 t608.length co14)) (fun _ hk => trivial), by (with_reducible repeat (first | apply Kd.R_alloc | apply Kd.R_drewN | apply Kd.R_drew )); exact Kd.R_mono (Kd.R_far (p := ⟨gb603, 2, none⟩) (Kd.R_far (p := ⟨gb603, 1, none⟩) (Kd.R_far (p := ⟨gb603, 0, none⟩) (Kd.R_types HO_612002.out BK603.out (by decide)) (fun _ hk => hk.2) (.int .i64 t604)) (fun _ hk => hk.2) (.slice Ao13 t605.length co13)) (fun _ hk => hk.2) (.slice Ao14 t608.length co14)) (fun _ hk => trivial), by repeat ((with_reducible first | exact HB.out | refine below_set ?_ GE603.out))⟩
      · replace c26 := Bool.eq_false_iff.mpr c26
        subst c26
        have H1 : (spec_AdvanceEpoch.l0 kj2 0 a0_0 l0_1 l0_2 t604 t605 t608) = some (r1, r2, r3, r4) := by rw [if_neg (show ¬ (false = true) by decide)] at H; exact H
        clear H
        have H := H1
        clear H1
        have H' := Aside0.mk H
        clear H
        go_wp2
        go_loopg [5] kj2 (fun kq v5 w' => ∃ (x5_2 : Int) (x604000_2 : Int), v5 = .int .i64 x5_2 ∧ Aside0 (spec_AdvanceEpoch.l0 kq x5_2 a0_0 l0_1 l0_2 t604 t605 t608 = some (r1, r2, r3, r4)) ∧ Aside0 (kq ≤ kj2) ∧ Aside0 (Kd.R (Kd.int .i64) 3 w' w.heap.size (fun _ => True) (.slice Ao13 t605.length co13) t605) ∧ Aside0 (Kd.R k57 57 w' w.heap.size (fun _ => True) (.slice Ao14 t608.length co14) t608) ∧ Aside0 (w'.heap[gb602]? = some (.cells #[.int .i64 a0_0, (.slice A0_1 l0_1.length c0_1), (.slice A0_2 l0_2.length c0_2)] 25 (0, 0))) ∧ Aside0 (w'.heap[gb603]? = some (.cells #[.int .i64 x604000_2, (.slice none 0 0), (.slice none 0 0)] 25 (0, 0))) ∧ Aside0 (w'.heap[gb611]? = some (.cells #[.int .i64 t604, (.slice Ao13 t605.length co13), (.slice Ao14 t608.length co14)] 25 (0, 0))) ∧ Aside0 (Below w.heap.size w w'))
        case atStart => exact ⟨(0), (0), (by rfl), H', ⟨Nat.le_refl _⟩, ⟨by (with_reducible repeat (first | apply Kd.R_alloc | apply Kd.R_drewN | apply Kd.R_drew )); exact HO_612001.out⟩, ⟨by (with_reducible repeat (first | apply Kd.R_alloc | apply Kd.R_drewN | apply Kd.R_drew )); exact HO_612002.out⟩, ⟨by (with_reducible repeat (first | refine blk_drewN ?_ _ | refine blk_drew ?_ | refine blk_alloc ?_ _ )); exact BK602.out⟩, ⟨by (with_reducible repeat (first | refine blk_drewN ?_ _ | refine blk_drew ?_ | refine blk_alloc ?_ _ )); exact BK603.out⟩, ⟨by (with_reducible repeat (first | refine blk_drewN ?_ _ | refine blk_drew ?_ | refine blk_alloc ?_ _ )); exact BK611.out⟩, ⟨by repeat ((with_reducible exact HB.out))⟩⟩
        case round =>
          clear H'
          obtain ⟨x5_2, x604000_2, rfl, HA, HK2, HO_612001, HO_612002, BK602, BK603, BK611, HB⟩ := hrel
          cases gk with
          | zero => exact absurd HA.out (by simp [spec_AdvanceEpoch.l0])
          | succ k2 =>
            have H := HA.out
            clear HA
            simp only [spec_AdvanceEpoch.l0] at H
            by_cases c32 : x5_2 < (l0_1.length : Int)
            · rw [if_pos c32] at H
              have c32b0 : decide (x5_2 < (l0_1.length : Int)) = true := decide_eq_true c32
              clear c32
              by_cases c33 : 0 ≤ x5_2
              · rw [if_pos c33] at H
                have c33b0 : decide (0 ≤ x5_2) = true := decide_eq_true c33
                clear c33
                by_cases c34 : (rd l0_1 x5_2) = a0_0
                · rw [if_pos c34] at H
                  have c34b0 : ((rd l0_1 x5_2) == a0_0) = true := beq_iff_eq.mpr c34
                  have c34b1 : ((rd l0_1 x5_2) != a0_0) = false := bne_eq_false_iff_eq.mpr c34
                  clear c34
                  simp only [Option.some.injEq, Prod.mk.injEq] at H
                  obtain ⟨rfl, rfl, rfl, rfl⟩ := H
                  have hnb35 := NB602_603.out
                  have hnc35 := NB603_602.out
                  have hnb36 := NB602_611.out
                  have hnc36 := NB611_602.out
                  have hcz37_0 : wr.cell? ⟨gb602, 0, none⟩ = some (.int .i64 a0_0) := (blk_cell BK602.out 0).trans rfl
                  have hcz37_1 : wr.cell? ⟨gb602, 1, none⟩ = some (.slice A0_1 l0_1.length c0_1) := (blk_cell BK602.out 1).trans rfl
                  have hcz37_2 : wr.cell? ⟨gb602, 2, none⟩ = some (.slice A0_2 l0_2.length c0_2) := (blk_cell BK602.out 2).trans rfl
                  have hfz37_0 := blk_frozen BK602.out 0
                  have hfz37_1 := blk_frozen BK602.out 1
                  have hfz37_2 := blk_frozen BK602.out 2
                  have p613 : 0 ≤ (x5_2 : Int) := of_decide_eq_true (by (with_reducible assumption))
                  have q613 : x5_2 < (l0_1.length : Int) := of_decide_eq_true (by (with_reducible assumption))
                  obtain ⟨ad613, e613, hx613_0⟩ := Kd.at_int HR0_1.out x5_2 p613 q613
                  cases e613
                  replace hx613_0 := (HB.out.cell (World.block_lt_of_cell? w _ hx613_0)).trans hx613_0
                  replace p613 := eq_true p613
                  replace q613 := eq_true q613
                  have hnb38 := NB611_603.out
                  have hnc38 := NB603_611.out
                  have hcz39_0 : wr.cell? ⟨gb611, 0, none⟩ = some (.int .i64 t604) := (blk_cell BK611.out 0).trans rfl
                  have hcz39_1 : wr.cell? ⟨gb611, 1, none⟩ = some (.slice Ao13 t605.length co13) := (blk_cell BK611.out 1).trans rfl
                  have hcz39_2 : wr.cell? ⟨gb611, 2, none⟩ = some (.slice Ao14 t608.length co14) := (blk_cell BK611.out 2).trans rfl
                  have hfz39_0 := blk_frozen BK611.out 0
                  have hfz39_1 := blk_frozen BK611.out 1
                  have hfz39_2 := blk_frozen BK611.out 2
                  have hcz40_0 : wr.cell? ⟨gb603, 0, none⟩ = some (.int .i64 x604000_2) := (blk_cell BK603.out 0).trans rfl
                  have hcz40_1 : wr.cell? ⟨gb603, 1, none⟩ = some (.slice none 0 0) := (blk_cell BK603.out 1).trans rfl
                  have hcz40_2 : wr.cell? ⟨gb603, 2, none⟩ = some (.slice none 0 0) := (blk_cell BK603.out 2).trans rfl
                  have hfz40_0 := blk_frozen BK603.out 0
                  have hfz40_1 := blk_frozen BK603.out 1
                  have hfz40_2 := blk_frozen BK603.out 2
                  go_wp2
                  repeat (go_quiet (fail); try go_wp2)
                  refine bodyPost_ret (results_ct rfl _ _ gb603 25 #[.int .i64 t604, .slice Ao13 t605.length co13, .slice Ao14 t608.length co14] (0, 0) _ rfl (by (with_reducible repeat (first | refine blk_drewN ?_ _ | refine blk_drew ?_ | refine blk_alloc ?_ _ )); refine blk_put (cs := #[.int .i64 t604, .slice Ao13 t605.length co13, .slice none 0 0]) ?_ 2 _ rfl; (with_reducible repeat (first | refine blk_drewN ?_ _ | refine blk_drew ?_ | refine blk_alloc ?_ _ )); refine blk_put (cs := #[.int .i64 t604, .slice none 0 0, .slice none 0 0]) ?_ 1 _ rfl; (with_reducible repeat (first | refine blk_drewN ?_ _ | refine blk_drew ?_ | refine blk_alloc ?_ _ )); refine blk_put (cs := #[.int .i64 x604000_2, .slice none 0 0, .slice none 0 0]) ?_ 0 _ rfl; (with_reducible repeat (refine blk_drewN ?_ _)); exact BK603.out) Try.underlying25 rfl (by kernel_rfl)) rfl ?_
                  exact ⟨_, _, by rfl, by (with_reducible repeat (first | apply Kd.R_alloc | apply Kd.R_drewN | apply Kd.R_drew )); exact Kd.R_mono (Kd.R_far (p := ⟨gb603, 2, none⟩) (Kd.R_far (p := ⟨gb603, 1, none⟩) (Kd.R_far (p := ⟨gb603, 0, none⟩) (Kd.R_types HO_612001.out BK603.out (by decide)) (fun _ hk => hk.2) (.int .i64 t604)) (fun _ hk => hk.2) (.slice Ao13 t605.length co13)) (fun _ hk => hk.2) (.slice Ao14 t608.length co14)) (fun _ hk => trivial), by (with_reducible repeat (first | apply Kd.R_alloc | apply Kd.R_drewN | apply Kd.R_drew )); exact Kd.R_mono (Kd.R_far (p := ⟨gb603, 2, none⟩) (Kd.R_far (p := ⟨gb603, 1, none⟩) (Kd.R_far (p := ⟨gb603, 0, none⟩) (Kd.R_types HO_612002.out BK603.out (by decide)) (fun _ hk => hk.2) (.int .i64 t604)) (fun _ hk => hk.2) (.slice Ao13 t605.length co13)) (fun _ hk => hk.2) (.slice Ao14 t608.length co14)) (fun _ hk => trivial), by repeat ((with_reducible first | exact HB.out | apply pw_below_drewN | refine below_set ?_ GE603.out))⟩
                · rw [if_neg c34] at H
                  have c34b0 : ((rd l0_1 x5_2) == a0_0) = false := beq_eq_false_iff_ne.mpr c34
                  have c34b1 : ((rd l0_1 x5_2) != a0_0) = true := bne_iff_ne.mpr c34
                  have H' := Aside0.mk H
                  clear H
                  have hnb41 := NB602_603.out
                  have hnc41 := NB603_602.out
                  have hnb42 := NB602_611.out
                  have hnc42 := NB611_602.out
                  have hcz43_0 : wr.cell? ⟨gb602, 0, none⟩ = some (.int .i64 a0_0) := (blk_cell BK602.out 0).trans rfl
                  have hcz43_1 : wr.cell? ⟨gb602, 1, none⟩ = some (.slice A0_1 l0_1.length c0_1) := (blk_cell BK602.out 1).trans rfl
                  have hcz43_2 : wr.cell? ⟨gb602, 2, none⟩ = some (.slice A0_2 l0_2.length c0_2) := (blk_cell BK602.out 2).trans rfl
                  have hfz43_0 := blk_frozen BK602.out 0
                  have hfz43_1 := blk_frozen BK602.out 1
                  have hfz43_2 := blk_frozen BK602.out 2
                  have p613 : 0 ≤ (x5_2 : Int) := of_decide_eq_true (by (with_reducible assumption))
                  have q613 : x5_2 < (l0_1.length : Int) := of_decide_eq_true (by (with_reducible assumption))
                  obtain ⟨ad613, e613, hx613_0⟩ := Kd.at_int HR0_1.out x5_2 p613 q613
                  cases e613
                  replace hx613_0 := (HB.out.cell (World.block_lt_of_cell? w _ hx613_0)).trans hx613_0
                  replace p613 := eq_true p613
                  replace q613 := eq_true q613
                  go_wp2
                  repeat (go_quiet (fail); try go_wp2)
                  go_roundg k2
                  case measure => have := HJ2.out; have := HK2.out; omega
                  case rel => exact ⟨(wrap64 (x5_2 + 1)), (x604000_2), (by rfl), H', ⟨by have := HJ2.out; have := HK2.out; omega⟩, ⟨by (with_reducible repeat (apply Kd.R_drewN)); exact HO_612001.out⟩, ⟨by (with_reducible repeat (apply Kd.R_drewN)); exact HO_612002.out⟩, ⟨by (with_reducible repeat (refine blk_drewN ?_ _)); exact BK602.out⟩, ⟨by (with_reducible repeat (refine blk_drewN ?_ _)); exact BK603.out⟩, ⟨by (with_reducible repeat (refine blk_drewN ?_ _)); exact BK611.out⟩, ⟨by repeat ((with_reducible first | exact HB.out | apply pw_below_drewN))⟩⟩
              · rw [if_neg c33] at H
                exact absurd H (by simp)
            · rw [if_neg c32] at H
              have c32b0 : decide (x5_2 < (l0_1.length : Int)) = false := decide_eq_false c32
              clear c32
              simp only [Option.some.injEq, Prod.mk.injEq] at H
              obtain ⟨rfl, rfl, rfl, rfl⟩ := H
              have hnb44 := NB602_603.out
              have hnc44 := NB603_602.out
              have hnb45 := NB602_611.out
              have hnc45 := NB611_602.out
              have hcz46_0 : wr.cell? ⟨gb602, 0, none⟩ = some (.int .i64 a0_0) := (blk_cell BK602.out 0).trans rfl
              have hcz46_1 : wr.cell? ⟨gb602, 1, none⟩ = some (.slice A0_1 l0_1.length c0_1) := (blk_cell BK602.out 1).trans rfl
              have hcz46_2 : wr.cell? ⟨gb602, 2, none⟩ = some (.slice A0_2 l0_2.length c0_2) := (blk_cell BK602.out 2).trans rfl
              have hfz46_0 := blk_frozen BK602.out 0
              have hfz46_1 := blk_frozen BK602.out 1
              have hfz46_2 := blk_frozen BK602.out 2
              have hnb47 := NB611_603.out
              have hnc47 := NB603_611.out
              have hcz48_0 : wr.cell? ⟨gb611, 0, none⟩ = some (.int .i64 t604) := (blk_cell BK611.out 0).trans rfl
              have hcz48_1 : wr.cell? ⟨gb611, 1, none⟩ = some (.slice Ao13 t605.length co13) := (blk_cell BK611.out 1).trans rfl
              have hcz48_2 : wr.cell? ⟨gb611, 2, none⟩ = some (.slice Ao14 t608.length co14) := (blk_cell BK611.out 2).trans rfl
              have hfz48_0 := blk_frozen BK611.out 0
              have hfz48_1 := blk_frozen BK611.out 1
              have hfz48_2 := blk_frozen BK611.out 2
              have hcz49_0 : wr.cell? ⟨gb603, 0, none⟩ = some (.int .i64 x604000_2) := (blk_cell BK603.out 0).trans rfl
              have hcz49_1 : wr.cell? ⟨gb603, 1, none⟩ = some (.slice none 0 0) := (blk_cell BK603.out 1).trans rfl
              have hcz49_2 : wr.cell? ⟨gb603, 2, none⟩ = some (.slice none 0 0) := (blk_cell BK603.out 2).trans rfl
              have hfz49_0 := blk_frozen BK603.out 0
              have hfz49_1 := blk_frozen BK603.out 1
              have hfz49_2 := blk_frozen BK603.out 2
              go_wp2
              refine bodyPost_ret (results_ct rfl _ _ gb603 25 #[.int .i64 (wrap64 (a0_0 + 1)), .slice Ao13 t605.length co13, .slice Ao14 t608.length co14] (0, 0) _ rfl (by (with_reducible repeat (first | refine blk_drewN ?_ _ | refine blk_drew ?_ | refine blk_alloc ?_ _ )); refine blk_put (cs := #[.int .i64 (wrap64 (a0_0 + 1)), .slice Ao13 t605.length co13, .slice none 0 0]) ?_ 2 _ rfl; (with_reducible repeat (first | refine blk_drewN ?_ _ | refine blk_drew ?_ | refine blk_alloc ?_ _ )); refine blk_put (cs := #[.int .i64 (wrap64 (a0_0 + 1)), .slice none 0 0, .slice none 0 0]) ?_ 1 _ rfl; (with_reducible repeat (first | refine blk_drewN ?_ _ | refine blk_drew ?_ | refine blk_alloc ?_ _ )); refine blk_put (cs := #[.int .i64 x604000_2, .slice none 0 0, .slice none 0 0]) ?_ 0 _ rfl; (with_reducible repeat (first | refine blk_drewN ?_ _ | refine blk_drew ?_ | refine blk_alloc ?_ _ )); refine blk_far ?_ NB603_611.out _; (with_reducible repeat (first | refine blk_drewN ?_ _ | refine blk_drew ?_ | refine blk_alloc ?_ _ )); exact BK603.out) Try.underlying25 rfl (by kernel_rfl)) rfl ?_
              exact ⟨_, _, by rfl, by (with_reducible repeat (first | apply Kd.R_alloc | apply Kd.R_drewN | apply Kd.R_drew )); exact Kd.R_mono (Kd.R_far (p := ⟨gb603, 2, none⟩) (Kd.R_far (p := ⟨gb603, 1, none⟩) (Kd.R_far (p := ⟨gb603, 0, none⟩) (Kd.R_far (p := ⟨gb611, 0, none⟩) (Kd.R_types (Kd.R_types HO_612001.out BK611.out (by decide)) BK603.out (by decide)) (fun _ hk => hk.1.2) (.int .i64 (wrap64 (a0_0 + 1)))) (fun _ hk => hk.2) (.int .i64 (wrap64 (a0_0 + 1)))) (fun _ hk => hk.2) (.slice Ao13 t605.length co13)) (fun _ hk => hk.2) (.slice Ao14 t608.length co14)) (fun _ hk => trivial), by (with_reducible repeat (first | apply Kd.R_alloc | apply Kd.R_drewN | apply Kd.R_drew )); exact Kd.R_mono (Kd.R_far (p := ⟨gb603, 2, none⟩) (Kd.R_far (p := ⟨gb603, 1, none⟩) (Kd.R_far (p := ⟨gb603, 0, none⟩) (Kd.R_far (p := ⟨gb611, 0, none⟩) (Kd.R_types (Kd.R_types HO_612002.out BK611.out (by decide)) BK603.out (by decide)) (fun _ hk => hk.1.2) (.int .i64 (wrap64 (a0_0 + 1)))) (fun _ hk => hk.2) (.int .i64 (wrap64 (a0_0 + 1)))) (fun _ hk => hk.2) (.slice Ao13 t605.length co13)) (fun _ hk => hk.2) (.slice Ao14 t608.length co14)) (fun _ hk => trivial), by repeat ((with_reducible first | exact HB.out | refine below_set ?_ GE603.out | refine below_set ?_ GE611.out))⟩
def slices_Index_int_int.l0 : Nat → List Int → Int → Int → Int → Option (Int)
  | 0, _, _, _, _ => none
  | k + 1, x0, x1, x7, x8 => if x8 < x7 then (if 0 ≤ x8 then (if x8 < (x0.length : Int) then (if x1 = (rd x0 x8) then (some x8) else (slices_Index_int_int.l0 k x0 x1 x7 (wrap64 (x8 + 1)))) else (none)) else (none)) else (some (-1))
def slices_Index_int_int.f (k : Nat) (l0 : List Int) (a1 : Int) : Option (Int) := slices_Index_int_int.l0 k l0 a1 (l0.length : Int) 0
set_option maxHeartbeats 8000000 in
set_option maxRecDepth 100000 in
theorem slices_Index_int_int.calls (k : Nat) (A0 : Option Addr) (c0 : Nat) (l0 : List Int) (a1 : Int) (r : Int) (w : World) (hr0 : Kd.C (Kd.int .i64) w A0 l0.length l0) (hc0 : l0.length ≤ c0) (h : slices_Index_int_int.f k l0 a1 = some r) :
    Calls Try.prog 67 #[.slice A0 l0.length c0, .int .i64 a1] w fun e w' => e = .returned (.int .i64 r) ∧ Drawn0 w w' := by
  have HR0 := Aside0.mk hr0
  have HC0 := Aside0.mk hc0
  clear hr0 hc0
  have H : (slices_Index_int_int.l0 k l0 a1 (l0.length : Int) 0) = some r := h
  clear h
  have H' := Aside0.mk H
  clear H
  go_enter Try.func67, Try.ntmps67
  go_wp2
  go_loopg [8] k (fun kq v8 w' => ∃ (x8_1 : Int), v8 = .int .i64 x8_1 ∧ Aside0 (slices_Index_int_int.l0 kq l0 a1 (l0.length : Int) x8_1 = some r) ∧ Aside0 (kq ≤ k) ∧ Drawn0 w w')
  case atStart => exact ⟨(0), (by rfl), H', ⟨Nat.le_refl _⟩, by repeat (exact Drawn0.refl _)⟩
  case round =>
    clear H'
    obtain ⟨x8_1, rfl, HA, HK1, ⟨m1, rfl⟩⟩ := hrel
    cases gk with
    | zero => exact absurd HA.out (by simp [slices_Index_int_int.l0])
    | succ k1 =>
      have H := HA.out
      clear HA
      simp only [slices_Index_int_int.l0] at H
      by_cases c3 : x8_1 < (l0.length : Int)
      · rw [if_pos c3] at H
        have c3b0 : decide (x8_1 < (l0.length : Int)) = true := decide_eq_true c3
        clear c3
        by_cases c4 : 0 ≤ x8_1
        · rw [if_pos c4] at H
          have c4b0 : decide (0 ≤ x8_1) = true := decide_eq_true c4
          clear c4
          by_cases c5 : x8_1 < (l0.length : Int)
          · rw [if_pos c5] at H
            have c5b0 : decide (x8_1 < (l0.length : Int)) = true := decide_eq_true c5
            clear c5
            by_cases c6 : a1 = (rd l0 x8_1)
            · rw [if_pos c6] at H
              have c6b0 : (a1 == (rd l0 x8_1)) = true := beq_iff_eq.mpr c6
              have c6b1 : (a1 != (rd l0 x8_1)) = false := bne_eq_false_iff_eq.mpr c6
              clear c6
              obtain rfl := Option.some.inj H
              have p614 : 0 ≤ (x8_1 : Int) := of_decide_eq_true (by (with_reducible assumption))
              have q614 : x8_1 < (l0.length : Int) := of_decide_eq_true (by (with_reducible assumption))
              obtain ⟨ad614, e614, hx614_0⟩ := Kd.at_int HR0.out x8_1 p614 q614
              cases e614
              replace p614 := eq_true p614
              replace q614 := eq_true q614
              go_wp2
              go_ret
              exact ⟨by rfl, by repeat (first | exact Drawn0.refl _ | apply Drawn0.step)⟩
            · rw [if_neg c6] at H
              have c6b0 : (a1 == (rd l0 x8_1)) = false := beq_eq_false_iff_ne.mpr c6
              have c6b1 : (a1 != (rd l0 x8_1)) = true := bne_iff_ne.mpr c6
              have H' := Aside0.mk H
              clear H
              have p614 : 0 ≤ (x8_1 : Int) := of_decide_eq_true (by (with_reducible assumption))
              have q614 : x8_1 < (l0.length : Int) := of_decide_eq_true (by (with_reducible assumption))
              obtain ⟨ad614, e614, hx614_0⟩ := Kd.at_int HR0.out x8_1 p614 q614
              cases e614
              replace p614 := eq_true p614
              replace q614 := eq_true q614
              go_wp2
              go_roundg k1
              case measure => have := HK1.out; omega
              case rel => exact ⟨(wrap64 (x8_1 + 1)), (by rfl), H', ⟨by have := HK1.out; omega⟩, by repeat (first | exact Drawn0.refl _ | apply Drawn0.step)⟩
          · rw [if_neg c5] at H
            exact absurd H (by simp)
        · rw [if_neg c4] at H
          exact absurd H (by simp)
      · rw [if_neg c3] at H
        have c3b0 : decide (x8_1 < (l0.length : Int)) = false := decide_eq_false c3
        clear c3
        obtain rfl := Option.some.inj H
        go_wp2
        go_ret
        exact ⟨by rfl, by repeat (first | exact Drawn0.refl _ | apply Drawn0.step)⟩
def slices_Contains_int_int.f (k : Nat) (l0 : List Int) (a1 : Int) : Option (Bool) := (slices_Index_int_int.f k l0 a1).bind fun t615 => (some (decide (t615 ≥ 0)))
set_option maxHeartbeats 8000000 in
set_option maxRecDepth 100000 in
theorem slices_Contains_int_int.calls (k : Nat) (A0 : Option Addr) (c0 : Nat) (l0 : List Int) (a1 : Int) (r : Bool) (w : World) (hr0 : Kd.C (Kd.int .i64) w A0 l0.length l0) (hc0 : l0.length ≤ c0) (h : slices_Contains_int_int.f k l0 a1 = some r) :
    Calls Try.prog 55 #[.slice A0 l0.length c0, .int .i64 a1] w fun e w' => e = .returned (.bool r) ∧ Drawn0 w w' := by
  have HR0 := Aside0.mk hr0
  have HC0 := Aside0.mk hc0
  clear hr0 hc0
  have H : ((slices_Index_int_int.f k l0 a1).bind fun t615 => (some (decide (t615 ≥ 0)))) = some r := h
  clear h
  replace H := Option.bind_eq_some_iff.mp H
  obtain ⟨t615, A30, H⟩ := H
  replace H : (some (decide (t615 ≥ 0))) = some r := H
  have A3 := Aside0.mk A30
  clear A30
  obtain rfl := Option.some.inj H
  go_enter Try.func55, Try.ntmps55
  go_wp2_with (((with_reducible refine gate_callee (f := 67) rfl ?_); refine goesL_ (some 7) rfl rfl Try.func67 (by kernel_rfl) rfl #[.slice A0 l0.length c0, .int .i64 a1] rfl (by (try simp only [List.map_toArray, List.map_cons, List.map_nil]); rfl) ?_; (with_reducible refine (slices_Index_int_int.calls k _ _ l0 a1 t615 _ ?side1 ?side2 A3.out).mono ?_); (case side1 => repeat (exact HR0.out)); (case side2 => exact HC0.out); rintro e w' ⟨rfl, ⟨nd, rfl⟩⟩; refine ⟨_, rfl, ?_⟩))
  go_ret
  exact ⟨by rfl, by repeat (first | exact Drawn0.refl _ | apply Drawn0.step)⟩
def impl_AdvanceEpoch.f (k : Nat) (a0_0 : Int) (l0_1 : List Int) (l0_2 : List (S57)) : Option (Int × List Int × (List (S57)) × Bool) := (impl_copyEpochs.f a0_0 l0_1 l0_2).bind fun bt618 => ((impl_EpochsOk.f k a0_0 l0_1 l0_2).bind fun t626 => (if t626 = true then (if a0_0 = 1000000000 then (some (bt618.1, bt618.2.1, bt618.2.2, false)) else ((slices_Contains_int_int.f k l0_1 a0_0).bind fun t627 => (if t627 = true then (some (bt618.1, bt618.2.1, bt618.2.2, false)) else (some (wrap64 (bt618.1 + 1), bt618.2.1, bt618.2.2, true))))) else (some (bt618.1, bt618.2.1, bt618.2.2, false))))
set_option maxHeartbeats 8000000 in
set_option maxRecDepth 100000 in
theorem impl_AdvanceEpoch.calls (k : Nat) (a0_0 : Int) (A0_1 : Option Addr) (c0_1 : Nat) (l0_1 : List Int) (A0_2 : Option Addr) (c0_2 : Nat) (l0_2 : List (S57)) (r1 : Int) (r2 : List Int) (r3 : List (S57)) (r4 : Bool) (w : World) (hr0_1 : Kd.C (Kd.int .i64) w A0_1 l0_1.length l0_1) (hc0_1 : l0_1.length ≤ c0_1) (hr0_2 : Kd.C k57 w A0_2 l0_2.length l0_2) (hc0_2 : l0_2.length ≤ c0_2) (h : impl_AdvanceEpoch.f k a0_0 l0_1 l0_2 = some (r1, r2, r3, r4)) :
    Calls Try.prog 32 #[.agg #[.int .i64 a0_0, .slice A0_1 l0_1.length c0_1, .slice A0_2 l0_2.length c0_2]] w fun e w' => ∃ v1_ v2_ : Value, e = .returned (.tuple #[.agg #[.int .i64 r1, v1_, v2_], .bool r4]) ∧ Kd.R (Kd.int .i64) 3 w' w.heap.size (fun _ => True) v1_ r2 ∧ Kd.R k57 57 w' w.heap.size (fun _ => True) v2_ r3 ∧ Below w.heap.size w w' := by
  have hu25 := Try.underlying25
  have HR0_1 := Aside0.mk hr0_1
  have HC0_1 := Aside0.mk hc0_1
  clear hr0_1 hc0_1
  have HR0_2 := Aside0.mk hr0_2
  have HC0_2 := Aside0.mk hc0_2
  clear hr0_2 hc0_2
  have HB := Aside0.mk (Below.refl w.heap.size w)
  have H : ((impl_copyEpochs.f a0_0 l0_1 l0_2).bind fun bt618 => ((impl_EpochsOk.f k a0_0 l0_1 l0_2).bind fun t626 => (if t626 = true then (if a0_0 = 1000000000 then (some (bt618.1, bt618.2.1, bt618.2.2, false)) else ((slices_Contains_int_int.f k l0_1 a0_0).bind fun t627 => (if t627 = true then (some (bt618.1, bt618.2.1, bt618.2.2, false)) else (some (wrap64 (bt618.1 + 1), bt618.2.1, bt618.2.2, true))))) else (some (bt618.1, bt618.2.1, bt618.2.2, false))))) = some (r1, r2, r3, r4) := h
  clear h
  replace H := Option.bind_eq_some_iff.mp H
  obtain ⟨⟨t618, t619, t622⟩, A20, H⟩ := H
  replace H : ((impl_EpochsOk.f k a0_0 l0_1 l0_2).bind fun t626 => (if t626 = true then (if a0_0 = 1000000000 then (some (t618, t619, t622, false)) else ((slices_Contains_int_int.f k l0_1 a0_0).bind fun t627 => (if t627 = true then (some (t618, t619, t622, false)) else (some (wrap64 (t618 + 1), t619, t622, true))))) else (some (t618, t619, t622, false)))) = some (r1, r2, r3, r4) := H
  have A2 := Aside0.mk A20
  clear A20
  have HS3 := Aside0.mk H
  clear H
  go_enter Try.func32, Try.ntmps32
  go_upto_region 2 with (first | ((with_reducible refine gate_dst (N := 1) rfl ?_); refine box_event ?hg (N := 1) ?hd (cs := #[.int .i64 a0_0, .slice A0_1 l0_1.length c0_1, .slice A0_2 l0_2.length c0_2]) (t := 25) ?hr ?_; (case hd => rfl); (case hg => rfl); (case hr => (go_simp; done)); intro gb616 hg w4 hbox hb; have n0_ := Aside0.mk (below_step (by repeat ((with_reducible exact HB.out))) hb); have n1_ := Aside0.mk (hbox); have n2_ := Aside0.mk ((by rw [hg]; exact (below_size (by repeat ((with_reducible exact HB.out)))) : w.heap.size ≤ gb616)); have n3_ := Aside0.mk ((by rw [hg]; exact (below_size (by repeat ((with_reducible exact HB.out)))) : w.heap.size ≤ gb616)); clear HB; have HB := n0_; have BK616 := n1_; have GW616 := n2_; have GE616 := n3_; clear n0_ n1_ n2_ n3_; clear hb hbox hg) | ((with_reducible refine gate_dst (N := 2) rfl ?_); refine box_event ?hg (N := 2) ?hd (cs := #[.int .i64 0, .slice none 0 0, .slice none 0 0]) (t := 25) ?hr ?_; (case hd => rfl); (case hg => rfl); (case hr => (go_simp; done)); intro gb617 hg w5 hbox hb; have n0_ := Aside0.mk (blk_below (g := gb616) (o := .cells #[.int .i64 a0_0, .slice A0_1 l0_1.length c0_1, .slice A0_2 l0_2.length c0_2] 25 (0, 0)) (by (with_reducible repeat (first | refine blk_drewN ?_ _ | refine blk_drew ?_ | refine blk_alloc ?_ _ )); exact BK616.out) hb); have n1_ := Aside0.mk (below_step (by repeat ((with_reducible exact HB.out))) hb); have n2_ := Aside0.mk (hbox); have n3_ := Aside0.mk ((by rw [hg]; exact (below_size (by repeat ((with_reducible exact HB.out)))) : w.heap.size ≤ gb617)); have n4_ := Aside0.mk ((by rw [hg]; exact (below_size (by repeat ((with_reducible exact HB.out)))) : w.heap.size ≤ gb617)); have n5_ := Aside0.mk ((by rw [hg]; exact Nat.ne_of_lt (blk_lt (g := gb616) (o := .cells #[.int .i64 a0_0, .slice A0_1 l0_1.length c0_1, .slice A0_2 l0_2.length c0_2] 25 (0, 0)) (by (with_reducible repeat (first | refine blk_drewN ?_ _ | refine blk_drew ?_ | refine blk_alloc ?_ _ )); exact BK616.out)) : gb616 ≠ gb617)); have n6_ := Aside0.mk ((by rw [hg]; exact Nat.ne_of_gt (blk_lt (g := gb616) (o := .cells #[.int .i64 a0_0, .slice A0_1 l0_1.length c0_1, .slice A0_2 l0_2.length c0_2] 25 (0, 0)) (by (with_reducible repeat (first | refine blk_drewN ?_ _ | refine blk_drew ?_ | refine blk_alloc ?_ _ )); exact BK616.out)) : gb617 ≠ gb616)); clear BK616; clear HB; have BK616 := n0_; have HB := n1_; have BK617 := n2_; have GW617 := n3_; have GE617 := n4_; have NB616_617 := n5_; have NB617_616 := n6_; clear n0_ n1_ n2_ n3_ n4_ n5_ n6_; clear hb hbox hg; have hnb6 := NB616_617.out; have hnc6 := NB617_616.out; have hcz7_0 : w5.cell? ⟨gb616, 0, none⟩ = some (.int .i64 a0_0) := (blk_cell BK616.out 0).trans rfl; have hcz7_1 : w5.cell? ⟨gb616, 1, none⟩ = some (.slice A0_1 l0_1.length c0_1) := (blk_cell BK616.out 1).trans rfl; have hcz7_2 : w5.cell? ⟨gb616, 2, none⟩ = some (.slice A0_2 l0_2.length c0_2) := (blk_cell BK616.out 2).trans rfl; have hfz7_0 := blk_frozen BK616.out 0; have hfz7_1 := blk_frozen BK616.out 1; have hfz7_2 := blk_frozen BK616.out 2) | ((with_reducible refine gate_callee (f := 53) rfl ?_); refine goesL_ (some 6) rfl rfl Try.func53 (by kernel_rfl) rfl #[.agg #[.int .i64 a0_0, .slice A0_1 l0_1.length c0_1, .slice A0_2 l0_2.length c0_2]] rfl (by (try simp only [List.map_toArray, List.map_cons, List.map_nil]); rfl) ?_; (with_reducible refine (impl_copyEpochs.calls a0_0 _ _ l0_1 _ _ l0_2 t618 t619 t622 _ ?side1 ?side2 ?side3 ?side4 A2.out).mono ?_); (case side1 => repeat (exact (Kd.C_below HR0_1.out HB.out))); (case side2 => exact HC0_1.out); (case side3 => repeat (exact (Kd.C_below HR0_2.out HB.out))); (case side4 => exact HC0_2.out); rintro e w8 ⟨v620, v623, rfl, ho0, ho1, hb⟩; refine ⟨_, rfl, ?_⟩; have n0_ := Aside0.mk (Kd.R_lower ho0 (below_size (by repeat ((with_reducible exact HB.out))))); have n1_ := Aside0.mk (Kd.R_lower ho1 (below_size (by repeat ((with_reducible exact HB.out))))); have n2_ := Aside0.mk (blk_below (g := gb616) (o := .cells #[.int .i64 a0_0, .slice A0_1 l0_1.length c0_1, .slice A0_2 l0_2.length c0_2] 25 (0, 0)) (by (with_reducible repeat (first | refine blk_drewN ?_ _ | refine blk_drew ?_ | refine blk_alloc ?_ _ )); exact BK616.out) hb); have n3_ := Aside0.mk (blk_below (g := gb617) (o := .cells #[.int .i64 0, .slice none 0 0, .slice none 0 0] 25 (0, 0)) (by (with_reducible repeat (first | refine blk_drewN ?_ _ | refine blk_drew ?_ | refine blk_alloc ?_ _ )); exact BK617.out) hb); have n4_ := Aside0.mk (below_step (by repeat ((with_reducible exact HB.out))) hb); clear BK616; clear BK617; clear HB; have HO621 := n0_; have HO624 := n1_; have BK616 := n2_; have BK617 := n3_; have HB := n4_; clear n0_ n1_ n2_ n3_ n4_; (try clear hb); (try clear hb2); (try clear hk); (try clear hi); (try clear ho0); (try clear ho1)) | ((with_reducible refine gate_dst (N := 4) rfl ?_); refine box_event ?hg (N := 4) ?hd (cs := #[.int .i64 0, .slice none 0 0, .slice none 0 0]) (t := 25) ?hr ?_; (case hd => rfl); (case hg => rfl); (case hr => (go_simp; done)); intro gb625 hg w9 hbox hb; have n0_ := Aside0.mk (Kd.R_below (by (with_reducible repeat (first | apply Kd.R_alloc | apply Kd.R_drewN | apply Kd.R_drew )); exact HO621.out) hb); have n1_ := Aside0.mk (Kd.R_below (by (with_reducible repeat (first | apply Kd.R_alloc | apply Kd.R_drewN | apply Kd.R_drew )); exact HO624.out) hb); have n2_ := Aside0.mk (blk_below (g := gb616) (o := .cells #[.int .i64 a0_0, .slice A0_1 l0_1.length c0_1, .slice A0_2 l0_2.length c0_2] 25 (0, 0)) (by (with_reducible repeat (first | refine blk_drewN ?_ _ | refine blk_drew ?_ | refine blk_alloc ?_ _ )); exact BK616.out) hb); have n3_ := Aside0.mk (blk_below (g := gb617) (o := .cells #[.int .i64 0, .slice none 0 0, .slice none 0 0] 25 (0, 0)) (by (with_reducible repeat (first | refine blk_drewN ?_ _ | refine blk_drew ?_ | refine blk_alloc ?_ _ )); exact BK617.out) hb); have n4_ := Aside0.mk (below_step (by repeat ((with_reducible exact HB.out))) hb); have n5_ := Aside0.mk (hbox); have n6_ := Aside0.mk ((by rw [hg]; exact (below_size (by repeat ((with_reducible exact HB.out)))) : w.heap.size ≤ gb625)); have n7_ := Aside0.mk ((by rw [hg]; exact (below_size (by repeat ((with_reducible exact HB.out)))) : w.heap.size ≤ gb625)); have n8_ := Aside0.mk ((by rw [hg]; exact Nat.ne_of_lt (blk_lt (g := gb616) (o := .cells #[.int .i64 a0_0, .slice A0_1 l0_1.length c0_1, .slice A0_2 l0_2.length c0_2] 25 (0, 0)) (by (with_reducible repeat (first | refine blk_drewN ?_ _ | refine blk_drew ?_ | refine blk_alloc ?_ _ )); exact BK616.out)) : gb616 ≠ gb625)); have n9_ := Aside0.mk ((by rw [hg]; exact Nat.ne_of_gt (blk_lt (g := gb616) (o := .cells #[.int .i64 a0_0, .slice A0_1 l0_1.length c0_1, .slice A0_2 l0_2.length c0_2] 25 (0, 0)) (by (with_reducible repeat (first | refine blk_drewN ?_ _ | refine blk_drew ?_ | refine blk_alloc ?_ _ )); exact BK616.out)) : gb625 ≠ gb616)); have n10_ := Aside0.mk ((by rw [hg]; exact Nat.ne_of_lt (blk_lt (g := gb617) (o := .cells #[.int .i64 0, .slice none 0 0, .slice none 0 0] 25 (0, 0)) (by (with_reducible repeat (first | refine blk_drewN ?_ _ | refine blk_drew ?_ | refine blk_alloc ?_ _ )); exact BK617.out)) : gb617 ≠ gb625)); have n11_ := Aside0.mk ((by rw [hg]; exact Nat.ne_of_gt (blk_lt (g := gb617) (o := .cells #[.int .i64 0, .slice none 0 0, .slice none 0 0] 25 (0, 0)) (by (with_reducible repeat (first | refine blk_drewN ?_ _ | refine blk_drew ?_ | refine blk_alloc ?_ _ )); exact BK617.out)) : gb625 ≠ gb617)); clear HO621; clear HO624; clear BK616; clear BK617; clear HB; have HO621 := n0_; have HO624 := n1_; have BK616 := n2_; have BK617 := n3_; have HB := n4_; have BK625 := n5_; have GW625 := n6_; have GE625 := n7_; have NB616_625 := n8_; have NB625_616 := n9_; have NB617_625 := n10_; have NB625_617 := n11_; clear n0_ n1_ n2_ n3_ n4_ n5_ n6_ n7_ n8_ n9_ n10_ n11_; clear hb hbox hg; have hnb10 := NB625_616.out; have hnc10 := NB616_625.out; have hnb11 := NB625_617.out; have hnc11 := NB617_625.out; have hcz12_0 : w9.cell? ⟨gb625, 0, none⟩ = some (.int .i64 0) := (blk_cell BK625.out 0).trans rfl; have hcz12_1 : w9.cell? ⟨gb625, 1, none⟩ = some (.slice none 0 0) := (blk_cell BK625.out 1).trans rfl; have hcz12_2 : w9.cell? ⟨gb625, 2, none⟩ = some (.slice none 0 0) := (blk_cell BK625.out 2).trans rfl; have hfz12_0 := blk_frozen BK625.out 0; have hfz12_1 := blk_frozen BK625.out 1; have hfz12_2 := blk_frozen BK625.out 2; obtain ⟨Ao13, co13, eo13⟩ := Kd.R_slice HO621.out; subst eo13; obtain ⟨Ao14, co14, eo14⟩ := Kd.R_slice HO624.out; subst eo14))
  (try simp only [Act.put, List.setIfInBounds_toArray, List.set_cons_zero, List.set_cons_succ])
  have H := HS3.out
  clear HS3
  replace H := Option.bind_eq_some_iff.mp H
  obtain ⟨t626, A150, H⟩ := H
  replace H : (if t626 = true then (if a0_0 = 1000000000 then (some (t618, t619, t622, false)) else ((slices_Contains_int_int.f k l0_1 a0_0).bind fun t627 => (if t627 = true then (some (t618, t619, t622, false)) else (some (wrap64 (t618 + 1), t619, t622, true))))) else (some (t618, t619, t622, false))) = some (r1, r2, r3, r4) := H
  have A15 := Aside0.mk A150
  clear A150
  by_cases c16 : t626 = true
  · subst c16
    have H1 : (if a0_0 = 1000000000 then (some (t618, t619, t622, false)) else ((slices_Contains_int_int.f k l0_1 a0_0).bind fun t627 => (if t627 = true then (some (t618, t619, t622, false)) else (some (wrap64 (t618 + 1), t619, t622, true))))) = some (r1, r2, r3, r4) := by rw [if_pos rfl] at H; exact H
    clear H
    have H := H1
    clear H1
    by_cases c17 : a0_0 = 1000000000
    · rw [if_pos c17] at H
      have c17b0 : (a0_0 == 1000000000) = true := beq_iff_eq.mpr c17
      have c17b1 : (a0_0 != 1000000000) = false := bne_eq_false_iff_eq.mpr c17
      clear c17
      simp only [Option.some.injEq, Prod.mk.injEq] at H
      obtain ⟨rfl, rfl, rfl, rfl⟩ := H
      have hnb18 := NB616_617.out
      have hnc18 := NB617_616.out
      have hnb19 := NB616_625.out
      have hnc19 := NB625_616.out
      have hcz20_0 : w9.cell? ⟨gb616, 0, none⟩ = some (.int .i64 a0_0) := (blk_cell BK616.out 0).trans rfl
      have hcz20_1 : w9.cell? ⟨gb616, 1, none⟩ = some (.slice A0_1 l0_1.length c0_1) := (blk_cell BK616.out 1).trans rfl
      have hcz20_2 : w9.cell? ⟨gb616, 2, none⟩ = some (.slice A0_2 l0_2.length c0_2) := (blk_cell BK616.out 2).trans rfl
      have hfz20_0 := blk_frozen BK616.out 0
      have hfz20_1 := blk_frozen BK616.out 1
      have hfz20_2 := blk_frozen BK616.out 2
      go_wp2_with (((with_reducible refine gate_callee (f := 21) rfl ?_); refine goesL_ (some 8) rfl rfl Try.func21 (by kernel_rfl) rfl #[.agg #[.int .i64 a0_0, .slice A0_1 l0_1.length c0_1, .slice A0_2 l0_2.length c0_2]] rfl (by (try simp only [List.map_toArray, List.map_cons, List.map_nil]); rfl) ?_; (with_reducible refine (impl_EpochsOk.calls k a0_0 _ _ l0_1 _ _ l0_2 true _ ?side1 ?side2 ?side3 ?side4 A15.out).mono ?_); (case side1 => exact Kd.C_below HR0_1.out (by repeat ((with_reducible first | exact HB.out | refine below_set ?_ GE625.out)))); (case side2 => exact HC0_1.out); (case side3 => exact Kd.C_below HR0_2.out (by repeat ((with_reducible first | exact HB.out | refine below_set ?_ GE625.out)))); (case side4 => exact HC0_2.out); rintro e w21 ⟨rfl, hb⟩; refine ⟨_, rfl, ?_⟩; have n0_ := Aside0.mk (Kd.R_below (by (with_reducible repeat (first | apply Kd.R_alloc | apply Kd.R_drewN | apply Kd.R_drew )); exact (Kd.R_mono (Kd.R_far (p := ⟨gb625, 2, none⟩) (Kd.R_far (p := ⟨gb625, 1, none⟩) (Kd.R_far (p := ⟨gb625, 0, none⟩) (Kd.R_types HO621.out BK625.out (by decide)) (fun _ hk => hk.2) (.int .i64 t618)) (fun _ hk => hk.2) (.slice Ao13 t619.length co13)) (fun _ hk => hk.2) (.slice Ao14 t622.length co14)) (fun _ h_ => by exact h_.1))) hb); have n1_ := Aside0.mk (Kd.R_below (by (with_reducible repeat (first | apply Kd.R_alloc | apply Kd.R_drewN | apply Kd.R_drew )); exact (Kd.R_mono (Kd.R_far (p := ⟨gb625, 2, none⟩) (Kd.R_far (p := ⟨gb625, 1, none⟩) (Kd.R_far (p := ⟨gb625, 0, none⟩) (Kd.R_types HO624.out BK625.out (by decide)) (fun _ hk => hk.2) (.int .i64 t618)) (fun _ hk => hk.2) (.slice Ao13 t619.length co13)) (fun _ hk => hk.2) (.slice Ao14 t622.length co14)) (fun _ h_ => by exact h_.1))) hb); have n2_ := Aside0.mk (blk_below (g := gb616) (o := .cells #[.int .i64 a0_0, .slice A0_1 l0_1.length c0_1, .slice A0_2 l0_2.length c0_2] 25 (0, 0)) (by (with_reducible repeat (first | refine blk_drewN ?_ _ | refine blk_drew ?_ | refine blk_alloc ?_ _ )); refine blk_far ?_ NB616_625.out _; (with_reducible repeat (first | refine blk_drewN ?_ _ | refine blk_drew ?_ | refine blk_alloc ?_ _ )); refine blk_far ?_ NB616_625.out _; (with_reducible repeat (first | refine blk_drewN ?_ _ | refine blk_drew ?_ | refine blk_alloc ?_ _ )); refine blk_far ?_ NB616_625.out _; (with_reducible repeat (first | refine blk_drewN ?_ _ | refine blk_drew ?_ | refine blk_alloc ?_ _ )); exact BK616.out) hb); have n3_ := Aside0.mk (blk_below (g := gb617) (o := .cells #[.int .i64 0, .slice none 0 0, .slice none 0 0] 25 (0, 0)) (by (with_reducible repeat (first | refine blk_drewN ?_ _ | refine blk_drew ?_ | refine blk_alloc ?_ _ )); refine blk_far ?_ NB617_625.out _; (with_reducible repeat (first | refine blk_drewN ?_ _ | refine blk_drew ?_ | refine blk_alloc ?_ _ )); refine blk_far ?_ NB617_625.out _; (with_reducible repeat (first | refine blk_drewN ?_ _ | refine blk_drew ?_ | refine blk_alloc ?_ _ )); refine blk_far ?_ NB617_625.out _; (with_reducible repeat (first | refine blk_drewN ?_ _ | refine blk_drew ?_ | refine blk_alloc ?_ _ )); exact BK617.out) hb); have n4_ := Aside0.mk (blk_below (g := gb625) (o := .cells #[.int .i64 t618, .slice Ao13 t619.length co13, .slice Ao14 t622.length co14] 25 (0, 0)) (by (with_reducible repeat (first | refine blk_drewN ?_ _ | refine blk_drew ?_ | refine blk_alloc ?_ _ )); refine blk_put (cs := #[.int .i64 t618, .slice Ao13 t619.length co13, .slice none 0 0]) ?_ 2 _ rfl; (with_reducible repeat (first | refine blk_drewN ?_ _ | refine blk_drew ?_ | refine blk_alloc ?_ _ )); refine blk_put (cs := #[.int .i64 t618, .slice none 0 0, .slice none 0 0]) ?_ 1 _ rfl; (with_reducible repeat (first | refine blk_drewN ?_ _ | refine blk_drew ?_ | refine blk_alloc ?_ _ )); refine blk_put (cs := #[.int .i64 0, .slice none 0 0, .slice none 0 0]) ?_ 0 _ rfl; (with_reducible repeat (first | refine blk_drewN ?_ _ | refine blk_drew ?_ | refine blk_alloc ?_ _ )); exact BK625.out) hb); have n5_ := Aside0.mk (below_step (by repeat ((with_reducible first | exact HB.out | refine below_set ?_ GE625.out))) hb); clear HO621; clear HO624; clear BK616; clear BK617; clear BK625; clear HB; have HO621 := n0_; have HO624 := n1_; have BK616 := n2_; have BK617 := n3_; have BK625 := n4_; have HB := n5_; clear n0_ n1_ n2_ n3_ n4_ n5_; (try clear hb); (try clear hb2); (try clear hk); (try clear hi); have hcz22_0 : w21.cell? ⟨gb616, 0, none⟩ = some (.int .i64 a0_0) := (blk_cell BK616.out 0).trans rfl; have hcz22_1 : w21.cell? ⟨gb616, 1, none⟩ = some (.slice A0_1 l0_1.length c0_1) := (blk_cell BK616.out 1).trans rfl; have hcz22_2 : w21.cell? ⟨gb616, 2, none⟩ = some (.slice A0_2 l0_2.length c0_2) := (blk_cell BK616.out 2).trans rfl; have hfz22_0 := blk_frozen BK616.out 0; have hfz22_1 := blk_frozen BK616.out 1; have hfz22_2 := blk_frozen BK616.out 2; have hnb23 := NB625_617.out; have hnc23 := NB617_625.out; have hcz24_0 : w21.cell? ⟨gb625, 0, none⟩ = some (.int .i64 t618) := (blk_cell BK625.out 0).trans rfl; have hcz24_1 : w21.cell? ⟨gb625, 1, none⟩ = some (.slice Ao13 t619.length co13) := (blk_cell BK625.out 1).trans rfl; have hcz24_2 : w21.cell? ⟨gb625, 2, none⟩ = some (.slice Ao14 t622.length co14) := (blk_cell BK625.out 2).trans rfl; have hfz24_0 := blk_frozen BK625.out 0; have hfz24_1 := blk_frozen BK625.out 1; have hfz24_2 := blk_frozen BK625.out 2; have hcz25_0 : w21.cell? ⟨gb617, 0, none⟩ = some (.int .i64 0) := (blk_cell BK617.out 0).trans rfl; have hcz25_1 : w21.cell? ⟨gb617, 1, none⟩ = some (.slice none 0 0) := (blk_cell BK617.out 1).trans rfl; have hcz25_2 : w21.cell? ⟨gb617, 2, none⟩ = some (.slice none 0 0) := (blk_cell BK617.out 2).trans rfl; have hfz25_0 := blk_frozen BK617.out 0; have hfz25_1 := blk_frozen BK617.out 1; have hfz25_2 := blk_frozen BK617.out 2))
      refine bodyPost_ret (results_ct rfl _ _ gb617 25 #[.int .i64 t618, .slice Ao13 t619.length co13, .slice Ao14 t622.length co14] (0, 0) _ rfl (by (with_reducible repeat (first | refine blk_drewN ?_ _ | refine blk_drew ?_ | refine blk_alloc ?_ _ )); refine blk_put (cs := #[.int .i64 t618, .slice Ao13 t619.length co13, .slice none 0 0]) ?_ 2 _ rfl; (with_reducible repeat (first | refine blk_drewN ?_ _ | refine blk_drew ?_ | refine blk_alloc ?_ _ )); refine blk_put (cs := #[.int .i64 t618, .slice none 0 0, .slice none 0 0]) ?_ 1 _ rfl; (with_reducible repeat (first | refine blk_drewN ?_ _ | refine blk_drew ?_ | refine blk_alloc ?_ _ )); refine blk_put (cs := #[.int .i64 0, .slice none 0 0, .slice none 0 0]) ?_ 0 _ rfl; (with_reducible repeat (first | refine blk_drewN ?_ _ | refine blk_drew ?_ | refine blk_alloc ?_ _ )); exact BK617.out) Try.underlying25 rfl (by kernel_rfl)) rfl ?_
      exact ⟨_, _, by rfl, by (with_reducible repeat (first | apply Kd.R_alloc | apply Kd.R_drewN | apply Kd.R_drew )); exact Kd.R_mono (Kd.R_far (p := ⟨gb617, 2, none⟩) (Kd.R_far (p := ⟨gb617, 1, none⟩) (Kd.R_far (p := ⟨gb617, 0, none⟩) (Kd.R_types HO621.out BK617.out (by decide)) (fun _ hk => hk.2) (.int .i64 t618)) (fun _ hk => hk.2) (.slice Ao13 t619.length co13)) (fun _ hk => hk.2) (.slice Ao14 t622.length co14)) (fun _ hk => trivial), by (with_reducible repeat (first | apply Kd.R_alloc | apply Kd.R_drewN | apply Kd.R_drew )); exact Kd.R_mono (Kd.R_far (p := ⟨gb617, 2, none⟩) (Kd.R_far (p := ⟨gb617, 1, none⟩) (Kd.R_far (p := ⟨gb617, 0, none⟩) (Kd.R_types HO624.out BK617.out (by decide)) (fun _ hk => hk.2) (.int .i64 t618)) (fun _ hk => hk.2) (.slice Ao13 t619.length co13)) (fun _ hk => hk.2) (.slice Ao14 t622.length co14)) (fun _ hk => trivial), by repeat ((with_reducible first | exact HB.out | refine below_set ?_ GE617.out))⟩
    · rw [if_neg c17] at H
      have c17b0 : (a0_0 == 1000000000) = false := beq_eq_false_iff_ne.mpr c17
      have c17b1 : (a0_0 != 1000000000) = true := bne_iff_ne.mpr c17
      replace H := Option.bind_eq_some_iff.mp H
      obtain ⟨t627, A260, H⟩ := H
      replace H : (if t627 = true then (some (t618, t619, t622, false)) else (some (wrap64 (t618 + 1), t619, t622, true))) = some (r1, r2, r3, r4) := H
      have A26 := Aside0.mk A260
      clear A260
      have HS27 := Aside0.mk H
      clear H
      have hnb28 := NB616_617.out
      have hnc28 := NB617_616.out
      have hnb29 := NB616_625.out
      have hnc29 := NB625_616.out
      have hcz30_0 : w9.cell? ⟨gb616, 0, none⟩ = some (.int .i64 a0_0) := (blk_cell BK616.out 0).trans rfl
      have hcz30_1 : w9.cell? ⟨gb616, 1, none⟩ = some (.slice A0_1 l0_1.length c0_1) := (blk_cell BK616.out 1).trans rfl
      have hcz30_2 : w9.cell? ⟨gb616, 2, none⟩ = some (.slice A0_2 l0_2.length c0_2) := (blk_cell BK616.out 2).trans rfl
      have hfz30_0 := blk_frozen BK616.out 0
      have hfz30_1 := blk_frozen BK616.out 1
      have hfz30_2 := blk_frozen BK616.out 2
      go_upto_if 21 with (first | ((with_reducible refine gate_callee (f := 21) rfl ?_); refine goesL_ (some 8) rfl rfl Try.func21 (by kernel_rfl) rfl #[.agg #[.int .i64 a0_0, .slice A0_1 l0_1.length c0_1, .slice A0_2 l0_2.length c0_2]] rfl (by (try simp only [List.map_toArray, List.map_cons, List.map_nil]); rfl) ?_; (with_reducible refine (impl_EpochsOk.calls k a0_0 _ _ l0_1 _ _ l0_2 true _ ?side1 ?side2 ?side3 ?side4 A15.out).mono ?_); (case side1 => exact Kd.C_below HR0_1.out (by repeat ((with_reducible first | exact HB.out | refine below_set ?_ GE625.out)))); (case side2 => exact HC0_1.out); (case side3 => exact Kd.C_below HR0_2.out (by repeat ((with_reducible first | exact HB.out | refine below_set ?_ GE625.out)))); (case side4 => exact HC0_2.out); rintro e w31 ⟨rfl, hb⟩; refine ⟨_, rfl, ?_⟩; have n0_ := Aside0.mk (Kd.R_below (by (with_reducible repeat (first | apply Kd.R_alloc | apply Kd.R_drewN | apply Kd.R_drew )); exact (Kd.R_mono (Kd.R_far (p := ⟨gb625, 2, none⟩) (Kd.R_far (p := ⟨gb625, 1, none⟩) (Kd.R_far (p := ⟨gb625, 0, none⟩) (Kd.R_types HO621.out BK625.out (by decide)) (fun _ hk => hk.2) (.int .i64 t618)) (fun _ hk => hk.2) (.slice Ao13 t619.length co13)) (fun _ hk => hk.2) (.slice Ao14 t622.length co14)) (fun _ h_ => by exact h_.1))) hb); have n1_ := Aside0.mk (Kd.R_below (by (with_reducible repeat (first | apply Kd.R_alloc | apply Kd.R_drewN | apply Kd.R_drew )); exact (Kd.R_mono (Kd.R_far (p := ⟨gb625, 2, none⟩) (Kd.R_far (p := ⟨gb625, 1, none⟩) (Kd.R_far (p := ⟨gb625, 0, none⟩) (Kd.R_types HO624.out BK625.out (by decide)) (fun _ hk => hk.2) (.int .i64 t618)) (fun _ hk => hk.2) (.slice Ao13 t619.length co13)) (fun _ hk => hk.2) (.slice Ao14 t622.length co14)) (fun _ h_ => by exact h_.1))) hb); have n2_ := Aside0.mk (blk_below (g := gb616) (o := .cells #[.int .i64 a0_0, .slice A0_1 l0_1.length c0_1, .slice A0_2 l0_2.length c0_2] 25 (0, 0)) (by (with_reducible repeat (first | refine blk_drewN ?_ _ | refine blk_drew ?_ | refine blk_alloc ?_ _ )); refine blk_far ?_ NB616_625.out _; (with_reducible repeat (first | refine blk_drewN ?_ _ | refine blk_drew ?_ | refine blk_alloc ?_ _ )); refine blk_far ?_ NB616_625.out _; (with_reducible repeat (first | refine blk_drewN ?_ _ | refine blk_drew ?_ | refine blk_alloc ?_ _ )); refine blk_far ?_ NB616_625.out _; (with_reducible repeat (first | refine blk_drewN ?_ _ | refine blk_drew ?_ | refine blk_alloc ?_ _ )); exact BK616.out) hb); have n3_ := Aside0.mk (blk_below (g := gb617) (o := .cells #[.int .i64 0, .slice none 0 0, .slice none 0 0] 25 (0, 0)) (by (with_reducible repeat (first | refine blk_drewN ?_ _ | refine blk_drew ?_ | refine blk_alloc ?_ _ )); refine blk_far ?_ NB617_625.out _; (with_reducible repeat (first | refine blk_drewN ?_ _ | refine blk_drew ?_ | refine blk_alloc ?_ _ )); refine blk_far ?_ NB617_625.out _; (with_reducible repeat (first | refine blk_drewN ?_ _ | refine blk_drew ?_ | refine blk_alloc ?_ _ )); refine blk_far ?_ NB617_625.out _; (with_reducible repeat (first | refine blk_drewN ?_ _ | refine blk_drew ?_ | refine blk_alloc ?_ _ )); exact BK617.out) hb); have n4_ := Aside0.mk (blk_below (g := gb625) (o := .cells #[.int .i64 t618, .slice Ao13 t619.length co13, .slice Ao14 t622.length co14] 25 (0, 0)) (by (with_reducible repeat (first | refine blk_drewN ?_ _ | refine blk_drew ?_ | refine blk_alloc ?_ _ )); refine blk_put (cs := #[.int .i64 t618, .slice Ao13 t619.length co13, .slice none 0 0]) ?_ 2 _ rfl; (with_reducible repeat (first | refine blk_drewN ?_ _ | refine blk_drew ?_ | refine blk_alloc ?_ _ )); refine blk_put (cs := #[.int .i64 t618, .slice none 0 0, .slice none 0 0]) ?_ 1 _ rfl; (with_reducible repeat (first | refine blk_drewN ?_ _ | refine blk_drew ?_ | refine blk_alloc ?_ _ )); refine blk_put (cs := #[.int .i64 0, .slice none 0 0, .slice none 0 0]) ?_ 0 _ rfl; (with_reducible repeat (first | refine blk_drewN ?_ _ | refine blk_drew ?_ | refine blk_alloc ?_ _ )); exact BK625.out) hb); have n5_ := Aside0.mk (below_step (by repeat ((with_reducible first | exact HB.out | refine below_set ?_ GE625.out))) hb); clear HO621; clear HO624; clear BK616; clear BK617; clear BK625; clear HB; have HO621 := n0_; have HO624 := n1_; have BK616 := n2_; have BK617 := n3_; have BK625 := n4_; have HB := n5_; clear n0_ n1_ n2_ n3_ n4_ n5_; (try clear hb); (try clear hb2); (try clear hk); (try clear hi); have hcz32_0 : w31.cell? ⟨gb616, 0, none⟩ = some (.int .i64 a0_0) := (blk_cell BK616.out 0).trans rfl; have hcz32_1 : w31.cell? ⟨gb616, 1, none⟩ = some (.slice A0_1 l0_1.length c0_1) := (blk_cell BK616.out 1).trans rfl; have hcz32_2 : w31.cell? ⟨gb616, 2, none⟩ = some (.slice A0_2 l0_2.length c0_2) := (blk_cell BK616.out 2).trans rfl; have hfz32_0 := blk_frozen BK616.out 0; have hfz32_1 := blk_frozen BK616.out 1; have hfz32_2 := blk_frozen BK616.out 2) | (go_at_call 55; (with_reducible refine (slices_Contains_int_int.calls k _ _ l0_1 a0_0 t627 _ ?side1 ?side2 A26.out).mono ?_); (case side1 => repeat (exact (Kd.C_below HR0_1.out HB.out))); (case side2 => exact HC0_1.out); rintro e w' ⟨rfl, ⟨nd, rfl⟩⟩))
      (try simp only [Act.put, List.setIfInBounds_toArray, List.set_cons_zero, List.set_cons_succ])
      have H := HS27.out
      clear HS27
      by_cases c33 : t627 = true
      · subst c33
        have H1 : (some (t618, t619, t622, false)) = some (r1, r2, r3, r4) := by rw [if_pos rfl] at H; exact H
        clear H
        have H := H1
        clear H1
        simp only [Option.some.injEq, Prod.mk.injEq] at H
        obtain ⟨rfl, rfl, rfl, rfl⟩ := H
        have hnb34 := NB625_616.out
        have hnc34 := NB616_625.out
        have hnb35 := NB625_617.out
        have hnc35 := NB617_625.out
        have hcz36_0 : w31.cell? ⟨gb625, 0, none⟩ = some (.int .i64 t618) := (blk_cell BK625.out 0).trans rfl
        have hcz36_1 : w31.cell? ⟨gb625, 1, none⟩ = some (.slice Ao13 t619.length co13) := (blk_cell BK625.out 1).trans rfl
        have hcz36_2 : w31.cell? ⟨gb625, 2, none⟩ = some (.slice Ao14 t622.length co14) := (blk_cell BK625.out 2).trans rfl
        have hfz36_0 := blk_frozen BK625.out 0
        have hfz36_1 := blk_frozen BK625.out 1
        have hfz36_2 := blk_frozen BK625.out 2
        have hnb37 := NB617_616.out
        have hnc37 := NB616_617.out
        have hcz38_0 : w31.cell? ⟨gb617, 0, none⟩ = some (.int .i64 0) := (blk_cell BK617.out 0).trans rfl
        have hcz38_1 : w31.cell? ⟨gb617, 1, none⟩ = some (.slice none 0 0) := (blk_cell BK617.out 1).trans rfl
        have hcz38_2 : w31.cell? ⟨gb617, 2, none⟩ = some (.slice none 0 0) := (blk_cell BK617.out 2).trans rfl
        have hfz38_0 := blk_frozen BK617.out 0
        have hfz38_1 := blk_frozen BK617.out 1
        have hfz38_2 := blk_frozen BK617.out 2
        go_wp2
        refine bodyPost_ret (results_ct rfl _ _ gb617 25 #[.int .i64 t618, .slice Ao13 t619.length co13, .slice Ao14 t622.length co14] (0, 0) _ rfl (by (with_reducible repeat (first | refine blk_drewN ?_ _ | refine blk_drew ?_ | refine blk_alloc ?_ _ )); refine blk_put (cs := #[.int .i64 t618, .slice Ao13 t619.length co13, .slice none 0 0]) ?_ 2 _ rfl; (with_reducible repeat (first | refine blk_drewN ?_ _ | refine blk_drew ?_ | refine blk_alloc ?_ _ )); refine blk_put (cs := #[.int .i64 t618, .slice none 0 0, .slice none 0 0]) ?_ 1 _ rfl; (with_reducible repeat (first | refine blk_drewN ?_ _ | refine blk_drew ?_ | refine blk_alloc ?_ _ )); refine blk_put (cs := #[.int .i64 0, .slice none 0 0, .slice none 0 0]) ?_ 0 _ rfl; (with_reducible repeat (refine blk_drewN ?_ _)); exact BK617.out) Try.underlying25 rfl (by kernel_rfl)) rfl ?_
        exact ⟨_, _, by rfl, by (with_reducible repeat (first | apply Kd.R_alloc | apply Kd.R_drewN | apply Kd.R_drew )); exact Kd.R_mono (Kd.R_far (p := ⟨gb617, 2, none⟩) (Kd.R_far (p := ⟨gb617, 1, none⟩) (Kd.R_far (p := ⟨gb617, 0, none⟩) (Kd.R_types HO621.out BK617.out (by decide)) (fun _ hk => hk.2) (.int .i64 t618)) (fun _ hk => hk.2) (.slice Ao13 t619.length co13)) (fun _ hk => hk.2) (.slice Ao14 t622.length co14)) (fun _ hk => trivial), by (with_reducible repeat (first | apply Kd.R_alloc | apply Kd.R_drewN | apply Kd.R_drew )); exact Kd.R_mono (Kd.R_far (p := ⟨gb617, 2, none⟩) (Kd.R_far (p := ⟨gb617, 1, none⟩) (Kd.R_far (p := ⟨gb617, 0, none⟩) (Kd.R_types HO624.out BK617.out (by decide)) (fun _ hk => hk.2) (.int .i64 t618)) (fun _ hk => hk.2) (.slice Ao13 t619.length co13)) (fun _ hk => hk.2) (.slice Ao14 t622.length co14)) (fun _ hk => trivial), by repeat ((with_reducible first | exact HB.out | apply pw_below_drewN | refine below_set ?_ GE617.out))⟩
      · replace c33 := Bool.eq_false_iff.mpr c33
        subst c33
        have H1 : (some (wrap64 (t618 + 1), t619, t622, true)) = some (r1, r2, r3, r4) := by rw [if_neg (show ¬ (false = true) by decide)] at H; exact H
        clear H
        have H := H1
        clear H1
        simp only [Option.some.injEq, Prod.mk.injEq] at H
        obtain ⟨rfl, rfl, rfl, rfl⟩ := H
        have hnb39 := NB625_616.out
        have hnc39 := NB616_625.out
        have hnb40 := NB625_617.out
        have hnc40 := NB617_625.out
        have hcz41_0 : w31.cell? ⟨gb625, 0, none⟩ = some (.int .i64 t618) := (blk_cell BK625.out 0).trans rfl
        have hcz41_1 : w31.cell? ⟨gb625, 1, none⟩ = some (.slice Ao13 t619.length co13) := (blk_cell BK625.out 1).trans rfl
        have hcz41_2 : w31.cell? ⟨gb625, 2, none⟩ = some (.slice Ao14 t622.length co14) := (blk_cell BK625.out 2).trans rfl
        have hfz41_0 := blk_frozen BK625.out 0
        have hfz41_1 := blk_frozen BK625.out 1
        have hfz41_2 := blk_frozen BK625.out 2
        have hnb42 := NB617_616.out
        have hnc42 := NB616_617.out
        have hcz43_0 : w31.cell? ⟨gb617, 0, none⟩ = some (.int .i64 0) := (blk_cell BK617.out 0).trans rfl
        have hcz43_1 : w31.cell? ⟨gb617, 1, none⟩ = some (.slice none 0 0) := (blk_cell BK617.out 1).trans rfl
        have hcz43_2 : w31.cell? ⟨gb617, 2, none⟩ = some (.slice none 0 0) := (blk_cell BK617.out 2).trans rfl
        have hfz43_0 := blk_frozen BK617.out 0
        have hfz43_1 := blk_frozen BK617.out 1
        have hfz43_2 := blk_frozen BK617.out 2
        go_wp2
        refine bodyPost_ret (results_ct rfl _ _ gb617 25 #[.int .i64 (wrap64 (t618 + 1)), .slice Ao13 t619.length co13, .slice Ao14 t622.length co14] (0, 0) _ rfl (by (with_reducible repeat (first | refine blk_drewN ?_ _ | refine blk_drew ?_ | refine blk_alloc ?_ _ )); refine blk_put (cs := #[.int .i64 (wrap64 (t618 + 1)), .slice Ao13 t619.length co13, .slice none 0 0]) ?_ 2 _ rfl; (with_reducible repeat (first | refine blk_drewN ?_ _ | refine blk_drew ?_ | refine blk_alloc ?_ _ )); refine blk_put (cs := #[.int .i64 (wrap64 (t618 + 1)), .slice none 0 0, .slice none 0 0]) ?_ 1 _ rfl; (with_reducible repeat (first | refine blk_drewN ?_ _ | refine blk_drew ?_ | refine blk_alloc ?_ _ )); refine blk_put (cs := #[.int .i64 0, .slice none 0 0, .slice none 0 0]) ?_ 0 _ rfl; (with_reducible repeat (first | refine blk_drewN ?_ _ | refine blk_drew ?_ | refine blk_alloc ?_ _ )); refine blk_far ?_ NB617_625.out _; (with_reducible repeat (refine blk_drewN ?_ _)); exact BK617.out) Try.underlying25 rfl (by kernel_rfl)) rfl ?_
        exact ⟨_, _, by rfl, by (with_reducible repeat (first | apply Kd.R_alloc | apply Kd.R_drewN | apply Kd.R_drew )); exact Kd.R_mono (Kd.R_far (p := ⟨gb617, 2, none⟩) (Kd.R_far (p := ⟨gb617, 1, none⟩) (Kd.R_far (p := ⟨gb617, 0, none⟩) (Kd.R_far (p := ⟨gb625, 0, none⟩) (Kd.R_types (Kd.R_types HO621.out BK625.out (by decide)) BK617.out (by decide)) (fun _ hk => hk.1.2) (.int .i64 (wrap64 (t618 + 1)))) (fun _ hk => hk.2) (.int .i64 (wrap64 (t618 + 1)))) (fun _ hk => hk.2) (.slice Ao13 t619.length co13)) (fun _ hk => hk.2) (.slice Ao14 t622.length co14)) (fun _ hk => trivial), by (with_reducible repeat (first | apply Kd.R_alloc | apply Kd.R_drewN | apply Kd.R_drew )); exact Kd.R_mono (Kd.R_far (p := ⟨gb617, 2, none⟩) (Kd.R_far (p := ⟨gb617, 1, none⟩) (Kd.R_far (p := ⟨gb617, 0, none⟩) (Kd.R_far (p := ⟨gb625, 0, none⟩) (Kd.R_types (Kd.R_types HO624.out BK625.out (by decide)) BK617.out (by decide)) (fun _ hk => hk.1.2) (.int .i64 (wrap64 (t618 + 1)))) (fun _ hk => hk.2) (.int .i64 (wrap64 (t618 + 1)))) (fun _ hk => hk.2) (.slice Ao13 t619.length co13)) (fun _ hk => hk.2) (.slice Ao14 t622.length co14)) (fun _ hk => trivial), by repeat ((with_reducible first | exact HB.out | apply pw_below_drewN | refine below_set ?_ GE617.out | refine below_set ?_ GE625.out))⟩
  · replace c16 := Bool.eq_false_iff.mpr c16
    subst c16
    have H1 : (some (t618, t619, t622, false)) = some (r1, r2, r3, r4) := by rw [if_neg (show ¬ (false = true) by decide)] at H; exact H
    clear H
    have H := H1
    clear H1
    simp only [Option.some.injEq, Prod.mk.injEq] at H
    obtain ⟨rfl, rfl, rfl, rfl⟩ := H
    have hnb44 := NB616_617.out
    have hnc44 := NB617_616.out
    have hnb45 := NB616_625.out
    have hnc45 := NB625_616.out
    have hcz46_0 : w9.cell? ⟨gb616, 0, none⟩ = some (.int .i64 a0_0) := (blk_cell BK616.out 0).trans rfl
    have hcz46_1 : w9.cell? ⟨gb616, 1, none⟩ = some (.slice A0_1 l0_1.length c0_1) := (blk_cell BK616.out 1).trans rfl
    have hcz46_2 : w9.cell? ⟨gb616, 2, none⟩ = some (.slice A0_2 l0_2.length c0_2) := (blk_cell BK616.out 2).trans rfl
    have hfz46_0 := blk_frozen BK616.out 0
    have hfz46_1 := blk_frozen BK616.out 1
    have hfz46_2 := blk_frozen BK616.out 2
    go_wp2_with (((with_reducible refine gate_callee (f := 21) rfl ?_); refine goesL_ (some 8) rfl rfl Try.func21 (by kernel_rfl) rfl #[.agg #[.int .i64 a0_0, .slice A0_1 l0_1.length c0_1, .slice A0_2 l0_2.length c0_2]] rfl (by (try simp only [List.map_toArray, List.map_cons, List.map_nil]); rfl) ?_; (with_reducible refine (impl_EpochsOk.calls k a0_0 _ _ l0_1 _ _ l0_2 false _ ?side1 ?side2 ?side3 ?side4 A15.out).mono ?_); (case side1 => exact Kd.C_below HR0_1.out (by repeat ((with_reducible first | exact HB.out | refine below_set ?_ GE625.out)))); (case side2 => exact HC0_1.out); (case side3 => exact Kd.C_below HR0_2.out (by repeat ((with_reducible first | exact HB.out | refine below_set ?_ GE625.out)))); (case side4 => exact HC0_2.out); rintro e w47 ⟨rfl, hb⟩; refine ⟨_, rfl, ?_⟩; have n0_ := Aside0.mk (Kd.R_below (by (with_reducible repeat (first | apply Kd.R_alloc | apply Kd.R_drewN | apply Kd.R_drew )); exact (Kd.R_mono (Kd.R_far (p := ⟨gb625, 2, none⟩) (Kd.R_far (p := ⟨gb625, 1, none⟩) (Kd.R_far (p := ⟨gb625, 0, none⟩) (Kd.R_types HO621.out BK625.out (by decide)) (fun _ hk => hk.2) (.int .i64 t618)) (fun _ hk => hk.2) (.slice Ao13 t619.length co13)) (fun _ hk => hk.2) (.slice Ao14 t622.length co14)) (fun _ h_ => by exact h_.1))) hb); have n1_ := Aside0.mk (Kd.R_below (by (with_reducible repeat (first | apply Kd.R_alloc | apply Kd.R_drewN | apply Kd.R_drew )); exact (Kd.R_mono (Kd.R_far (p := ⟨gb625, 2, none⟩) (Kd.R_far (p := ⟨gb625, 1, none⟩) (Kd.R_far (p := ⟨gb625, 0, none⟩) (Kd.R_types HO624.out BK625.out (by decide)) (fun _ hk => hk.2) (.int .i64 t618)) (fun _ hk => hk.2) (.slice Ao13 t619.length co13)) (fun _ hk => hk.2) (.slice Ao14 t622.length co14)) (fun _ h_ => by exact h_.1))) hb); have n2_ := Aside0.mk (blk_below (g := gb616) (o := .cells #[.int .i64 a0_0, .slice A0_1 l0_1.length c0_1, .slice A0_2 l0_2.length c0_2] 25 (0, 0)) (by (with_reducible repeat (first | refine blk_drewN ?_ _ | refine blk_drew ?_ | refine blk_alloc ?_ _ )); refine blk_far ?_ NB616_625.out _; (with_reducible repeat (first | refine blk_drewN ?_ _ | refine blk_drew ?_ | refine blk_alloc ?_ _ )); refine blk_far ?_ NB616_625.out _; (with_reducible repeat (first | refine blk_drewN ?_ _ | refine blk_drew ?_ | refine blk_alloc ?_ _ )); refine blk_far ?_ NB616_625.out _; (with_reducible repeat (first | refine blk_drewN ?_ _ | refine blk_drew ?_ | refine blk_alloc ?_ _ )); exact BK616.out) hb); have n3_ := Aside0.mk (blk_below (g := gb617) (o := .cells #[.int .i64 0, .slice none 0 0, .slice none 0 0] 25 (0, 0)) (by (with_reducible repeat (first | refine blk_drewN ?_ _ | refine blk_drew ?_ | refine blk_alloc ?_ _ )); refine blk_far ?_ NB617_625.out _; (with_reducible repeat (first | refine blk_drewN ?_ _ | refine blk_drew ?_ | refine blk_alloc ?_ _ )); refine blk_far ?_ NB617_625.out _; (with_reducible repeat (first | refine blk_drewN ?_ _ | refine blk_drew ?_ | refine blk_alloc ?_ _ )); refine blk_far ?_ NB617_625.out _; (with_reducible repeat (first | refine blk_drewN ?_ _ | refine blk_drew ?_ | refine blk_alloc ?_ _ )); exact BK617.out) hb); have n4_ := Aside0.mk (blk_below (g := gb625) (o := .cells #[.int .i64 t618, .slice Ao13 t619.length co13, .slice Ao14 t622.length co14] 25 (0, 0)) (by (with_reducible repeat (first | refine blk_drewN ?_ _ | refine blk_drew ?_ | refine blk_alloc ?_ _ )); refine blk_put (cs := #[.int .i64 t618, .slice Ao13 t619.length co13, .slice none 0 0]) ?_ 2 _ rfl; (with_reducible repeat (first | refine blk_drewN ?_ _ | refine blk_drew ?_ | refine blk_alloc ?_ _ )); refine blk_put (cs := #[.int .i64 t618, .slice none 0 0, .slice none 0 0]) ?_ 1 _ rfl; (with_reducible repeat (first | refine blk_drewN ?_ _ | refine blk_drew ?_ | refine blk_alloc ?_ _ )); refine blk_put (cs := #[.int .i64 0, .slice none 0 0, .slice none 0 0]) ?_ 0 _ rfl; (with_reducible repeat (first | refine blk_drewN ?_ _ | refine blk_drew ?_ | refine blk_alloc ?_ _ )); exact BK625.out) hb); have n5_ := Aside0.mk (below_step (by repeat ((with_reducible first | exact HB.out | refine below_set ?_ GE625.out))) hb); clear HO621; clear HO624; clear BK616; clear BK617; clear BK625; clear HB; have HO621 := n0_; have HO624 := n1_; have BK616 := n2_; have BK617 := n3_; have BK625 := n4_; have HB := n5_; clear n0_ n1_ n2_ n3_ n4_ n5_; (try clear hb); (try clear hb2); (try clear hk); (try clear hi); have hnb48 := NB625_617.out; have hnc48 := NB617_625.out; have hcz49_0 : w47.cell? ⟨gb625, 0, none⟩ = some (.int .i64 t618) := (blk_cell BK625.out 0).trans rfl; have hcz49_1 : w47.cell? ⟨gb625, 1, none⟩ = some (.slice Ao13 t619.length co13) := (blk_cell BK625.out 1).trans rfl; have hcz49_2 : w47.cell? ⟨gb625, 2, none⟩ = some (.slice Ao14 t622.length co14) := (blk_cell BK625.out 2).trans rfl; have hfz49_0 := blk_frozen BK625.out 0; have hfz49_1 := blk_frozen BK625.out 1; have hfz49_2 := blk_frozen BK625.out 2; have hcz50_0 : w47.cell? ⟨gb617, 0, none⟩ = some (.int .i64 0) := (blk_cell BK617.out 0).trans rfl; have hcz50_1 : w47.cell? ⟨gb617, 1, none⟩ = some (.slice none 0 0) := (blk_cell BK617.out 1).trans rfl; have hcz50_2 : w47.cell? ⟨gb617, 2, none⟩ = some (.slice none 0 0) := (blk_cell BK617.out 2).trans rfl; have hfz50_0 := blk_frozen BK617.out 0; have hfz50_1 := blk_frozen BK617.out 1; have hfz50_2 := blk_frozen BK617.out 2))
    refine bodyPost_ret (results_ct rfl _ _ gb617 25 #[.int .i64 t618, .slice Ao13 t619.length co13, .slice Ao14 t622.length co14] (0, 0) _ rfl (by (with_reducible repeat (first | refine blk_drewN ?_ _ | refine blk_drew ?_ | refine blk_alloc ?_ _ )); refine blk_put (cs := #[.int .i64 t618, .slice Ao13 t619.length co13, .slice none 0 0]) ?_ 2 _ rfl; (with_reducible repeat (first | refine blk_drewN ?_ _ | refine blk_drew ?_ | refine blk_alloc ?_ _ )); refine blk_put (cs := #[.int .i64 t618, .slice none 0 0, .slice none 0 0]) ?_ 1 _ rfl; (with_reducible repeat (first | refine blk_drewN ?_ _ | refine blk_drew ?_ | refine blk_alloc ?_ _ )); refine blk_put (cs := #[.int .i64 0, .slice none 0 0, .slice none 0 0]) ?_ 0 _ rfl; (with_reducible repeat (first | refine blk_drewN ?_ _ | refine blk_drew ?_ | refine blk_alloc ?_ _ )); exact BK617.out) Try.underlying25 rfl (by kernel_rfl)) rfl ?_
    exact ⟨_, _, by rfl, by (with_reducible repeat (first | apply Kd.R_alloc | apply Kd.R_drewN | apply Kd.R_drew )); exact Kd.R_mono (Kd.R_far (p := ⟨gb617, 2, none⟩) (Kd.R_far (p := ⟨gb617, 1, none⟩) (Kd.R_far (p := ⟨gb617, 0, none⟩) (Kd.R_types HO621.out BK617.out (by decide)) (fun _ hk => hk.2) (.int .i64 t618)) (fun _ hk => hk.2) (.slice Ao13 t619.length co13)) (fun _ hk => hk.2) (.slice Ao14 t622.length co14)) (fun _ hk => trivial), by (with_reducible repeat (first | apply Kd.R_alloc | apply Kd.R_drewN | apply Kd.R_drew )); exact Kd.R_mono (Kd.R_far (p := ⟨gb617, 2, none⟩) (Kd.R_far (p := ⟨gb617, 1, none⟩) (Kd.R_far (p := ⟨gb617, 0, none⟩) (Kd.R_types HO624.out BK617.out (by decide)) (fun _ hk => hk.2) (.int .i64 t618)) (fun _ hk => hk.2) (.slice Ao13 t619.length co13)) (fun _ hk => hk.2) (.slice Ao14 t622.length co14)) (fun _ hk => trivial), by repeat ((with_reducible first | exact HB.out | refine below_set ?_ GE617.out))⟩
end Go.Proofs.Ytdbhpcekjcohdaa.Q
