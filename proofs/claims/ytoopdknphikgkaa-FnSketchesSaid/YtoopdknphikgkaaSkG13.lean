import Derived.Test.YtoopdknphikgkaaSkB0
import Derived.Test.YtoopdknphikgkaaSkG87
import Derived.Test.YtoopdknphikgkaaSkG100
import Derived.Test.YtoopdknphikgkaaSkG101
import Derived.Test.YtoopdknphikgkaaSkWords
namespace Go.Proofs.Ytoopdknphikgkaa.Q
open Go.RowKit Go.Proofs.YtoopdknphikgkaaW.PrintWords Go.Proofs.YtoopdknphikgkaaW.PrintLast Go.Proofs.YtoopdknphikgkaaW.PrintMore
attribute [local go_sem] max2_int min2_int max_two min_two max_three min_three max_four min_four   -- for this text's walks alone
set_option linter.unusedVariables false
set_option linter.unusedSimpArgs false
def laws_FnSketches.l0 : Nat → ByteArray → Int → ByteArray → Int → List (List Int) → Int → List (List Int) → Int → List (List Int) → Int → List (List Int) → Int → Option (Bool)
  | 0, _, _, _, _, _, _, _, _, _, _, _, _ => none
  | k + 1, x4, x7, x8, x10, x737000, x737001, x742000, x742001, x747000, x747001, x754000, x754001 => if x10 < 64 then ((impl_SketchBump.f k x754000 x754001 (⟨#[47, 97]⟩ : ByteArray)).bind fun bt754 => (if bt754.2 = 0 then ((impl_SketchGuess.f k bt754.1 bt754.2 (⟨#[47, 97]⟩ : ByteArray)).bind fun t758 => (if t758 > 7 then (none) else (laws_FnSketches.l0 k x4 x7 x8 (wrap64 (x10 + 1)) x737000 x737001 x742000 x742001 x747000 x747001 bt754.1 bt754.2))) else (laws_FnSketches.l0 k x4 x7 x8 (wrap64 (x10 + 1)) x737000 x737001 x742000 x742001 x747000 x747001 bt754.1 bt754.2))) else ((laws_sameSketch.f k x742000 x742001 x747000 x747001).bind fun t759 => (if t759 = true then ((impl_SketchGuess.f k x737000 x737001 x4).bind fun t760 => ((spec_SketchGuess.f k x737000 x737001 x4).bind fun t761 => (if t760 = t761 then ((impl_SketchPlace.f k x7 x8).bind fun t762 => ((spec_SketchPlace.f k x7 x8).bind fun t763 => (if t762 = t763 then ((impl_SketchPlace.f k 1 x4).bind fun t764 => (if t764 ≥ 0 then ((impl_SketchPlace.f k 1 x4).bind fun t765 => (if t765 < 16 then ((impl_SketchOk.f k x754000 x754001).bind fun t766 => (if t766 = true then ((impl_SketchOk.f k x737000 x737001).bind fun t767 => ((spec_SketchOk.f k x737000 x737001).bind fun t768 => (some (t767 == t768)))) else (none))) else (none))) else (none))) else (none)))) else (none)))) else (none)))
def laws_FnSketches.f (k : Nat) (l0 : List Int) : Option (Bool) := (laws_big.f l0).bind fun t730 => (if t730 = true then (some true) else ((spec_DrawSketchBump.f k l0).bind fun bt731 => ((impl_SketchBump.f k bt731.1 bt731.2.1 bt731.2.2).bind fun bt737 => ((spec_SketchBump.f k bt731.1 bt731.2.1 bt731.2.2).bind fun bt742 => ((spec_DrawSketchPlace.f k l0).bind fun bt747 => ((spec_DrawSketch.f k l0).bind fun bt749 => (laws_FnSketches.l0 k bt731.2.2 bt747.1 bt747.2 0 bt731.1 bt731.2.1 bt737.1 bt737.2 bt742.1 bt742.2 bt749.1 bt749.2)))))))
def laws_FnSketches.T14 : Bool × List (List Nat × List Nat) := (true, [([], []), ([], []), ([0, 1], [0, 1]), ([2, 2], [2]), ([3], [3]), ([3], [3]), ([4, 5, 3, 3], [3, 4, 5]), ([3], [3]), ([3], [3]), ([7, 8, 6, 3], [3, 7, 8]), ([6, 9, 3], [3, 6, 9]), ([3, 10], [3, 10]), ([11, 9], [11]), ([12], [12]), ([12], [12]), ([13, 14, 12, 12], [12, 13, 14]), ([12], [12]), ([12], [12]), ([16, 17, 15, 12], [12, 16, 17]), ([15, 18, 12], [12, 15, 18]), ([12, 19], [12, 19]), ([20, 18], [20]), ([21], [21]), ([22, 21, 21], [21, 22]), ([23, 21], [21, 23]), ([21, 24], [21, 24]), ([25, 23], [25]), ([26], [26]), ([27, 26, 26], [26, 27]), ([28, 26], [26, 28]), ([26, 29], [26, 29]), ([30, 28], [30]), ([31], [31]), ([32, 31, 31], [31, 32]), ([31, 33], [31, 33]), ([34, 33], [34]), ([35], [35]), ([36, 35, 35], [35, 36]), ([35], [35]), ([38, 37, 35], [35, 38]), ([37, 39, 35], [35, 37, 39]), ([35, 40], [35, 40]), ([41, 39, 0, 1, 2, 3, 4, 5, 6, 7, 8, 9, 10, 11, 12, 13, 14, 15, 16, 17, 18, 19, 20, 21, 22, 23, 24, 25, 26, 27, 28, 29, 30, 31, 32, 33, 34, 35, 36, 37, 38, 39, 40, 41], [41])])
def laws_FnSketches.B14 : List Nat := [0, 0, 3, 7, 15, 15, 63, 15, 15, 511, 1023, 2047, 4095, 8191, 8191, 32767, 8191, 8191, 262143, 524287, 1048575, 2097151, 4194303, 8388607, 16777215, 33554431, 67108863, 134217727, 268435455, 536870911, 1073741823, 2147483647, 4294967295, 8589934591, 17179869183, 34359738367, 68719476735, 137438953471, 68719476735, 549755813887, 1099511627775, 2199023255551, 4398046511103]
theorem laws_FnSketches.tab14 : rtab .any (opsOf Try.f13 14) = laws_FnSketches.T14 := by kernel_rfl
theorem laws_FnSketches.bits14 : waitsOk laws_FnSketches.T14.2 laws_FnSketches.B14 = true := by kernel_rfl
set_option maxHeartbeats 8000000 in
set_option maxRecDepth 100000 in
theorem laws_FnSketches.calls (k : Nat) (A0 : Option Addr) (c0 : Nat) (l0 : List Int) (r : Bool) (w : World) (hr0 : Kd.C (Kd.int .u8) w A0 l0.length l0) (hc0 : l0.length ≤ c0) (h : laws_FnSketches.f k l0 = some r) :
    Calls Try.prog 13 #[.slice A0 l0.length c0] w fun e w' => e = .returned (.bool r) ∧ Below w.heap.size w w' := by
  have hu26 := Try.underlying26
  have HR0 := Aside0.mk hr0
  have HC0 := Aside0.mk hc0
  clear hr0 hc0
  have HB := Aside0.mk (Below.refl w.heap.size w)
  have H : ((laws_big.f l0).bind fun t730 => (if t730 = true then (some true) else ((spec_DrawSketchBump.f k l0).bind fun bt731 => ((impl_SketchBump.f k bt731.1 bt731.2.1 bt731.2.2).bind fun bt737 => ((spec_SketchBump.f k bt731.1 bt731.2.1 bt731.2.2).bind fun bt742 => ((spec_DrawSketchPlace.f k l0).bind fun bt747 => ((spec_DrawSketch.f k l0).bind fun bt749 => (laws_FnSketches.l0 k bt731.2.2 bt747.1 bt747.2 0 bt731.1 bt731.2.1 bt737.1 bt737.2 bt742.1 bt742.2 bt749.1 bt749.2)))))))) = some r := h
  clear h
  replace H := Option.bind_eq_some_iff.mp H
  obtain ⟨t730, A20, H⟩ := H
  replace H : (if t730 = true then (some true) else ((spec_DrawSketchBump.f k l0).bind fun bt731 => ((impl_SketchBump.f k bt731.1 bt731.2.1 bt731.2.2).bind fun bt737 => ((spec_SketchBump.f k bt731.1 bt731.2.1 bt731.2.2).bind fun bt742 => ((spec_DrawSketchPlace.f k l0).bind fun bt747 => ((spec_DrawSketch.f k l0).bind fun bt749 => (laws_FnSketches.l0 k bt731.2.2 bt747.1 bt747.2 0 bt731.1 bt731.2.1 bt737.1 bt737.2 bt742.1 bt742.2 bt749.1 bt749.2))))))) = some r := H
  have A2 := Aside0.mk A20
  clear A20
  have HS3 := Aside0.mk H
  clear H
  go_enter Try.func13, Try.ntmps13
  go_upto_if 12 with (((with_reducible refine gate_callee (f := 28) rfl ?_); refine goesL_ (some 12) rfl rfl Try.func28 (by kernel_rfl) rfl #[.slice A0 l0.length c0] rfl (by (try simp only [List.map_toArray, List.map_cons, List.map_nil]); rfl) ?_; (with_reducible refine (laws_big.calls _ _ l0 t730 _ ?side1 ?side2 A2.out).mono ?_); (case side1 => repeat (exact HR0.out)); (case side2 => exact HC0.out); rintro e w' ⟨rfl, rfl⟩; refine ⟨_, rfl, ?_⟩))
  (try simp only [Act.put, List.setIfInBounds_toArray, List.set_cons_zero, List.set_cons_succ])
  have H := HS3.out
  clear HS3
  by_cases c4 : t730 = true
  · subst c4
    have H1 : (some true) = some r := by rw [if_pos rfl] at H; exact H
    clear H
    have H := H1
    clear H1
    obtain rfl := Option.some.inj H
    go_wp2
    go_ret
    exact ⟨by rfl, by repeat ((with_reducible exact HB.out))⟩
  · replace c4 := Bool.eq_false_iff.mpr c4
    subst c4
    have H1 : ((spec_DrawSketchBump.f k l0).bind fun bt731 => ((impl_SketchBump.f k bt731.1 bt731.2.1 bt731.2.2).bind fun bt737 => ((spec_SketchBump.f k bt731.1 bt731.2.1 bt731.2.2).bind fun bt742 => ((spec_DrawSketchPlace.f k l0).bind fun bt747 => ((spec_DrawSketch.f k l0).bind fun bt749 => (laws_FnSketches.l0 k bt731.2.2 bt747.1 bt747.2 0 bt731.1 bt731.2.1 bt737.1 bt737.2 bt742.1 bt742.2 bt749.1 bt749.2)))))) = some r := by rw [if_neg (show ¬ (false = true) by decide)] at H; exact H
    clear H
    have H := H1
    clear H1
    replace H := Option.bind_eq_some_iff.mp H
    obtain ⟨⟨t731, t734, t735⟩, A50, H⟩ := H
    replace H : ((impl_SketchBump.f k t731 t734 t735).bind fun bt737 => ((spec_SketchBump.f k t731 t734 t735).bind fun bt742 => ((spec_DrawSketchPlace.f k l0).bind fun bt747 => ((spec_DrawSketch.f k l0).bind fun bt749 => (laws_FnSketches.l0 k t735 bt747.1 bt747.2 0 t731 t734 bt737.1 bt737.2 bt742.1 bt742.2 bt749.1 bt749.2))))) = some r := H
    have A5 := Aside0.mk A50
    clear A50
    replace H := Option.bind_eq_some_iff.mp H
    obtain ⟨⟨t737, t740⟩, A60, H⟩ := H
    replace H : ((spec_SketchBump.f k t731 t734 t735).bind fun bt742 => ((spec_DrawSketchPlace.f k l0).bind fun bt747 => ((spec_DrawSketch.f k l0).bind fun bt749 => (laws_FnSketches.l0 k t735 bt747.1 bt747.2 0 t731 t734 t737 t740 bt742.1 bt742.2 bt749.1 bt749.2)))) = some r := H
    have A6 := Aside0.mk A60
    clear A60
    replace H := Option.bind_eq_some_iff.mp H
    obtain ⟨⟨t742, t745⟩, A70, H⟩ := H
    replace H : ((spec_DrawSketchPlace.f k l0).bind fun bt747 => ((spec_DrawSketch.f k l0).bind fun bt749 => (laws_FnSketches.l0 k t735 bt747.1 bt747.2 0 t731 t734 t737 t740 t742 t745 bt749.1 bt749.2))) = some r := H
    have A7 := Aside0.mk A70
    clear A70
    replace H := Option.bind_eq_some_iff.mp H
    obtain ⟨⟨t747, t748⟩, A80, H⟩ := H
    replace H : ((spec_DrawSketch.f k l0).bind fun bt749 => (laws_FnSketches.l0 k t735 t747 t748 0 t731 t734 t737 t740 t742 t745 bt749.1 bt749.2)) = some r := H
    have A8 := Aside0.mk A80
    clear A80
    replace H := Option.bind_eq_some_iff.mp H
    obtain ⟨⟨t749, t752⟩, A90, H⟩ := H
    replace H : (laws_FnSketches.l0 k t735 t747 t748 0 t731 t734 t737 t740 t742 t745 t749 t752) = some r := H
    have A9 := Aside0.mk A90
    clear A90
    have H' := Aside0.mk H
    clear H
    go_wp2_with (first | ((with_reducible refine gate_callee (f := 48) rfl ?_); refine goesL_ (some 15) rfl rfl Try.func48 (by kernel_rfl) rfl #[.slice A0 l0.length c0] rfl (by (try simp only [List.map_toArray, List.map_cons, List.map_nil]); rfl) ?_; (with_reducible refine (spec_DrawSketchBump.calls k _ _ l0 t731 t734 t735 _ ?side1 ?side2 A5.out).mono ?_); (case side1 => repeat (exact (Kd.C_below HR0.out HB.out))); (case side2 => exact HC0.out); rintro e w10 ⟨v732, rfl, ho0, hb⟩; refine ⟨_, rfl, ?_⟩; have n0_ := Aside0.mk (Kd.V_lower (Kd.V_mono (ok' := fun k_ => True) ho0 (fun k_ hk_ => trivial)) (below_size (by repeat ((with_reducible exact HB.out))))); have n1_ := Aside0.mk (below_step (by repeat ((with_reducible exact HB.out))) hb); clear HB; have HO733 := n0_; have HB := n1_; clear n0_ n1_; (try clear hb); (try clear hb2); (try clear hk); (try clear hi); (try clear ho0)) | ((with_reducible refine gate_dst (N := 3) rfl ?_); refine box_event ?hg (N := 3) ?hd (cs := #[.slice none 0 0, .int .i64 0]) (t := 26) ?hr ?_; (case hd => rfl); (case hg => rfl); (case hr => (go_simp; done)); intro gb736 hg w11 hbox hb; have n0_ := Aside0.mk (Kd.V_below (Kd.V_elderB (by (with_reducible repeat (first | apply Kd.V_alloc | apply Kd.V_drewN | apply Kd.V_drew )); exact HO733.out) gb736 (Nat.le_of_eq hg.symm)) hb); have n1_ := Aside0.mk (below_step (by repeat ((with_reducible exact HB.out))) hb); have n2_ := Aside0.mk (hbox); have n3_ := Aside0.mk ((by rw [hg]; exact (below_size (by repeat ((with_reducible exact HB.out)))) : w.heap.size ≤ gb736)); have n4_ := Aside0.mk ((by rw [hg]; exact (below_size (by repeat ((with_reducible exact HB.out)))) : w.heap.size ≤ gb736)); clear HO733; clear HB; have HO733 := n0_; have HB := n1_; have BK736 := n2_; have GW736 := n3_; have GE736 := n4_; clear n0_ n1_ n2_ n3_ n4_; clear hb hbox hg; obtain ⟨Ao12, co12, eo12⟩ := Kd.V_slice HO733.out; subst eo12; have hcz13_0 : w11.cell? ⟨gb736, 0, none⟩ = some (.slice none 0 0) := (blk_cell BK736.out 0).trans rfl; have hcz13_1 : w11.cell? ⟨gb736, 1, none⟩ = some (.int .i64 0) := (blk_cell BK736.out 1).trans rfl; have hfz13_0 := blk_frozen BK736.out 0; have hfz13_1 := blk_frozen BK736.out 1) | ((with_reducible refine gate_callee (f := 30) rfl ?_); refine goesL_ (some 20) rfl rfl Try.func30 (by kernel_rfl) rfl #[.agg #[.slice Ao12 t731.length co12, .int .i64 t734], .string t735] rfl (by (try simp only [List.map_toArray, List.map_cons, List.map_nil]); rfl) ?_; (with_reducible refine (impl_SketchBump.calls k _ _ t731 t734 t735 t737 t740 _ ?side1 ?side2 A6.out).mono ?_); (case side1 => refine (Kd.V_reads' (e := 58) (base := w.heap.size) (ok := fun k_ => (True ∧ k_ ≠ gb736)) (n := t731.length) (c := co12) ?_).2.2; exact (by (with_reducible repeat (first | apply Kd.V_alloc | apply Kd.V_drewN | apply Kd.V_drew )); exact (Kd.V_mono (Kd.V_far (p := ⟨gb736, 1, none⟩) (Kd.V_far (p := ⟨gb736, 0, none⟩) (Kd.V_mono HO733.out (fun k_ hk => (⟨hk, hk.2⟩ : _ ∧ k_ ≠ gb736))) (fun _ hk => hk.2) (.slice Ao12 t731.length co12)) (fun _ hk => hk.2) (.int .i64 t734)) (fun _ h_ => by exact h_.1)))); (case side2 => exact (Kd.V_reads' HO733.out).2.1); rintro e w14 ⟨v738, rfl, ho0, hb⟩; refine ⟨_, rfl, ?_⟩; have n0_ := Aside0.mk (Kd.V_elder' (by (with_reducible repeat (first | apply Kd.V_alloc | apply Kd.V_drewN | apply Kd.V_drew )); exact (Kd.V_mono (Kd.V_far (p := ⟨gb736, 1, none⟩) (Kd.V_far (p := ⟨gb736, 0, none⟩) (Kd.V_mono HO733.out (fun k_ hk => (⟨hk, hk.2⟩ : _ ∧ k_ ≠ gb736))) (fun _ hk => hk.2) (.slice Ao12 t731.length co12)) (fun _ hk => hk.2) (.int .i64 t734)) (fun _ h_ => by exact h_.1))) (Kd.S_base ho0) hb); have n1_ := Aside0.mk (Kd.S_lower ho0 (below_size (by repeat ((with_reducible first | exact HB.out | refine below_set ?_ GE736.out))))); have n2_ := Aside0.mk (blk_below (g := gb736) (o := .cells #[.slice Ao12 t731.length co12, .int .i64 t734] 26 (0, 0)) (by (with_reducible repeat (first | refine blk_drewN ?_ _ | refine blk_drew ?_ | refine blk_alloc ?_ _ )); refine blk_put (cs := #[.slice Ao12 t731.length co12, .int .i64 0]) ?_ 1 _ rfl; (with_reducible repeat (first | refine blk_drewN ?_ _ | refine blk_drew ?_ | refine blk_alloc ?_ _ )); refine blk_put (cs := #[.slice none 0 0, .int .i64 0]) ?_ 0 _ rfl; (with_reducible repeat (first | refine blk_drewN ?_ _ | refine blk_drew ?_ | refine blk_alloc ?_ _ )); exact BK736.out) hb); have n3_ := Aside0.mk (below_step (by repeat ((with_reducible first | exact HB.out | refine below_set ?_ GE736.out))) hb); clear HO733; clear BK736; clear HB; have HO733 := n0_; have HO739 := n1_; have BK736 := n2_; have HB := n3_; clear n0_ n1_ n2_ n3_; (try clear hb); (try clear hb2); (try clear hk); (try clear hi); (try clear ho0)) | ((with_reducible refine gate_dst (N := 5) rfl ?_); refine box_event ?hg (N := 5) ?hd (cs := #[.slice none 0 0, .int .i64 0]) (t := 26) ?hr ?_; (case hd => rfl); (case hg => rfl); (case hr => (go_simp; done)); intro gb741 hg w15 hbox hb; have n0_ := Aside0.mk (Kd.V_below (Kd.V_elderB (by (with_reducible repeat (first | apply Kd.V_alloc | apply Kd.V_drewN | apply Kd.V_drew )); exact HO733.out) gb741 (Nat.le_of_eq hg.symm)) hb); have n1_ := Aside0.mk (Kd.S_below (by (with_reducible repeat (first | apply Kd.S_alloc | apply Kd.S_drewN | apply Kd.S_drew )); exact HO739.out) hb); have n2_ := Aside0.mk (blk_below (g := gb736) (o := .cells #[.slice Ao12 t731.length co12, .int .i64 t734] 26 (0, 0)) (by (with_reducible repeat (first | refine blk_drewN ?_ _ | refine blk_drew ?_ | refine blk_alloc ?_ _ )); exact BK736.out) hb); have n3_ := Aside0.mk (below_step (by repeat ((with_reducible exact HB.out))) hb); have n4_ := Aside0.mk (hbox); have n5_ := Aside0.mk ((by rw [hg]; exact (below_size (by repeat ((with_reducible exact HB.out)))) : w.heap.size ≤ gb741)); have n6_ := Aside0.mk ((by rw [hg]; exact (below_size (by repeat ((with_reducible exact HB.out)))) : w.heap.size ≤ gb741)); have n7_ := Aside0.mk ((by rw [hg]; exact Nat.ne_of_lt (blk_lt (g := gb736) (o := .cells #[.slice Ao12 t731.length co12, .int .i64 t734] 26 (0, 0)) (by (with_reducible repeat (first | refine blk_drewN ?_ _ | refine blk_drew ?_ | refine blk_alloc ?_ _ )); exact BK736.out)) : gb736 ≠ gb741)); have n8_ := Aside0.mk ((by rw [hg]; exact Nat.ne_of_gt (blk_lt (g := gb736) (o := .cells #[.slice Ao12 t731.length co12, .int .i64 t734] 26 (0, 0)) (by (with_reducible repeat (first | refine blk_drewN ?_ _ | refine blk_drew ?_ | refine blk_alloc ?_ _ )); exact BK736.out)) : gb741 ≠ gb736)); clear HO733; clear HO739; clear BK736; clear HB; have HO733 := n0_; have HO739 := n1_; have BK736 := n2_; have HB := n3_; have BK741 := n4_; have GW741 := n5_; have GE741 := n6_; have NB736_741 := n7_; have NB741_736 := n8_; clear n0_ n1_ n2_ n3_ n4_ n5_ n6_ n7_ n8_; clear hb hbox hg; obtain ⟨Ao16, co16, eo16⟩ := Kd.S_slice HO739.out; subst eo16; have hnb17 := NB741_736.out; have hnc17 := NB736_741.out; have hcz18_0 : w15.cell? ⟨gb741, 0, none⟩ = some (.slice none 0 0) := (blk_cell BK741.out 0).trans rfl; have hcz18_1 : w15.cell? ⟨gb741, 1, none⟩ = some (.int .i64 0) := (blk_cell BK741.out 1).trans rfl; have hfz18_0 := blk_frozen BK741.out 0; have hfz18_1 := blk_frozen BK741.out 1; have hcz19_0 : w15.cell? ⟨gb736, 0, none⟩ = some (.slice Ao12 t731.length co12) := (blk_cell BK736.out 0).trans rfl; have hcz19_1 : w15.cell? ⟨gb736, 1, none⟩ = some (.int .i64 t734) := (blk_cell BK736.out 1).trans rfl; have hfz19_0 := blk_frozen BK736.out 0; have hfz19_1 := blk_frozen BK736.out 1) | ((with_reducible refine gate_callee (f := 44) rfl ?_); refine goesL_ (some 23) rfl rfl Try.func44 (by kernel_rfl) rfl #[.agg #[.slice Ao12 t731.length co12, .int .i64 t734], .string t735] rfl (by (try simp only [List.map_toArray, List.map_cons, List.map_nil]); rfl) ?_; (with_reducible refine (spec_SketchBump.calls k _ _ t731 t734 t735 t742 t745 _ ?side1 ?side2 A7.out).mono ?_); (case side1 => refine (Kd.V_reads' (e := 58) (base := w.heap.size) (ok := fun k_ => (((True ∧ k_ ≠ gb736) ∧ some k_ ≠ (.slice Ao16 t737.length co16 : Value).ownBlock) ∧ k_ ≠ gb741)) (n := t731.length) (c := co12) ?_).2.2; exact (by (with_reducible repeat (first | apply Kd.V_alloc | apply Kd.V_drewN | apply Kd.V_drew )); exact (Kd.V_mono (Kd.V_far (p := ⟨gb741, 1, none⟩) (Kd.V_far (p := ⟨gb741, 0, none⟩) (Kd.V_mono HO733.out (fun k_ hk => (⟨hk, hk.2⟩ : _ ∧ k_ ≠ gb741))) (fun _ hk => hk.2) (.slice Ao16 t737.length co16)) (fun _ hk => hk.2) (.int .i64 t740)) (fun _ h_ => by exact h_.1)))); (case side2 => exact (Kd.V_reads' HO733.out).2.1); rintro e w20 ⟨v743, rfl, ho0, hb⟩; refine ⟨_, rfl, ?_⟩; have n0_ := Aside0.mk (Kd.V_elder' (by (with_reducible repeat (first | apply Kd.V_alloc | apply Kd.V_drewN | apply Kd.V_drew )); exact (Kd.V_mono (Kd.V_far (p := ⟨gb741, 1, none⟩) (Kd.V_far (p := ⟨gb741, 0, none⟩) (Kd.V_mono HO733.out (fun k_ hk => (⟨hk, hk.2⟩ : _ ∧ k_ ≠ gb741))) (fun _ hk => hk.2) (.slice Ao16 t737.length co16)) (fun _ hk => hk.2) (.int .i64 t740)) (fun _ h_ => by exact h_.1))) (Kd.S_base ho0) hb); have n1_ := Aside0.mk (Kd.S_elder' (by (with_reducible repeat (first | apply Kd.S_alloc | apply Kd.S_drewN | apply Kd.S_drew )); exact (Kd.S_mono (Kd.S_far (p := ⟨gb741, 1, none⟩) (Kd.S_far (p := ⟨gb741, 0, none⟩) (Kd.S_types HO739.out BK741.out (by decide)) (fun _ hk => hk.2) (.slice Ao16 t737.length co16)) (fun _ hk => hk.2) (.int .i64 t740)) (fun _ h_ => by exact h_.1))) (Kd.S_base ho0) hb); have n2_ := Aside0.mk (Kd.S_lower (Kd.S_new' ho0 (Kd.S_lt (by (with_reducible repeat (first | apply Kd.S_alloc | apply Kd.S_drewN | apply Kd.S_drew )); exact (Kd.S_mono (Kd.S_far (p := ⟨gb741, 1, none⟩) (Kd.S_far (p := ⟨gb741, 0, none⟩) (Kd.S_types HO739.out BK741.out (by decide)) (fun _ hk => hk.2) (.slice Ao16 t737.length co16)) (fun _ hk => hk.2) (.int .i64 t740)) (fun _ h_ => by exact h_.1))))) (below_size (by repeat ((with_reducible first | exact HB.out | refine below_set ?_ GE741.out))))); have n3_ := Aside0.mk (blk_below (g := gb736) (o := .cells #[.slice Ao12 t731.length co12, .int .i64 t734] 26 (0, 0)) (by (with_reducible repeat (first | refine blk_drewN ?_ _ | refine blk_drew ?_ | refine blk_alloc ?_ _ )); refine blk_far ?_ NB736_741.out _; (with_reducible repeat (first | refine blk_drewN ?_ _ | refine blk_drew ?_ | refine blk_alloc ?_ _ )); refine blk_far ?_ NB736_741.out _; (with_reducible repeat (first | refine blk_drewN ?_ _ | refine blk_drew ?_ | refine blk_alloc ?_ _ )); exact BK736.out) hb); have n4_ := Aside0.mk (blk_below (g := gb741) (o := .cells #[.slice Ao16 t737.length co16, .int .i64 t740] 26 (0, 0)) (by (with_reducible repeat (first | refine blk_drewN ?_ _ | refine blk_drew ?_ | refine blk_alloc ?_ _ )); refine blk_put (cs := #[.slice Ao16 t737.length co16, .int .i64 0]) ?_ 1 _ rfl; (with_reducible repeat (first | refine blk_drewN ?_ _ | refine blk_drew ?_ | refine blk_alloc ?_ _ )); refine blk_put (cs := #[.slice none 0 0, .int .i64 0]) ?_ 0 _ rfl; (with_reducible repeat (first | refine blk_drewN ?_ _ | refine blk_drew ?_ | refine blk_alloc ?_ _ )); exact BK741.out) hb); have n5_ := Aside0.mk (below_step (by repeat ((with_reducible first | exact HB.out | refine below_set ?_ GE741.out))) hb); clear HO733; clear HO739; clear BK736; clear BK741; clear HB; have HO733 := n0_; have HO739 := n1_; have HO744 := n2_; have BK736 := n3_; have BK741 := n4_; have HB := n5_; clear n0_ n1_ n2_ n3_ n4_ n5_; (try clear hb); (try clear hb2); (try clear hk); (try clear hi); (try clear ho0)) | ((with_reducible refine gate_dst (N := 6) rfl ?_); refine box_event ?hg (N := 6) ?hd (cs := #[.slice none 0 0, .int .i64 0]) (t := 26) ?hr ?_; (case hd => rfl); (case hg => rfl); (case hr => (go_simp; done)); intro gb746 hg w21 hbox hb; have n0_ := Aside0.mk (Kd.V_below (Kd.V_elderB (by (with_reducible repeat (first | apply Kd.V_alloc | apply Kd.V_drewN | apply Kd.V_drew )); exact HO733.out) gb746 (Nat.le_of_eq hg.symm)) hb); have n1_ := Aside0.mk (Kd.S_below (by (with_reducible repeat (first | apply Kd.S_alloc | apply Kd.S_drewN | apply Kd.S_drew )); exact HO739.out) hb); have n2_ := Aside0.mk (Kd.S_below (by (with_reducible repeat (first | apply Kd.S_alloc | apply Kd.S_drewN | apply Kd.S_drew )); exact HO744.out) hb); have n3_ := Aside0.mk (blk_below (g := gb736) (o := .cells #[.slice Ao12 t731.length co12, .int .i64 t734] 26 (0, 0)) (by (with_reducible repeat (first | refine blk_drewN ?_ _ | refine blk_drew ?_ | refine blk_alloc ?_ _ )); exact BK736.out) hb); have n4_ := Aside0.mk (blk_below (g := gb741) (o := .cells #[.slice Ao16 t737.length co16, .int .i64 t740] 26 (0, 0)) (by (with_reducible repeat (first | refine blk_drewN ?_ _ | refine blk_drew ?_ | refine blk_alloc ?_ _ )); exact BK741.out) hb); have n5_ := Aside0.mk (below_step (by repeat ((with_reducible exact HB.out))) hb); have n6_ := Aside0.mk (hbox); have n7_ := Aside0.mk ((by rw [hg]; exact (below_size (by repeat ((with_reducible exact HB.out)))) : w.heap.size ≤ gb746)); have n8_ := Aside0.mk ((by rw [hg]; exact (below_size (by repeat ((with_reducible exact HB.out)))) : w.heap.size ≤ gb746)); have n9_ := Aside0.mk ((by rw [hg]; exact Nat.ne_of_lt (blk_lt (g := gb736) (o := .cells #[.slice Ao12 t731.length co12, .int .i64 t734] 26 (0, 0)) (by (with_reducible repeat (first | refine blk_drewN ?_ _ | refine blk_drew ?_ | refine blk_alloc ?_ _ )); exact BK736.out)) : gb736 ≠ gb746)); have n10_ := Aside0.mk ((by rw [hg]; exact Nat.ne_of_gt (blk_lt (g := gb736) (o := .cells #[.slice Ao12 t731.length co12, .int .i64 t734] 26 (0, 0)) (by (with_reducible repeat (first | refine blk_drewN ?_ _ | refine blk_drew ?_ | refine blk_alloc ?_ _ )); exact BK736.out)) : gb746 ≠ gb736)); have n11_ := Aside0.mk ((by rw [hg]; exact Nat.ne_of_lt (blk_lt (g := gb741) (o := .cells #[.slice Ao16 t737.length co16, .int .i64 t740] 26 (0, 0)) (by (with_reducible repeat (first | refine blk_drewN ?_ _ | refine blk_drew ?_ | refine blk_alloc ?_ _ )); exact BK741.out)) : gb741 ≠ gb746)); have n12_ := Aside0.mk ((by rw [hg]; exact Nat.ne_of_gt (blk_lt (g := gb741) (o := .cells #[.slice Ao16 t737.length co16, .int .i64 t740] 26 (0, 0)) (by (with_reducible repeat (first | refine blk_drewN ?_ _ | refine blk_drew ?_ | refine blk_alloc ?_ _ )); exact BK741.out)) : gb746 ≠ gb741)); clear HO733; clear HO739; clear HO744; clear BK736; clear BK741; clear HB; have HO733 := n0_; have HO739 := n1_; have HO744 := n2_; have BK736 := n3_; have BK741 := n4_; have HB := n5_; have BK746 := n6_; have GW746 := n7_; have GE746 := n8_; have NB736_746 := n9_; have NB746_736 := n10_; have NB741_746 := n11_; have NB746_741 := n12_; clear n0_ n1_ n2_ n3_ n4_ n5_ n6_ n7_ n8_ n9_ n10_ n11_ n12_; clear hb hbox hg; obtain ⟨Ao22, co22, eo22⟩ := Kd.S_slice HO744.out; subst eo22; have hnb23 := NB746_736.out; have hnc23 := NB736_746.out; have hnb24 := NB746_741.out; have hnc24 := NB741_746.out; have hcz25_0 : w21.cell? ⟨gb746, 0, none⟩ = some (.slice none 0 0) := (blk_cell BK746.out 0).trans rfl; have hcz25_1 : w21.cell? ⟨gb746, 1, none⟩ = some (.int .i64 0) := (blk_cell BK746.out 1).trans rfl; have hfz25_0 := blk_frozen BK746.out 0; have hfz25_1 := blk_frozen BK746.out 1) | ((with_reducible refine gate_callee (f := 49) rfl ?_); refine goesL_ (some 26) rfl rfl Try.func49 (by kernel_rfl) rfl #[.slice A0 l0.length c0] rfl (by (try simp only [List.map_toArray, List.map_cons, List.map_nil]); rfl) ?_; (with_reducible refine (spec_DrawSketchPlace.calls k _ _ l0 t747 t748 _ ?side1 ?side2 A8.out).mono ?_); (case side1 => exact Kd.C_below HR0.out (by repeat ((with_reducible first | exact HB.out | refine below_set ?_ GE746.out)))); (case side2 => exact HC0.out); rintro e w26 ⟨rfl, hb⟩; refine ⟨_, rfl, ?_⟩; have n0_ := Aside0.mk (Kd.V_below (by (with_reducible repeat (first | apply Kd.V_alloc | apply Kd.V_drewN | apply Kd.V_drew )); exact (Kd.V_mono (Kd.V_far (p := ⟨gb746, 1, none⟩) (Kd.V_far (p := ⟨gb746, 0, none⟩) (Kd.V_mono HO733.out (fun k_ hk => (⟨hk, hk.2⟩ : _ ∧ k_ ≠ gb746))) (fun _ hk => hk.2) (.slice Ao22 t742.length co22)) (fun _ hk => hk.2) (.int .i64 t745)) (fun _ h_ => by exact h_.1))) hb); have n1_ := Aside0.mk (Kd.S_below (by (with_reducible repeat (first | apply Kd.S_alloc | apply Kd.S_drewN | apply Kd.S_drew )); exact (Kd.S_mono (Kd.S_far (p := ⟨gb746, 1, none⟩) (Kd.S_far (p := ⟨gb746, 0, none⟩) (Kd.S_types HO739.out BK746.out (by decide)) (fun _ hk => hk.2) (.slice Ao22 t742.length co22)) (fun _ hk => hk.2) (.int .i64 t745)) (fun _ h_ => by exact h_.1))) hb); have n2_ := Aside0.mk (Kd.S_below (by (with_reducible repeat (first | apply Kd.S_alloc | apply Kd.S_drewN | apply Kd.S_drew )); exact (Kd.S_mono (Kd.S_far (p := ⟨gb746, 1, none⟩) (Kd.S_far (p := ⟨gb746, 0, none⟩) (Kd.S_types HO744.out BK746.out (by decide)) (fun _ hk => hk.2) (.slice Ao22 t742.length co22)) (fun _ hk => hk.2) (.int .i64 t745)) (fun _ h_ => by exact h_.1))) hb); have n3_ := Aside0.mk (blk_below (g := gb736) (o := .cells #[.slice Ao12 t731.length co12, .int .i64 t734] 26 (0, 0)) (by (with_reducible repeat (first | refine blk_drewN ?_ _ | refine blk_drew ?_ | refine blk_alloc ?_ _ )); refine blk_far ?_ NB736_746.out _; (with_reducible repeat (first | refine blk_drewN ?_ _ | refine blk_drew ?_ | refine blk_alloc ?_ _ )); refine blk_far ?_ NB736_746.out _; (with_reducible repeat (first | refine blk_drewN ?_ _ | refine blk_drew ?_ | refine blk_alloc ?_ _ )); exact BK736.out) hb); have n4_ := Aside0.mk (blk_below (g := gb741) (o := .cells #[.slice Ao16 t737.length co16, .int .i64 t740] 26 (0, 0)) (by (with_reducible repeat (first | refine blk_drewN ?_ _ | refine blk_drew ?_ | refine blk_alloc ?_ _ )); refine blk_far ?_ NB741_746.out _; (with_reducible repeat (first | refine blk_drewN ?_ _ | refine blk_drew ?_ | refine blk_alloc ?_ _ )); refine blk_far ?_ NB741_746.out _; (with_reducible repeat (first | refine blk_drewN ?_ _ | refine blk_drew ?_ | refine blk_alloc ?_ _ )); exact BK741.out) hb); have n5_ := Aside0.mk (blk_below (g := gb746) (o := .cells #[.slice Ao22 t742.length co22, .int .i64 t745] 26 (0, 0)) (by (with_reducible repeat (first | refine blk_drewN ?_ _ | refine blk_drew ?_ | refine blk_alloc ?_ _ )); refine blk_put (cs := #[.slice Ao22 t742.length co22, .int .i64 0]) ?_ 1 _ rfl; (with_reducible repeat (first | refine blk_drewN ?_ _ | refine blk_drew ?_ | refine blk_alloc ?_ _ )); refine blk_put (cs := #[.slice none 0 0, .int .i64 0]) ?_ 0 _ rfl; (with_reducible repeat (first | refine blk_drewN ?_ _ | refine blk_drew ?_ | refine blk_alloc ?_ _ )); exact BK746.out) hb); have n6_ := Aside0.mk (below_step (by repeat ((with_reducible first | exact HB.out | refine below_set ?_ GE746.out))) hb); clear HO733; clear HO739; clear HO744; clear BK736; clear BK741; clear BK746; clear HB; have HO733 := n0_; have HO739 := n1_; have HO744 := n2_; have BK736 := n3_; have BK741 := n4_; have BK746 := n5_; have HB := n6_; clear n0_ n1_ n2_ n3_ n4_ n5_ n6_; (try clear hb); (try clear hb2); (try clear hk); (try clear hi)) | ((with_reducible refine gate_callee (f := 50) rfl ?_); refine goesL_ (some 30) rfl rfl Try.func50 (by kernel_rfl) rfl #[.slice A0 l0.length c0] rfl (by (try simp only [List.map_toArray, List.map_cons, List.map_nil]); rfl) ?_; (with_reducible refine (spec_DrawSketch.calls k _ _ l0 t749 t752 _ ?side1 ?side2 A9.out).mono ?_); (case side1 => repeat (exact (Kd.C_below HR0.out HB.out))); (case side2 => exact HC0.out); rintro e w27 ⟨v750, rfl, ho0, hb⟩; refine ⟨_, rfl, ?_⟩; have n0_ := Aside0.mk (Kd.V_elder' (by (with_reducible repeat (first | apply Kd.V_alloc | apply Kd.V_drewN | apply Kd.V_drew )); exact HO733.out) (Kd.S_base ho0) hb); have n1_ := Aside0.mk (Kd.S_elder' (by (with_reducible repeat (first | apply Kd.S_alloc | apply Kd.S_drewN | apply Kd.S_drew )); exact HO739.out) (Kd.S_base ho0) hb); have n2_ := Aside0.mk (Kd.S_elder' (by (with_reducible repeat (first | apply Kd.S_alloc | apply Kd.S_drewN | apply Kd.S_drew )); exact HO744.out) (Kd.S_base ho0) hb); have n3_ := Aside0.mk (Kd.S_lower (Kd.S_new' (Kd.S_new' ho0 (Kd.S_lt (by (with_reducible repeat (first | apply Kd.S_alloc | apply Kd.S_drewN | apply Kd.S_drew )); exact HO739.out))) (Kd.S_lt (by (with_reducible repeat (first | apply Kd.S_alloc | apply Kd.S_drewN | apply Kd.S_drew )); exact HO744.out))) (below_size (by repeat ((with_reducible exact HB.out))))); have n4_ := Aside0.mk (blk_below (g := gb736) (o := .cells #[.slice Ao12 t731.length co12, .int .i64 t734] 26 (0, 0)) (by (with_reducible repeat (first | refine blk_drewN ?_ _ | refine blk_drew ?_ | refine blk_alloc ?_ _ )); exact BK736.out) hb); have n5_ := Aside0.mk (blk_below (g := gb741) (o := .cells #[.slice Ao16 t737.length co16, .int .i64 t740] 26 (0, 0)) (by (with_reducible repeat (first | refine blk_drewN ?_ _ | refine blk_drew ?_ | refine blk_alloc ?_ _ )); exact BK741.out) hb); have n6_ := Aside0.mk (blk_below (g := gb746) (o := .cells #[.slice Ao22 t742.length co22, .int .i64 t745] 26 (0, 0)) (by (with_reducible repeat (first | refine blk_drewN ?_ _ | refine blk_drew ?_ | refine blk_alloc ?_ _ )); exact BK746.out) hb); have n7_ := Aside0.mk (below_step (by repeat ((with_reducible exact HB.out))) hb); clear HO733; clear HO739; clear HO744; clear BK736; clear BK741; clear BK746; clear HB; have HO733 := n0_; have HO739 := n1_; have HO744 := n2_; have HO751 := n3_; have BK736 := n4_; have BK741 := n5_; have BK746 := n6_; have HB := n7_; clear n0_ n1_ n2_ n3_ n4_ n5_ n6_ n7_; (try clear hb); (try clear hb2); (try clear hk); (try clear hi); (try clear ho0)) | ((with_reducible refine gate_dst (N := 9) rfl ?_); refine box_event ?hg (N := 9) ?hd (cs := #[.slice none 0 0, .int .i64 0]) (t := 26) ?hr ?_; (case hd => rfl); (case hg => rfl); (case hr => (go_simp; done)); intro gb753 hg w28 hbox hb; have n0_ := Aside0.mk (Kd.V_below (Kd.V_elderB (by (with_reducible repeat (first | apply Kd.V_alloc | apply Kd.V_drewN | apply Kd.V_drew )); exact HO733.out) gb753 (Nat.le_of_eq hg.symm)) hb); have n1_ := Aside0.mk (Kd.S_below (by (with_reducible repeat (first | apply Kd.S_alloc | apply Kd.S_drewN | apply Kd.S_drew )); exact HO739.out) hb); have n2_ := Aside0.mk (Kd.S_below (by (with_reducible repeat (first | apply Kd.S_alloc | apply Kd.S_drewN | apply Kd.S_drew )); exact HO744.out) hb); have n3_ := Aside0.mk (Kd.S_below (by (with_reducible repeat (first | apply Kd.S_alloc | apply Kd.S_drewN | apply Kd.S_drew )); exact HO751.out) hb); have n4_ := Aside0.mk (blk_below (g := gb736) (o := .cells #[.slice Ao12 t731.length co12, .int .i64 t734] 26 (0, 0)) (by (with_reducible repeat (first | refine blk_drewN ?_ _ | refine blk_drew ?_ | refine blk_alloc ?_ _ )); exact BK736.out) hb); have n5_ := Aside0.mk (blk_below (g := gb741) (o := .cells #[.slice Ao16 t737.length co16, .int .i64 t740] 26 (0, 0)) (by (with_reducible repeat (first | refine blk_drewN ?_ _ | refine blk_drew ?_ | refine blk_alloc ?_ _ )); exact BK741.out) hb); have n6_ := Aside0.mk (blk_below (g := gb746) (o := .cells #[.slice Ao22 t742.length co22, .int .i64 t745] 26 (0, 0)) (by (with_reducible repeat (first | refine blk_drewN ?_ _ | refine blk_drew ?_ | refine blk_alloc ?_ _ )); exact BK746.out) hb); have n7_ := Aside0.mk (below_step (by repeat ((with_reducible exact HB.out))) hb); have n8_ := Aside0.mk (hbox); have n9_ := Aside0.mk ((by rw [hg]; exact (below_size (by repeat ((with_reducible exact HB.out)))) : w.heap.size ≤ gb753)); have n10_ := Aside0.mk ((by rw [hg]; exact (below_size (by repeat ((with_reducible exact HB.out)))) : w.heap.size ≤ gb753)); have n11_ := Aside0.mk ((by rw [hg]; exact Nat.ne_of_lt (blk_lt (g := gb736) (o := .cells #[.slice Ao12 t731.length co12, .int .i64 t734] 26 (0, 0)) (by (with_reducible repeat (first | refine blk_drewN ?_ _ | refine blk_drew ?_ | refine blk_alloc ?_ _ )); exact BK736.out)) : gb736 ≠ gb753)); have n12_ := Aside0.mk ((by rw [hg]; exact Nat.ne_of_gt (blk_lt (g := gb736) (o := .cells #[.slice Ao12 t731.length co12, .int .i64 t734] 26 (0, 0)) (by (with_reducible repeat (first | refine blk_drewN ?_ _ | refine blk_drew ?_ | refine blk_alloc ?_ _ )); exact BK736.out)) : gb753 ≠ gb736)); have n13_ := Aside0.mk ((by rw [hg]; exact Nat.ne_of_lt (blk_lt (g := gb741) (o := .cells #[.slice Ao16 t737.length co16, .int .i64 t740] 26 (0, 0)) (by (with_reducible repeat (first | refine blk_drewN ?_ _ | refine blk_drew ?_ | refine blk_alloc ?_ _ )); exact BK741.out)) : gb741 ≠ gb753)); have n14_ := Aside0.mk ((by rw [hg]; exact Nat.ne_of_gt (blk_lt (g := gb741) (o := .cells #[.slice Ao16 t737.length co16, .int .i64 t740] 26 (0, 0)) (by (with_reducible repeat (first | refine blk_drewN ?_ _ | refine blk_drew ?_ | refine blk_alloc ?_ _ )); exact BK741.out)) : gb753 ≠ gb741)); have n15_ := Aside0.mk ((by rw [hg]; exact Nat.ne_of_lt (blk_lt (g := gb746) (o := .cells #[.slice Ao22 t742.length co22, .int .i64 t745] 26 (0, 0)) (by (with_reducible repeat (first | refine blk_drewN ?_ _ | refine blk_drew ?_ | refine blk_alloc ?_ _ )); exact BK746.out)) : gb746 ≠ gb753)); have n16_ := Aside0.mk ((by rw [hg]; exact Nat.ne_of_gt (blk_lt (g := gb746) (o := .cells #[.slice Ao22 t742.length co22, .int .i64 t745] 26 (0, 0)) (by (with_reducible repeat (first | refine blk_drewN ?_ _ | refine blk_drew ?_ | refine blk_alloc ?_ _ )); exact BK746.out)) : gb753 ≠ gb746)); clear HO733; clear HO739; clear HO744; clear HO751; clear BK736; clear BK741; clear BK746; clear HB; have HO733 := n0_; have HO739 := n1_; have HO744 := n2_; have HO751 := n3_; have BK736 := n4_; have BK741 := n5_; have BK746 := n6_; have HB := n7_; have BK753 := n8_; have GW753 := n9_; have GE753 := n10_; have NB736_753 := n11_; have NB753_736 := n12_; have NB741_753 := n13_; have NB753_741 := n14_; have NB746_753 := n15_; have NB753_746 := n16_; clear n0_ n1_ n2_ n3_ n4_ n5_ n6_ n7_ n8_ n9_ n10_ n11_ n12_ n13_ n14_ n15_ n16_; clear hb hbox hg; obtain ⟨Ao29, co29, eo29⟩ := Kd.S_slice HO751.out; subst eo29; have hnb30 := NB753_736.out; have hnc30 := NB736_753.out; have hnb31 := NB753_741.out; have hnc31 := NB741_753.out; have hnb32 := NB753_746.out; have hnc32 := NB746_753.out; have hcz33_0 : w28.cell? ⟨gb753, 0, none⟩ = some (.slice none 0 0) := (blk_cell BK753.out 0).trans rfl; have hcz33_1 : w28.cell? ⟨gb753, 1, none⟩ = some (.int .i64 0) := (blk_cell BK753.out 1).trans rfl; have hfz33_0 := blk_frozen BK753.out 0; have hfz33_1 := blk_frozen BK753.out 1))
    go_loopg [10] k (fun kq v10 w' => ∃ (x10_1 : Int) (x754000_1 : List (List Int)) (x754001_1 : Int) (u754000 : Value), v10 = .int .i64 x10_1 ∧ Aside0 (laws_FnSketches.l0 kq t735 t747 t748 x10_1 t731 t734 t737 t740 t742 t745 x754000_1 x754001_1 = some r) ∧ Aside0 (kq ≤ k) ∧ Aside0 (Kd.V (Kd.slice 3 (Kd.int .i64)) 58 w' w.heap.size (fun k_ => some k_ ≠ ((.slice Ao16 t737.length co16) : Value).ownBlock ∧ some k_ ≠ ((.slice Ao22 t742.length co22) : Value).ownBlock ∧ some k_ ≠ (u754000 : Value).ownBlock ∧ k_ ≠ gb736 ∧ k_ ≠ gb741 ∧ k_ ≠ gb746 ∧ k_ ≠ gb753) (.slice Ao12 t731.length co12) t731) ∧ Aside0 (Kd.S (Kd.slice 3 (Kd.int .i64)) 58 w' w.heap.size (fun k_ => some k_ ≠ ((.slice Ao22 t742.length co22) : Value).ownBlock ∧ some k_ ≠ (u754000 : Value).ownBlock) (.slice Ao16 t737.length co16) t737) ∧ Aside0 (Kd.S (Kd.slice 3 (Kd.int .i64)) 58 w' w.heap.size (fun k_ => some k_ ≠ ((.slice Ao16 t737.length co16) : Value).ownBlock ∧ some k_ ≠ (u754000 : Value).ownBlock) (.slice Ao22 t742.length co22) t742) ∧ Aside0 (Kd.S (Kd.slice 3 (Kd.int .i64)) 58 w' w.heap.size (fun k_ => some k_ ≠ ((.slice Ao16 t737.length co16) : Value).ownBlock ∧ some k_ ≠ ((.slice Ao22 t742.length co22) : Value).ownBlock) u754000 x754000_1) ∧ Aside0 (w'.heap[gb736]? = some (.cells #[(.slice Ao12 t731.length co12), .int .i64 t734] 26 (0, 0))) ∧ Aside0 (w'.heap[gb741]? = some (.cells #[(.slice Ao16 t737.length co16), .int .i64 t740] 26 (0, 0))) ∧ Aside0 (w'.heap[gb746]? = some (.cells #[(.slice Ao22 t742.length co22), .int .i64 t745] 26 (0, 0))) ∧ Aside0 (w'.heap[gb753]? = some (.cells #[u754000, .int .i64 x754001_1] 26 (0, 0))) ∧ Aside0 (Below w.heap.size w w'))
    case atStart => exact ⟨(0), (t749), (t752), (.slice Ao29 t749.length co29), (by rfl), H', ⟨Nat.le_refl _⟩, ⟨by (with_reducible repeat (first | apply Kd.V_alloc | apply Kd.V_drewN | apply Kd.V_drew )); exact Kd.V_mono (Kd.V_far (p := ⟨gb753, 1, none⟩) (Kd.V_far (p := ⟨gb753, 0, none⟩) (Kd.V_mono HO733.out (fun k_ hk => (⟨hk, hk.2⟩ : _ ∧ k_ ≠ gb753))) (fun _ hk => hk.2) (.slice Ao29 t749.length co29)) (fun _ hk => hk.2) (.int .i64 t752)) (fun _ hk => ⟨hk.1.1.1.1.1.1.2, ⟨hk.1.1.1.1.2, ⟨hk.1.1.2, ⟨hk.1.1.1.1.1.1.1.2, ⟨hk.1.1.1.1.1.2, ⟨hk.1.1.1.2, hk.1.2⟩⟩⟩⟩⟩⟩)⟩, ⟨by (with_reducible repeat (first | apply Kd.S_alloc | apply Kd.S_drewN | apply Kd.S_drew )); exact Kd.S_mono (Kd.S_far (p := ⟨gb753, 1, none⟩) (Kd.S_far (p := ⟨gb753, 0, none⟩) (Kd.S_types HO739.out BK753.out (by decide)) (fun _ hk => hk.2) (.slice Ao29 t749.length co29)) (fun _ hk => hk.2) (.int .i64 t752)) (fun _ hk => ⟨hk.1.1.2, hk.1.2⟩)⟩, ⟨by (with_reducible repeat (first | apply Kd.S_alloc | apply Kd.S_drewN | apply Kd.S_drew )); exact Kd.S_mono (Kd.S_far (p := ⟨gb753, 1, none⟩) (Kd.S_far (p := ⟨gb753, 0, none⟩) (Kd.S_types HO744.out BK753.out (by decide)) (fun _ hk => hk.2) (.slice Ao29 t749.length co29)) (fun _ hk => hk.2) (.int .i64 t752)) (fun _ hk => ⟨hk.1.1.2, hk.1.2⟩)⟩, ⟨by (with_reducible repeat (first | apply Kd.S_alloc | apply Kd.S_drewN | apply Kd.S_drew )); exact Kd.S_mono (Kd.S_far (p := ⟨gb753, 1, none⟩) (Kd.S_far (p := ⟨gb753, 0, none⟩) (Kd.S_types HO751.out BK753.out (by decide)) (fun _ hk => hk.2) (.slice Ao29 t749.length co29)) (fun _ hk => hk.2) (.int .i64 t752)) (fun _ hk => ⟨hk.1.1.2, hk.1.2⟩)⟩, ⟨by (with_reducible repeat (first | refine blk_drewN ?_ _ | refine blk_drew ?_ | refine blk_alloc ?_ _ )); refine blk_far ?_ NB736_753.out _; (with_reducible repeat (first | refine blk_drewN ?_ _ | refine blk_drew ?_ | refine blk_alloc ?_ _ )); refine blk_far ?_ NB736_753.out _; (with_reducible repeat (first | refine blk_drewN ?_ _ | refine blk_drew ?_ | refine blk_alloc ?_ _ )); exact BK736.out⟩, ⟨by (with_reducible repeat (first | refine blk_drewN ?_ _ | refine blk_drew ?_ | refine blk_alloc ?_ _ )); refine blk_far ?_ NB741_753.out _; (with_reducible repeat (first | refine blk_drewN ?_ _ | refine blk_drew ?_ | refine blk_alloc ?_ _ )); refine blk_far ?_ NB741_753.out _; (with_reducible repeat (first | refine blk_drewN ?_ _ | refine blk_drew ?_ | refine blk_alloc ?_ _ )); exact BK741.out⟩, ⟨by (with_reducible repeat (first | refine blk_drewN ?_ _ | refine blk_drew ?_ | refine blk_alloc ?_ _ )); refine blk_far ?_ NB746_753.out _; (with_reducible repeat (first | refine blk_drewN ?_ _ | refine blk_drew ?_ | refine blk_alloc ?_ _ )); refine blk_far ?_ NB746_753.out _; (with_reducible repeat (first | refine blk_drewN ?_ _ | refine blk_drew ?_ | refine blk_alloc ?_ _ )); exact BK746.out⟩, ⟨by (with_reducible repeat (first | refine blk_drewN ?_ _ | refine blk_drew ?_ | refine blk_alloc ?_ _ )); refine blk_put (cs := #[.slice Ao29 t749.length co29, .int .i64 0]) ?_ 1 _ rfl; (with_reducible repeat (first | refine blk_drewN ?_ _ | refine blk_drew ?_ | refine blk_alloc ?_ _ )); refine blk_put (cs := #[.slice none 0 0, .int .i64 0]) ?_ 0 _ rfl; (with_reducible repeat (first | refine blk_drewN ?_ _ | refine blk_drew ?_ | refine blk_alloc ?_ _ )); exact BK753.out⟩, ⟨by repeat ((with_reducible first | exact HB.out | refine below_set ?_ GE753.out))⟩⟩
    case round =>
      clear H'
      clear hcz13_0
      clear hcz13_1
      clear hcz18_0
      clear hcz18_1
      clear hcz19_0
      clear hcz19_1
      clear hcz25_0
      clear hcz25_1
      clear hcz33_0
      clear hcz33_1
      clear hfz13_0
      clear hfz13_1
      clear hfz18_0
      clear hfz18_1
      clear hfz19_0
      clear hfz19_1
      clear hfz25_0
      clear hfz25_1
      clear hfz33_0
      clear hfz33_1
      obtain ⟨x10_1, x754000_1, x754001_1, u754000, rfl, HA, HK1, HO_737000, HO_742000, HO_747000, HO_754000, BK736, BK741, BK746, BK753, HB⟩ := hrel
      cases gk with
      | zero => exact absurd HA.out (by simp [laws_FnSketches.l0])
      | succ k1 =>
        have H := HA.out
        clear HA
        simp only [laws_FnSketches.l0] at H
        by_cases c34 : x10_1 < 64
        · rw [if_pos c34] at H
          have c34b0 : decide (x10_1 < 64) = true := decide_eq_true c34
          clear c34
          (skip)
          replace H := Option.bind_eq_some_iff.mp H
          obtain ⟨⟨t754, t757⟩, A350, H⟩ := H
          replace H : (if t757 = 0 then ((impl_SketchGuess.f k1 t754 t757 (⟨#[47, 97]⟩ : ByteArray)).bind fun t758 => (if t758 > 7 then (none) else (laws_FnSketches.l0 k1 t735 t747 t748 (wrap64 (x10_1 + 1)) t731 t734 t737 t740 t742 t745 t754 t757))) else (laws_FnSketches.l0 k1 t735 t747 t748 (wrap64 (x10_1 + 1)) t731 t734 t737 t740 t742 t745 t754 t757)) = some r := H
          have A35 := Aside0.mk A350
          clear A350
          have HS36 := Aside0.mk H
          clear H
          have hnb37 := NB753_736.out
          have hnc37 := NB736_753.out
          have hnb38 := NB753_741.out
          have hnc38 := NB741_753.out
          have hnb39 := NB753_746.out
          have hnc39 := NB746_753.out
          have hcz40_0 : wr.cell? ⟨gb753, 0, none⟩ = some (u754000) := (blk_cell BK753.out 0).trans rfl
          have hcz40_1 : wr.cell? ⟨gb753, 1, none⟩ = some (.int .i64 x754001_1) := (blk_cell BK753.out 1).trans rfl
          have hfz40_0 := blk_frozen BK753.out 0
          have hfz40_1 := blk_frozen BK753.out 1
          obtain ⟨Ao41, co41, eo41⟩ := Kd.S_slice HO_754000.out
          subst eo41
          go_upto_region 12 with (((with_reducible refine gate_callee (f := 30) rfl ?_); refine goesL_ (some 36) rfl rfl Try.func30 (by kernel_rfl) rfl #[.agg #[.slice Ao41 x754000_1.length co41, .int .i64 x754001_1], .string (⟨#[47, 97]⟩ : ByteArray)] rfl (by (try simp only [List.map_toArray, List.map_cons, List.map_nil]); rfl) ?_; (with_reducible refine (impl_SketchBump.calls k1 _ _ x754000_1 x754001_1 (⟨#[47, 97]⟩ : ByteArray) t754 t757 _ ?side1 ?side2 A35.out).mono ?_); (case side1 => repeat (exact (Kd.S_reads' HO_754000.out).2.2)); (case side2 => exact (Kd.S_reads' HO_754000.out).2.1); rintro e w42 ⟨v755, rfl, ho0, hb⟩; refine ⟨_, rfl, ?_⟩; have n0_ := Aside0.mk (Kd.V_elder' (by (with_reducible repeat (first | apply Kd.V_alloc | apply Kd.V_drewN | apply Kd.V_drew )); exact HO_737000.out) (Kd.S_base ho0) hb); have n1_ := Aside0.mk (Kd.S_elder' (by (with_reducible repeat (first | apply Kd.S_alloc | apply Kd.S_drewN | apply Kd.S_drew )); exact HO_742000.out) (Kd.S_base ho0) hb); have n2_ := Aside0.mk (Kd.S_elder' (by (with_reducible repeat (first | apply Kd.S_alloc | apply Kd.S_drewN | apply Kd.S_drew )); exact HO_747000.out) (Kd.S_base ho0) hb); have n3_ := Aside0.mk (Kd.S_elder' (by (with_reducible repeat (first | apply Kd.S_alloc | apply Kd.S_drewN | apply Kd.S_drew )); exact HO_754000.out) (Kd.S_base ho0) hb); have n4_ := Aside0.mk (Kd.S_lower (Kd.S_new' (Kd.S_new' (Kd.S_new' ho0 (Kd.S_lt (by (with_reducible repeat (first | apply Kd.S_alloc | apply Kd.S_drewN | apply Kd.S_drew )); exact HO_742000.out))) (Kd.S_lt (by (with_reducible repeat (first | apply Kd.S_alloc | apply Kd.S_drewN | apply Kd.S_drew )); exact HO_747000.out))) (Kd.S_lt (by (with_reducible repeat (first | apply Kd.S_alloc | apply Kd.S_drewN | apply Kd.S_drew )); exact HO_754000.out))) (below_size (by repeat ((with_reducible exact HB.out))))); have n5_ := Aside0.mk (blk_below (g := gb736) (o := .cells #[.slice Ao12 t731.length co12, .int .i64 t734] 26 (0, 0)) (by (with_reducible repeat (first | refine blk_drewN ?_ _ | refine blk_drew ?_ | refine blk_alloc ?_ _ )); exact BK736.out) hb); have n6_ := Aside0.mk (blk_below (g := gb741) (o := .cells #[.slice Ao16 t737.length co16, .int .i64 t740] 26 (0, 0)) (by (with_reducible repeat (first | refine blk_drewN ?_ _ | refine blk_drew ?_ | refine blk_alloc ?_ _ )); exact BK741.out) hb); have n7_ := Aside0.mk (blk_below (g := gb746) (o := .cells #[.slice Ao22 t742.length co22, .int .i64 t745] 26 (0, 0)) (by (with_reducible repeat (first | refine blk_drewN ?_ _ | refine blk_drew ?_ | refine blk_alloc ?_ _ )); exact BK746.out) hb); have n8_ := Aside0.mk (blk_below (g := gb753) (o := .cells #[.slice Ao41 x754000_1.length co41, .int .i64 x754001_1] 26 (0, 0)) (by (with_reducible repeat (first | refine blk_drewN ?_ _ | refine blk_drew ?_ | refine blk_alloc ?_ _ )); exact BK753.out) hb); have n9_ := Aside0.mk (below_step (by repeat ((with_reducible exact HB.out))) hb); clear HO_737000; clear HO_742000; clear HO_747000; clear HO_754000; clear BK736; clear BK741; clear BK746; clear BK753; clear HB; have HO_737000 := n0_; have HO_742000 := n1_; have HO_747000 := n2_; have HO_754000 := n3_; have HO756 := n4_; have BK736 := n5_; have BK741 := n6_; have BK746 := n7_; have BK753 := n8_; have HB := n9_; clear n0_ n1_ n2_ n3_ n4_ n5_ n6_ n7_ n8_ n9_; (try clear hb); (try clear hb2); (try clear hk); (try clear hi); (try clear ho0); obtain ⟨Ao43, co43, eo43⟩ := Kd.S_slice HO756.out; subst eo43; have hcz44_0 : w42.cell? ⟨gb753, 0, none⟩ = some (.slice Ao41 x754000_1.length co41) := (blk_cell BK753.out 0).trans rfl; have hcz44_1 : w42.cell? ⟨gb753, 1, none⟩ = some (.int .i64 x754001_1) := (blk_cell BK753.out 1).trans rfl; have hfz44_0 := blk_frozen BK753.out 0; have hfz44_1 := blk_frozen BK753.out 1))
          (try simp only [Act.put, List.setIfInBounds_toArray, List.set_cons_zero, List.set_cons_succ])
          have H := HS36.out
          clear HS36
          by_cases c45 : t757 = 0
          · rw [if_pos c45] at H
            have c45b0 : (t757 == 0) = true := beq_iff_eq.mpr c45
            have c45b1 : (t757 != 0) = false := bne_eq_false_iff_eq.mpr c45
            clear c45
            replace H := Option.bind_eq_some_iff.mp H
            obtain ⟨t758, A460, H⟩ := H
            replace H : (if t758 > 7 then (none) else (laws_FnSketches.l0 k1 t735 t747 t748 (wrap64 (x10_1 + 1)) t731 t734 t737 t740 t742 t745 t754 t757)) = some r := H
            have A46 := Aside0.mk A460
            clear A460
            by_cases c47 : t758 > 7
            · rw [if_pos c47] at H
              exact absurd H (by simp)
            · rw [if_neg c47] at H
              have c47b0 : decide (7 < t758) = false := decide_eq_false c47
              clear c47
              have H' := Aside0.mk H
              clear H
              have hnb48 := NB753_736.out
              have hnc48 := NB736_753.out
              have hnb49 := NB753_741.out
              have hnc49 := NB741_753.out
              have hnb50 := NB753_746.out
              have hnc50 := NB746_753.out
              have hcz51_0 : w42.cell? ⟨gb753, 0, none⟩ = some (.slice Ao41 x754000_1.length co41) := (blk_cell BK753.out 0).trans rfl
              have hcz51_1 : w42.cell? ⟨gb753, 1, none⟩ = some (.int .i64 x754001_1) := (blk_cell BK753.out 1).trans rfl
              have hfz51_0 := blk_frozen BK753.out 0
              have hfz51_1 := blk_frozen BK753.out 1
              go_wp2_with ((go_at_call 31; (with_reducible refine (impl_SketchGuess.calls k1 _ _ t754 t757 (⟨#[47, 97]⟩ : ByteArray) t758 _ ?side1 ?side2 A46.out).mono ?_); (case side1 => refine (Kd.S_reads' (e := 58) (base := w.heap.size) (ok := fun k_ => (((True ∧ some k_ ≠ (.slice Ao16 t737.length co16 : Value).ownBlock) ∧ some k_ ≠ (.slice Ao22 t742.length co22 : Value).ownBlock) ∧ some k_ ≠ (.slice Ao41 x754000_1.length co41 : Value).ownBlock)) (n := t754.length) (c := co43) ?_).2.2; exact (by (with_reducible repeat (first | apply Kd.S_alloc | apply Kd.S_drewN | apply Kd.S_drew )); exact (Kd.S_mono (Kd.S_far (p := ⟨gb753, 1, none⟩) (Kd.S_far (p := ⟨gb753, 0, none⟩) (Kd.S_types HO756.out BK753.out (by decide)) (fun _ hk => hk.2) (.slice Ao43 t754.length co43)) (fun _ hk => hk.2) (.int .i64 t757)) (fun _ h_ => by exact h_.1)))); (case side2 => exact (Kd.S_reads' HO756.out).2.1); rintro e w52 ⟨rfl, hb⟩; have n0_ := Aside0.mk (Kd.V_below (by (with_reducible repeat (first | apply Kd.V_alloc | apply Kd.V_drewN | apply Kd.V_drew )); exact (Kd.V_mono (Kd.V_far (p := ⟨gb753, 1, none⟩) (Kd.V_far (p := ⟨gb753, 0, none⟩) (Kd.V_mono HO_737000.out (fun k_ hk => (⟨hk, hk.1.2.2.2.2.2.2⟩ : _ ∧ k_ ≠ gb753))) (fun _ hk => hk.2) (.slice Ao43 t754.length co43)) (fun _ hk => hk.2) (.int .i64 t757)) (fun _ h_ => by exact h_.1))) hb); have n1_ := Aside0.mk (Kd.S_below (by (with_reducible repeat (first | apply Kd.S_alloc | apply Kd.S_drewN | apply Kd.S_drew )); exact (Kd.S_mono (Kd.S_far (p := ⟨gb753, 1, none⟩) (Kd.S_far (p := ⟨gb753, 0, none⟩) (Kd.S_types HO_742000.out BK753.out (by decide)) (fun _ hk => hk.2) (.slice Ao43 t754.length co43)) (fun _ hk => hk.2) (.int .i64 t757)) (fun _ h_ => by exact h_.1))) hb); have n2_ := Aside0.mk (Kd.S_below (by (with_reducible repeat (first | apply Kd.S_alloc | apply Kd.S_drewN | apply Kd.S_drew )); exact (Kd.S_mono (Kd.S_far (p := ⟨gb753, 1, none⟩) (Kd.S_far (p := ⟨gb753, 0, none⟩) (Kd.S_types HO_747000.out BK753.out (by decide)) (fun _ hk => hk.2) (.slice Ao43 t754.length co43)) (fun _ hk => hk.2) (.int .i64 t757)) (fun _ h_ => by exact h_.1))) hb); have n3_ := Aside0.mk (Kd.S_below (by (with_reducible repeat (first | apply Kd.S_alloc | apply Kd.S_drewN | apply Kd.S_drew )); exact (Kd.S_mono (Kd.S_far (p := ⟨gb753, 1, none⟩) (Kd.S_far (p := ⟨gb753, 0, none⟩) (Kd.S_types HO_754000.out BK753.out (by decide)) (fun _ hk => hk.2) (.slice Ao43 t754.length co43)) (fun _ hk => hk.2) (.int .i64 t757)) (fun _ h_ => by exact h_.1))) hb); have n4_ := Aside0.mk (Kd.S_below (by (with_reducible repeat (first | apply Kd.S_alloc | apply Kd.S_drewN | apply Kd.S_drew )); exact (Kd.S_mono (Kd.S_far (p := ⟨gb753, 1, none⟩) (Kd.S_far (p := ⟨gb753, 0, none⟩) (Kd.S_types HO756.out BK753.out (by decide)) (fun _ hk => hk.2) (.slice Ao43 t754.length co43)) (fun _ hk => hk.2) (.int .i64 t757)) (fun _ h_ => by exact h_.1))) hb); have n5_ := Aside0.mk (blk_below (g := gb736) (o := .cells #[.slice Ao12 t731.length co12, .int .i64 t734] 26 (0, 0)) (by (with_reducible repeat (first | refine blk_drewN ?_ _ | refine blk_drew ?_ | refine blk_alloc ?_ _ )); refine blk_far ?_ NB736_753.out _; (with_reducible repeat (first | refine blk_drewN ?_ _ | refine blk_drew ?_ | refine blk_alloc ?_ _ )); refine blk_far ?_ NB736_753.out _; (with_reducible repeat (first | refine blk_drewN ?_ _ | refine blk_drew ?_ | refine blk_alloc ?_ _ )); exact BK736.out) hb); have n6_ := Aside0.mk (blk_below (g := gb741) (o := .cells #[.slice Ao16 t737.length co16, .int .i64 t740] 26 (0, 0)) (by (with_reducible repeat (first | refine blk_drewN ?_ _ | refine blk_drew ?_ | refine blk_alloc ?_ _ )); refine blk_far ?_ NB741_753.out _; (with_reducible repeat (first | refine blk_drewN ?_ _ | refine blk_drew ?_ | refine blk_alloc ?_ _ )); refine blk_far ?_ NB741_753.out _; (with_reducible repeat (first | refine blk_drewN ?_ _ | refine blk_drew ?_ | refine blk_alloc ?_ _ )); exact BK741.out) hb); have n7_ := Aside0.mk (blk_below (g := gb746) (o := .cells #[.slice Ao22 t742.length co22, .int .i64 t745] 26 (0, 0)) (by (with_reducible repeat (first | refine blk_drewN ?_ _ | refine blk_drew ?_ | refine blk_alloc ?_ _ )); refine blk_far ?_ NB746_753.out _; (with_reducible repeat (first | refine blk_drewN ?_ _ | refine blk_drew ?_ | refine blk_alloc ?_ _ )); refine blk_far ?_ NB746_753.out _; (with_reducible repeat (first | refine blk_drewN ?_ _ | refine blk_drew ?_ | refine blk_alloc ?_ _ )); exact BK746.out) hb); have n8_ := Aside0.mk (blk_below (g := gb753) (o := .cells #[.slice Ao43 t754.length co43, .int .i64 t757] 26 (0, 0)) (by (with_reducible repeat (first | refine blk_drewN ?_ _ | refine blk_drew ?_ | refine blk_alloc ?_ _ )); refine blk_put (cs := #[.slice Ao43 t754.length co43, .int .i64 x754001_1]) ?_ 1 _ rfl; (with_reducible repeat (first | refine blk_drewN ?_ _ | refine blk_drew ?_ | refine blk_alloc ?_ _ )); refine blk_put (cs := #[.slice Ao41 x754000_1.length co41, .int .i64 x754001_1]) ?_ 0 _ rfl; (with_reducible repeat (first | refine blk_drewN ?_ _ | refine blk_drew ?_ | refine blk_alloc ?_ _ )); exact BK753.out) hb); have n9_ := Aside0.mk (below_step (by repeat ((with_reducible first | exact HB.out | refine below_set ?_ GE753.out))) hb); clear HO_737000; clear HO_742000; clear HO_747000; clear HO_754000; clear HO756; clear BK736; clear BK741; clear BK746; clear BK753; clear HB; have HO_737000 := n0_; have HO_742000 := n1_; have HO_747000 := n2_; have HO_754000 := n3_; have HO756 := n4_; have BK736 := n5_; have BK741 := n6_; have BK746 := n7_; have BK753 := n8_; have HB := n9_; clear n0_ n1_ n2_ n3_ n4_ n5_ n6_ n7_ n8_ n9_; (try clear hb); (try clear hb2); (try clear hk); (try clear hi)))
              go_roundg k1
              case measure => have := HK1.out; omega
              case rel => exact ⟨(wrap64 (x10_1 + 1)), (t754), (t757), (.slice Ao43 t754.length co43), (by rfl), H', ⟨by have := HK1.out; omega⟩, ⟨by (with_reducible repeat (first | apply Kd.V_alloc | apply Kd.V_drewN | apply Kd.V_drew )); exact Kd.V_mono HO_737000.out (fun _ hk => ⟨hk.1.1, ⟨hk.1.2.1, ⟨hk.2, ⟨hk.1.2.2.2.1, ⟨hk.1.2.2.2.2.1, ⟨hk.1.2.2.2.2.2.1, hk.1.2.2.2.2.2.2⟩⟩⟩⟩⟩⟩)⟩, ⟨by (with_reducible repeat (first | apply Kd.S_alloc | apply Kd.S_drewN | apply Kd.S_drew )); exact Kd.S_mono HO_742000.out (fun _ hk => ⟨hk.1.1, hk.2⟩)⟩, ⟨by (with_reducible repeat (first | apply Kd.S_alloc | apply Kd.S_drewN | apply Kd.S_drew )); exact Kd.S_mono HO_747000.out (fun _ hk => ⟨hk.1.1, hk.2⟩)⟩, ⟨by (with_reducible repeat (first | apply Kd.S_alloc | apply Kd.S_drewN | apply Kd.S_drew )); exact Kd.S_mono HO756.out (fun _ hk => ⟨hk.1.1.2, hk.1.2⟩)⟩, ⟨by (with_reducible repeat (first | refine blk_drewN ?_ _ | refine blk_drew ?_ | refine blk_alloc ?_ _ )); exact BK736.out⟩, ⟨by (with_reducible repeat (first | refine blk_drewN ?_ _ | refine blk_drew ?_ | refine blk_alloc ?_ _ )); exact BK741.out⟩, ⟨by (with_reducible repeat (first | refine blk_drewN ?_ _ | refine blk_drew ?_ | refine blk_alloc ?_ _ )); exact BK746.out⟩, ⟨by (with_reducible repeat (first | refine blk_drewN ?_ _ | refine blk_drew ?_ | refine blk_alloc ?_ _ )); exact BK753.out⟩, ⟨by repeat ((with_reducible exact HB.out))⟩⟩
          · rw [if_neg c45] at H
            have c45b0 : (t757 == 0) = false := beq_eq_false_iff_ne.mpr c45
            have c45b1 : (t757 != 0) = true := bne_iff_ne.mpr c45
            have H' := Aside0.mk H
            clear H
            have hnb53 := NB753_736.out
            have hnc53 := NB736_753.out
            have hnb54 := NB753_741.out
            have hnc54 := NB741_753.out
            have hnb55 := NB753_746.out
            have hnc55 := NB746_753.out
            have hcz56_0 : w42.cell? ⟨gb753, 0, none⟩ = some (.slice Ao41 x754000_1.length co41) := (blk_cell BK753.out 0).trans rfl
            have hcz56_1 : w42.cell? ⟨gb753, 1, none⟩ = some (.int .i64 x754001_1) := (blk_cell BK753.out 1).trans rfl
            have hfz56_0 := blk_frozen BK753.out 0
            have hfz56_1 := blk_frozen BK753.out 1
            go_wp2
            go_roundg k1
            case measure => have := HK1.out; omega
            case rel => exact ⟨(wrap64 (x10_1 + 1)), (t754), (t757), (.slice Ao43 t754.length co43), (by rfl), H', ⟨by have := HK1.out; omega⟩, ⟨by (with_reducible repeat (first | apply Kd.V_alloc | apply Kd.V_drewN | apply Kd.V_drew )); exact Kd.V_mono (Kd.V_far (p := ⟨gb753, 1, none⟩) (Kd.V_far (p := ⟨gb753, 0, none⟩) (Kd.V_mono HO_737000.out (fun k_ hk => (⟨hk, hk.1.2.2.2.2.2.2⟩ : _ ∧ k_ ≠ gb753))) (fun _ hk => hk.2) (.slice Ao43 t754.length co43)) (fun _ hk => hk.2) (.int .i64 t757)) (fun _ hk => ⟨hk.1.1.1, ⟨hk.1.1.2.1, ⟨hk.1.2, ⟨hk.1.1.2.2.2.1, ⟨hk.1.1.2.2.2.2.1, ⟨hk.1.1.2.2.2.2.2.1, hk.1.1.2.2.2.2.2.2⟩⟩⟩⟩⟩⟩)⟩, ⟨by (with_reducible repeat (first | apply Kd.S_alloc | apply Kd.S_drewN | apply Kd.S_drew )); exact Kd.S_mono (Kd.S_far (p := ⟨gb753, 1, none⟩) (Kd.S_far (p := ⟨gb753, 0, none⟩) (Kd.S_types HO_742000.out BK753.out (by decide)) (fun _ hk => hk.2) (.slice Ao43 t754.length co43)) (fun _ hk => hk.2) (.int .i64 t757)) (fun _ hk => ⟨hk.1.1.1, hk.1.2⟩)⟩, ⟨by (with_reducible repeat (first | apply Kd.S_alloc | apply Kd.S_drewN | apply Kd.S_drew )); exact Kd.S_mono (Kd.S_far (p := ⟨gb753, 1, none⟩) (Kd.S_far (p := ⟨gb753, 0, none⟩) (Kd.S_types HO_747000.out BK753.out (by decide)) (fun _ hk => hk.2) (.slice Ao43 t754.length co43)) (fun _ hk => hk.2) (.int .i64 t757)) (fun _ hk => ⟨hk.1.1.1, hk.1.2⟩)⟩, ⟨by (with_reducible repeat (first | apply Kd.S_alloc | apply Kd.S_drewN | apply Kd.S_drew )); exact Kd.S_mono (Kd.S_far (p := ⟨gb753, 1, none⟩) (Kd.S_far (p := ⟨gb753, 0, none⟩) (Kd.S_types HO756.out BK753.out (by decide)) (fun _ hk => hk.2) (.slice Ao43 t754.length co43)) (fun _ hk => hk.2) (.int .i64 t757)) (fun _ hk => ⟨hk.1.1.1.2, hk.1.1.2⟩)⟩, ⟨by (with_reducible repeat (first | refine blk_drewN ?_ _ | refine blk_drew ?_ | refine blk_alloc ?_ _ )); refine blk_far ?_ NB736_753.out _; (with_reducible repeat (first | refine blk_drewN ?_ _ | refine blk_drew ?_ | refine blk_alloc ?_ _ )); refine blk_far ?_ NB736_753.out _; (with_reducible repeat (first | refine blk_drewN ?_ _ | refine blk_drew ?_ | refine blk_alloc ?_ _ )); exact BK736.out⟩, ⟨by (with_reducible repeat (first | refine blk_drewN ?_ _ | refine blk_drew ?_ | refine blk_alloc ?_ _ )); refine blk_far ?_ NB741_753.out _; (with_reducible repeat (first | refine blk_drewN ?_ _ | refine blk_drew ?_ | refine blk_alloc ?_ _ )); refine blk_far ?_ NB741_753.out _; (with_reducible repeat (first | refine blk_drewN ?_ _ | refine blk_drew ?_ | refine blk_alloc ?_ _ )); exact BK741.out⟩, ⟨by (with_reducible repeat (first | refine blk_drewN ?_ _ | refine blk_drew ?_ | refine blk_alloc ?_ _ )); refine blk_far ?_ NB746_753.out _; (with_reducible repeat (first | refine blk_drewN ?_ _ | refine blk_drew ?_ | refine blk_alloc ?_ _ )); refine blk_far ?_ NB746_753.out _; (with_reducible repeat (first | refine blk_drewN ?_ _ | refine blk_drew ?_ | refine blk_alloc ?_ _ )); exact BK746.out⟩, ⟨by (with_reducible repeat (first | refine blk_drewN ?_ _ | refine blk_drew ?_ | refine blk_alloc ?_ _ )); refine blk_put (cs := #[.slice Ao43 t754.length co43, .int .i64 x754001_1]) ?_ 1 _ rfl; (with_reducible repeat (first | refine blk_drewN ?_ _ | refine blk_drew ?_ | refine blk_alloc ?_ _ )); refine blk_put (cs := #[.slice Ao41 x754000_1.length co41, .int .i64 x754001_1]) ?_ 0 _ rfl; (with_reducible repeat (first | refine blk_drewN ?_ _ | refine blk_drew ?_ | refine blk_alloc ?_ _ )); exact BK753.out⟩, ⟨by repeat ((with_reducible first | exact HB.out | refine below_set ?_ GE753.out))⟩⟩
        · rw [if_neg c34] at H
          have c34b0 : decide (x10_1 < 64) = false := decide_eq_false c34
          clear c34
          (skip)
          replace H := Option.bind_eq_some_iff.mp H
          obtain ⟨t759, A570, H⟩ := H
          replace H : (if t759 = true then ((impl_SketchGuess.f k1 t731 t734 t735).bind fun t760 => ((spec_SketchGuess.f k1 t731 t734 t735).bind fun t761 => (if t760 = t761 then ((impl_SketchPlace.f k1 t747 t748).bind fun t762 => ((spec_SketchPlace.f k1 t747 t748).bind fun t763 => (if t762 = t763 then ((impl_SketchPlace.f k1 1 t735).bind fun t764 => (if t764 ≥ 0 then ((impl_SketchPlace.f k1 1 t735).bind fun t765 => (if t765 < 16 then ((impl_SketchOk.f k1 x754000_1 x754001_1).bind fun t766 => (if t766 = true then ((impl_SketchOk.f k1 t731 t734).bind fun t767 => ((spec_SketchOk.f k1 t731 t734).bind fun t768 => (some (t767 == t768)))) else (none))) else (none))) else (none))) else (none)))) else (none)))) else (none)) = some r := H
          have A57 := Aside0.mk A570
          clear A570
          by_cases c58 : t759 = true
          · subst c58
            have H1 : ((impl_SketchGuess.f k1 t731 t734 t735).bind fun t760 => ((spec_SketchGuess.f k1 t731 t734 t735).bind fun t761 => (if t760 = t761 then ((impl_SketchPlace.f k1 t747 t748).bind fun t762 => ((spec_SketchPlace.f k1 t747 t748).bind fun t763 => (if t762 = t763 then ((impl_SketchPlace.f k1 1 t735).bind fun t764 => (if t764 ≥ 0 then ((impl_SketchPlace.f k1 1 t735).bind fun t765 => (if t765 < 16 then ((impl_SketchOk.f k1 x754000_1 x754001_1).bind fun t766 => (if t766 = true then ((impl_SketchOk.f k1 t731 t734).bind fun t767 => ((spec_SketchOk.f k1 t731 t734).bind fun t768 => (some (t767 == t768)))) else (none))) else (none))) else (none))) else (none)))) else (none)))) = some r := by rw [if_pos rfl] at H; exact H
            clear H
            have H := H1
            clear H1
            replace H := Option.bind_eq_some_iff.mp H
            obtain ⟨t760, A590, H⟩ := H
            replace H : ((spec_SketchGuess.f k1 t731 t734 t735).bind fun t761 => (if t760 = t761 then ((impl_SketchPlace.f k1 t747 t748).bind fun t762 => ((spec_SketchPlace.f k1 t747 t748).bind fun t763 => (if t762 = t763 then ((impl_SketchPlace.f k1 1 t735).bind fun t764 => (if t764 ≥ 0 then ((impl_SketchPlace.f k1 1 t735).bind fun t765 => (if t765 < 16 then ((impl_SketchOk.f k1 x754000_1 x754001_1).bind fun t766 => (if t766 = true then ((impl_SketchOk.f k1 t731 t734).bind fun t767 => ((spec_SketchOk.f k1 t731 t734).bind fun t768 => (some (t767 == t768)))) else (none))) else (none))) else (none))) else (none)))) else (none))) = some r := H
            have A59 := Aside0.mk A590
            clear A590
            replace H := Option.bind_eq_some_iff.mp H
            obtain ⟨t761, A600, H⟩ := H
            replace H : (if t760 = t761 then ((impl_SketchPlace.f k1 t747 t748).bind fun t762 => ((spec_SketchPlace.f k1 t747 t748).bind fun t763 => (if t762 = t763 then ((impl_SketchPlace.f k1 1 t735).bind fun t764 => (if t764 ≥ 0 then ((impl_SketchPlace.f k1 1 t735).bind fun t765 => (if t765 < 16 then ((impl_SketchOk.f k1 x754000_1 x754001_1).bind fun t766 => (if t766 = true then ((impl_SketchOk.f k1 t731 t734).bind fun t767 => ((spec_SketchOk.f k1 t731 t734).bind fun t768 => (some (t767 == t768)))) else (none))) else (none))) else (none))) else (none)))) else (none)) = some r := H
            have A60 := Aside0.mk A600
            clear A600
            by_cases c61 : t760 = t761
            · rw [if_pos c61] at H
              have c61b0 : (t760 == t761) = true := beq_iff_eq.mpr c61
              have c61b1 : (t760 != t761) = false := bne_eq_false_iff_eq.mpr c61
              clear c61
              replace H := Option.bind_eq_some_iff.mp H
              obtain ⟨t762, A620, H⟩ := H
              replace H : ((spec_SketchPlace.f k1 t747 t748).bind fun t763 => (if t762 = t763 then ((impl_SketchPlace.f k1 1 t735).bind fun t764 => (if t764 ≥ 0 then ((impl_SketchPlace.f k1 1 t735).bind fun t765 => (if t765 < 16 then ((impl_SketchOk.f k1 x754000_1 x754001_1).bind fun t766 => (if t766 = true then ((impl_SketchOk.f k1 t731 t734).bind fun t767 => ((spec_SketchOk.f k1 t731 t734).bind fun t768 => (some (t767 == t768)))) else (none))) else (none))) else (none))) else (none))) = some r := H
              have A62 := Aside0.mk A620
              clear A620
              replace H := Option.bind_eq_some_iff.mp H
              obtain ⟨t763, A630, H⟩ := H
              replace H : (if t762 = t763 then ((impl_SketchPlace.f k1 1 t735).bind fun t764 => (if t764 ≥ 0 then ((impl_SketchPlace.f k1 1 t735).bind fun t765 => (if t765 < 16 then ((impl_SketchOk.f k1 x754000_1 x754001_1).bind fun t766 => (if t766 = true then ((impl_SketchOk.f k1 t731 t734).bind fun t767 => ((spec_SketchOk.f k1 t731 t734).bind fun t768 => (some (t767 == t768)))) else (none))) else (none))) else (none))) else (none)) = some r := H
              have A63 := Aside0.mk A630
              clear A630
              by_cases c64 : t762 = t763
              · rw [if_pos c64] at H
                have c64b0 : (t762 == t763) = true := beq_iff_eq.mpr c64
                have c64b1 : (t762 != t763) = false := bne_eq_false_iff_eq.mpr c64
                clear c64
                replace H := Option.bind_eq_some_iff.mp H
                obtain ⟨t764, A650, H⟩ := H
                replace H : (if t764 ≥ 0 then ((impl_SketchPlace.f k1 1 t735).bind fun t765 => (if t765 < 16 then ((impl_SketchOk.f k1 x754000_1 x754001_1).bind fun t766 => (if t766 = true then ((impl_SketchOk.f k1 t731 t734).bind fun t767 => ((spec_SketchOk.f k1 t731 t734).bind fun t768 => (some (t767 == t768)))) else (none))) else (none))) else (none)) = some r := H
                have A65 := Aside0.mk A650
                clear A650
                by_cases c66 : t764 ≥ 0
                · rw [if_pos c66] at H
                  have c66b0 : decide (0 ≤ t764) = true := decide_eq_true c66
                  clear c66
                  replace H := Option.bind_eq_some_iff.mp H
                  obtain ⟨t765, A670, H⟩ := H
                  replace H : (if t765 < 16 then ((impl_SketchOk.f k1 x754000_1 x754001_1).bind fun t766 => (if t766 = true then ((impl_SketchOk.f k1 t731 t734).bind fun t767 => ((spec_SketchOk.f k1 t731 t734).bind fun t768 => (some (t767 == t768)))) else (none))) else (none)) = some r := H
                  have A67 := Aside0.mk A670
                  clear A670
                  by_cases c68 : t765 < 16
                  · rw [if_pos c68] at H
                    have c68b0 : decide (t765 < 16) = true := decide_eq_true c68
                    clear c68
                    replace H := Option.bind_eq_some_iff.mp H
                    obtain ⟨t766, A690, H⟩ := H
                    replace H : (if t766 = true then ((impl_SketchOk.f k1 t731 t734).bind fun t767 => ((spec_SketchOk.f k1 t731 t734).bind fun t768 => (some (t767 == t768)))) else (none)) = some r := H
                    have A69 := Aside0.mk A690
                    clear A690
                    by_cases c70 : t766 = true
                    · subst c70
                      have H1 : ((impl_SketchOk.f k1 t731 t734).bind fun t767 => ((spec_SketchOk.f k1 t731 t734).bind fun t768 => (some (t767 == t768)))) = some r := by rw [if_pos rfl] at H; exact H
                      clear H
                      have H := H1
                      clear H1
                      replace H := Option.bind_eq_some_iff.mp H
                      obtain ⟨t767, A710, H⟩ := H
                      replace H : ((spec_SketchOk.f k1 t731 t734).bind fun t768 => (some (t767 == t768))) = some r := H
                      have A71 := Aside0.mk A710
                      clear A710
                      replace H := Option.bind_eq_some_iff.mp H
                      obtain ⟨t768, A720, H⟩ := H
                      replace H : (some (t767 == t768)) = some r := H
                      have A72 := Aside0.mk A720
                      clear A720
                      obtain rfl := Option.some.inj H
                      go_wp2
                      have n0_ := Aside0.mk (Kd.V_drew HO_737000.out)
                      have n1_ := Aside0.mk (Kd.S_drew HO_742000.out)
                      have n2_ := Aside0.mk (Kd.S_drew HO_747000.out)
                      have n3_ := Aside0.mk (Kd.S_drew HO_754000.out)
                      have n4_ := Aside0.mk (blk_drew BK736.out)
                      have n5_ := Aside0.mk (blk_drew BK741.out)
                      have n6_ := Aside0.mk (blk_drew BK746.out)
                      have n7_ := Aside0.mk (blk_drew BK753.out)
                      have n8_ := Aside0.mk (below_drew1 HB.out)
                      clear HO_737000
                      clear HO_742000
                      clear HO_747000
                      clear HO_754000
                      clear BK736
                      clear BK741
                      clear BK746
                      clear BK753
                      clear HB
                      have HO_737000 := n0_
                      have HO_742000 := n1_
                      have HO_747000 := n2_
                      have HO_754000 := n3_
                      have BK736 := n4_
                      have BK741 := n5_
                      have BK746 := n6_
                      have BK753 := n7_
                      have HB := n8_
                      clear n0_ n1_ n2_ n3_ n4_ n5_ n6_ n7_ n8_
                      refine start_ (n := 43) (S := fun w' => w'.cell? ⟨gb741, 0, none⟩ = some (.slice Ao16 t737.length co16) ∧ w'.cell? ⟨gb741, 1, none⟩ = some (.int .i64 t740) ∧ w'.cell? ⟨gb746, 0, none⟩ = some (.slice Ao22 t742.length co22) ∧ w'.cell? ⟨gb746, 1, none⟩ = some (.int .i64 t745) ∧ w'.cell? ⟨gb736, 0, none⟩ = some (.slice Ao12 t731.length co12) ∧ w'.cell? ⟨gb736, 1, none⟩ = some (.int .i64 t734) ∧ w'.cell? ⟨gb753, 0, none⟩ = some (u754000) ∧ w'.cell? ⟨gb753, 1, none⟩ = some (.int .i64 x754001_1)) (ds := []) #[false, false, false, false, false, false, false, false, false, false, false, false, false, false, false, false, false, false, false, false, false, false, false, false, false, false, false, false, false, false, false, false, false, false, false, false, false, false, false, false, false, false, false] (by kernel_rfl) rfl rfl ⟨(blk_cell BK741.out 0).trans rfl, (blk_cell BK741.out 1).trans rfl, (blk_cell BK746.out 0).trans rfl, (blk_cell BK746.out 1).trans rfl, (blk_cell BK736.out 0).trans rfl, (blk_cell BK736.out 1).trans rfl, (blk_cell BK753.out 0).trans rfl, (blk_cell BK753.out 1).trans rfl⟩ (fun hHeld => ?_); refine with_tabW laws_FnSketches.tab14 laws_FnSketches.bits14 (fun HT_ HW_ => ?_)
                      generalize wr.drew = w73 at HO_737000 HO_742000 HO_747000 HO_754000 BK736 BK741 BK746 BK753 HB hHeld ⊢
                      refine take_ (i := 0) (N := some 45) (v := ?_) (a' := ?_) #[true, false, false, false, false, false, false, false, false, false, false, false, false, false, false, false, false, false, false, false, false, false, false, false, false, false, false, false, false, false, false, false, false, false, false, false, false, false, false, false, false, false, false] rfl rfl (take_ofW HT_.out HW_.out (by kernel_rfl)) (fun _ _ _ h => h) (Or.inl ⟨by rfl, ?_⟩) hHeld ?_ ?_
                      rotate_left
                      · rintro w' ⟨s0, s1, s2, s3, s4, s5, s6, s7⟩
                        go_simp
                        with_reducible rfl
                      rotate_left
                      · simp only [Act.put, List.setIfInBounds_toArray, List.set_cons_zero, List.set_cons_succ, i64_w, i32_w]
                        rfl
                      refine take_ (i := 1) (N := some 46) (v := ?_) (a' := ?_) #[true, true, false, false, false, false, false, false, false, false, false, false, false, false, false, false, false, false, false, false, false, false, false, false, false, false, false, false, false, false, false, false, false, false, false, false, false, false, false, false, false, false, false] rfl rfl (take_ofW HT_.out HW_.out (by kernel_rfl)) (fun _ _ _ h => h) (Or.inl ⟨by rfl, ?_⟩) hHeld ?_ ?_
                      rotate_left
                      · rintro w' ⟨s0, s1, s2, s3, s4, s5, s6, s7⟩
                        go_simp
                        with_reducible rfl
                      rotate_left
                      · simp only [Act.put, List.setIfInBounds_toArray, List.set_cons_zero, List.set_cons_succ, i64_w, i32_w]
                        rfl
                      refine one_ (i := 2) (N := some 47) #[true, true, true, false, false, false, false, false, false, false, false, false, false, false, false, false, false, false, false, false, false, false, false, false, false, false, false, false, false, false, false, false, false, false, false, false, false, false, false, false, false, false, false] rfl rfl (one_of HT_.out (by kernel_rfl)) (by decide) (fun K hK => ?_)
                      refine goes_ Try.func51 (by kernel_rfl) rfl #[.agg #[.slice Ao16 t737.length co16, .int .i64 t740], .agg #[.slice Ao22 t742.length co22, .int .i64 t745]] (by rfl) rfl rfl (by (try simp only [List.map_toArray, List.map_cons, List.map_nil]); rfl) ?_
                      with_reducible refine (laws_sameSketch.calls k1 _ _ t737 t740 _ _ t742 t745 true _ ?side1 ?side2 ?side3 ?side4 A57.out).mono ?_
                      (case side1 => repeat (exact (Kd.S_reads' HO_742000.out).2.2))
                      (case side2 => exact (Kd.S_reads' HO_742000.out).2.1)
                      (case side3 => repeat (exact (Kd.S_reads' HO_747000.out).2.2))
                      (case side4 => exact (Kd.S_reads' HO_747000.out).2.1)
                      rintro e w74 ⟨rfl, hb⟩
                      refine ⟨_, rfl, ?_⟩
                      have n0_ := Aside0.mk (Kd.V_below (by (with_reducible repeat (first | apply Kd.V_alloc | apply Kd.V_drewN | apply Kd.V_drew )); exact HO_737000.out) hb)
                      have n1_ := Aside0.mk (Kd.S_below (by (with_reducible repeat (first | apply Kd.S_alloc | apply Kd.S_drewN | apply Kd.S_drew )); exact HO_742000.out) hb)
                      have n2_ := Aside0.mk (Kd.S_below (by (with_reducible repeat (first | apply Kd.S_alloc | apply Kd.S_drewN | apply Kd.S_drew )); exact HO_747000.out) hb)
                      have n3_ := Aside0.mk (Kd.S_below (by (with_reducible repeat (first | apply Kd.S_alloc | apply Kd.S_drewN | apply Kd.S_drew )); exact HO_754000.out) hb)
                      have n4_ := Aside0.mk (blk_below (g := gb736) (o := .cells #[.slice Ao12 t731.length co12, .int .i64 t734] 26 (0, 0)) (by (with_reducible repeat (first | refine blk_drewN ?_ _ | refine blk_drew ?_ | refine blk_alloc ?_ _ )); exact BK736.out) hb)
                      have n5_ := Aside0.mk (blk_below (g := gb741) (o := .cells #[.slice Ao16 t737.length co16, .int .i64 t740] 26 (0, 0)) (by (with_reducible repeat (first | refine blk_drewN ?_ _ | refine blk_drew ?_ | refine blk_alloc ?_ _ )); exact BK741.out) hb)
                      have n6_ := Aside0.mk (blk_below (g := gb746) (o := .cells #[.slice Ao22 t742.length co22, .int .i64 t745] 26 (0, 0)) (by (with_reducible repeat (first | refine blk_drewN ?_ _ | refine blk_drew ?_ | refine blk_alloc ?_ _ )); exact BK746.out) hb)
                      have n7_ := Aside0.mk (blk_below (g := gb753) (o := .cells #[u754000, .int .i64 x754001_1] 26 (0, 0)) (by (with_reducible repeat (first | refine blk_drewN ?_ _ | refine blk_drew ?_ | refine blk_alloc ?_ _ )); exact BK753.out) hb)
                      have n8_ := Aside0.mk (below_step (by repeat ((with_reducible exact HB.out))) hb)
                      clear HO_737000
                      clear HO_742000
                      clear HO_747000
                      clear HO_754000
                      clear BK736
                      clear BK741
                      clear BK746
                      clear BK753
                      clear HB
                      have HO_737000 := n0_
                      have HO_742000 := n1_
                      have HO_747000 := n2_
                      have HO_754000 := n3_
                      have BK736 := n4_
                      have BK741 := n5_
                      have BK746 := n6_
                      have BK753 := n7_
                      have HB := n8_
                      clear n0_ n1_ n2_ n3_ n4_ n5_ n6_ n7_ n8_
                      (try clear hb)
                      (try clear hb2)
                      (try clear hk)
                      (try clear hi)
                      refine hK.out _ _ ⟨(blk_cell BK741.out 0).trans rfl, (blk_cell BK741.out 1).trans rfl, (blk_cell BK746.out 0).trans rfl, (blk_cell BK746.out 1).trans rfl, (blk_cell BK736.out 0).trans rfl, (blk_cell BK736.out 1).trans rfl, (blk_cell BK753.out 0).trans rfl, (blk_cell BK753.out 1).trans rfl⟩ (fun hHeld => ?_)
                      clear hK K
                      refine norm_ (a' := ?_) ?_ ?_
                      rotate_left
                      · show Act.put _ (some 47) _ = _
                        simp only [Act.put, List.setIfInBounds_toArray, List.set_cons_zero, List.set_cons_succ, i64_w, i32_w]
                        rfl
                      refine pure_ (i := 3) (N := some 48) (v := ?_) (a' := ?_) #[true, true, true, true, false, false, false, false, false, false, false, false, false, false, false, false, false, false, false, false, false, false, false, false, false, false, false, false, false, false, false, false, false, false, false, false, false, false, false, false, false, false, false] rfl rfl (any_of HT_.out (by kernel_rfl)) (fun _ _ _ h => h) (Or.inl ⟨by rfl, ?_⟩) ?_ ?_
                      rotate_left
                      · intro w'
                        go_simp
                        with_reducible rfl
                      rotate_left
                      · simp only [Act.put, List.setIfInBounds_toArray, List.set_cons_zero, List.set_cons_succ, i64_w, i32_w]
                        rfl
                      refine pure_ (i := 5) (N := some 50) (v := ?_) (a' := ?_) #[true, true, true, true, false, true, false, false, false, false, false, false, false, false, false, false, false, false, false, false, false, false, false, false, false, false, false, false, false, false, false, false, false, false, false, false, false, false, false, false, false, false, false] rfl rfl (any_of HT_.out (by kernel_rfl)) (fun _ _ _ h => h) (Or.inl ⟨by rfl, ?_⟩) ?_ ?_
                      rotate_left
                      · intro w'
                        go_simp
                        with_reducible rfl
                      rotate_left
                      · simp only [Act.put, List.setIfInBounds_toArray, List.set_cons_zero, List.set_cons_succ, i64_w, i32_w]
                        rfl
                      refine pure_ (i := 8) (N := some 53) (v := ?_) (a' := ?_) #[true, true, true, true, false, true, false, false, true, false, false, false, false, false, false, false, false, false, false, false, false, false, false, false, false, false, false, false, false, false, false, false, false, false, false, false, false, false, false, false, false, false, false] rfl rfl (any_of HT_.out (by kernel_rfl)) (fun _ _ _ h => h) (Or.inl ⟨by rfl, ?_⟩) ?_ ?_
                      rotate_left
                      · intro w'
                        go_simp
                        with_reducible rfl
                      rotate_left
                      · simp only [Act.put, List.setIfInBounds_toArray, List.set_cons_zero, List.set_cons_succ, i64_w, i32_w]
                        rfl
                      refine take_ (i := 4) (N := some 49) (v := ?_) (a' := ?_) #[true, true, true, true, true, true, false, false, true, false, false, false, false, false, false, false, false, false, false, false, false, false, false, false, false, false, false, false, false, false, false, false, false, false, false, false, false, false, false, false, false, false, false] rfl rfl (take_ofW HT_.out HW_.out (by kernel_rfl)) (fun _ _ _ h => h) (Or.inl ⟨by rfl, ?_⟩) hHeld ?_ ?_
                      rotate_left
                      · rintro w' ⟨s0, s1, s2, s3, s4, s5, s6, s7⟩
                        go_simp
                        with_reducible rfl
                      rotate_left
                      · simp only [Act.put, List.setIfInBounds_toArray, List.set_cons_zero, List.set_cons_succ, i64_w, i32_w]
                        rfl
                      refine take_ (i := 7) (N := some 52) (v := ?_) (a' := ?_) #[true, true, true, true, true, true, false, true, true, false, false, false, false, false, false, false, false, false, false, false, false, false, false, false, false, false, false, false, false, false, false, false, false, false, false, false, false, false, false, false, false, false, false] rfl rfl (take_ofW HT_.out HW_.out (by kernel_rfl)) (fun _ _ _ h => h) (Or.inl ⟨by rfl, ?_⟩) hHeld ?_ ?_
                      rotate_left
                      · rintro w' ⟨s0, s1, s2, s3, s4, s5, s6, s7⟩
                        go_simp
                        with_reducible rfl
                      rotate_left
                      · simp only [Act.put, List.setIfInBounds_toArray, List.set_cons_zero, List.set_cons_succ, i64_w, i32_w]
                        rfl
                      refine one_ (i := 6) (N := some 51) #[true, true, true, true, true, true, true, true, true, false, false, false, false, false, false, false, false, false, false, false, false, false, false, false, false, false, false, false, false, false, false, false, false, false, false, false, false, false, false, false, false, false, false] rfl rfl (one_of HT_.out (by kernel_rfl)) (by decide) (fun K hK => ?_)
                      refine goes_ Try.func31 (by kernel_rfl) rfl #[.agg #[.slice Ao12 t731.length co12, .int .i64 t734], .string t735] (by rfl) rfl rfl (by (try simp only [List.map_toArray, List.map_cons, List.map_nil]); rfl) ?_
                      with_reducible refine (impl_SketchGuess.calls k1 _ _ t731 t734 t735 t760 _ ?side1 ?side2 A59.out).mono ?_
                      (case side1 => repeat (exact (Kd.V_reads' HO_737000.out).2.2))
                      (case side2 => exact (Kd.V_reads' HO_737000.out).2.1)
                      rintro e w75 ⟨rfl, hb⟩
                      refine ⟨_, rfl, ?_⟩
                      have n0_ := Aside0.mk (Kd.V_below (by (with_reducible repeat (first | apply Kd.V_alloc | apply Kd.V_drewN | apply Kd.V_drew )); exact HO_737000.out) hb)
                      have n1_ := Aside0.mk (Kd.S_below (by (with_reducible repeat (first | apply Kd.S_alloc | apply Kd.S_drewN | apply Kd.S_drew )); exact HO_742000.out) hb)
                      have n2_ := Aside0.mk (Kd.S_below (by (with_reducible repeat (first | apply Kd.S_alloc | apply Kd.S_drewN | apply Kd.S_drew )); exact HO_747000.out) hb)
                      have n3_ := Aside0.mk (Kd.S_below (by (with_reducible repeat (first | apply Kd.S_alloc | apply Kd.S_drewN | apply Kd.S_drew )); exact HO_754000.out) hb)
                      have n4_ := Aside0.mk (blk_below (g := gb736) (o := .cells #[.slice Ao12 t731.length co12, .int .i64 t734] 26 (0, 0)) (by (with_reducible repeat (first | refine blk_drewN ?_ _ | refine blk_drew ?_ | refine blk_alloc ?_ _ )); exact BK736.out) hb)
                      have n5_ := Aside0.mk (blk_below (g := gb741) (o := .cells #[.slice Ao16 t737.length co16, .int .i64 t740] 26 (0, 0)) (by (with_reducible repeat (first | refine blk_drewN ?_ _ | refine blk_drew ?_ | refine blk_alloc ?_ _ )); exact BK741.out) hb)
                      have n6_ := Aside0.mk (blk_below (g := gb746) (o := .cells #[.slice Ao22 t742.length co22, .int .i64 t745] 26 (0, 0)) (by (with_reducible repeat (first | refine blk_drewN ?_ _ | refine blk_drew ?_ | refine blk_alloc ?_ _ )); exact BK746.out) hb)
                      have n7_ := Aside0.mk (blk_below (g := gb753) (o := .cells #[u754000, .int .i64 x754001_1] 26 (0, 0)) (by (with_reducible repeat (first | refine blk_drewN ?_ _ | refine blk_drew ?_ | refine blk_alloc ?_ _ )); exact BK753.out) hb)
                      have n8_ := Aside0.mk (below_step (by repeat ((with_reducible exact HB.out))) hb)
                      clear HO_737000
                      clear HO_742000
                      clear HO_747000
                      clear HO_754000
                      clear BK736
                      clear BK741
                      clear BK746
                      clear BK753
                      clear HB
                      have HO_737000 := n0_
                      have HO_742000 := n1_
                      have HO_747000 := n2_
                      have HO_754000 := n3_
                      have BK736 := n4_
                      have BK741 := n5_
                      have BK746 := n6_
                      have BK753 := n7_
                      have HB := n8_
                      clear n0_ n1_ n2_ n3_ n4_ n5_ n6_ n7_ n8_
                      (try clear hb)
                      (try clear hb2)
                      (try clear hk)
                      (try clear hi)
                      refine hK.out _ _ ⟨(blk_cell BK741.out 0).trans rfl, (blk_cell BK741.out 1).trans rfl, (blk_cell BK746.out 0).trans rfl, (blk_cell BK746.out 1).trans rfl, (blk_cell BK736.out 0).trans rfl, (blk_cell BK736.out 1).trans rfl, (blk_cell BK753.out 0).trans rfl, (blk_cell BK753.out 1).trans rfl⟩ (fun hHeld => ?_)
                      clear hK K
                      refine norm_ (a' := ?_) ?_ ?_
                      rotate_left
                      · show Act.put _ (some 51) _ = _
                        simp only [Act.put, List.setIfInBounds_toArray, List.set_cons_zero, List.set_cons_succ, i64_w, i32_w]
                        rfl
                      refine one_ (i := 9) (N := some 54) #[true, true, true, true, true, true, true, true, true, true, false, false, false, false, false, false, false, false, false, false, false, false, false, false, false, false, false, false, false, false, false, false, false, false, false, false, false, false, false, false, false, false, false] rfl rfl (one_of HT_.out (by kernel_rfl)) (by decide) (fun K hK => ?_)
                      refine goes_ Try.func37 (by kernel_rfl) rfl #[.agg #[.slice Ao12 t731.length co12, .int .i64 t734], .string t735] (by rfl) rfl rfl (by (try simp only [List.map_toArray, List.map_cons, List.map_nil]); rfl) ?_
                      with_reducible refine (spec_SketchGuess.calls k1 _ _ t731 t734 t735 t761 _ ?side1 ?side2 A60.out).mono ?_
                      (case side1 => repeat (exact (Kd.V_reads' HO_737000.out).2.2))
                      (case side2 => exact (Kd.V_reads' HO_737000.out).2.1)
                      rintro e w76 ⟨rfl, hb⟩
                      refine ⟨_, rfl, ?_⟩
                      have n0_ := Aside0.mk (Kd.V_below (by (with_reducible repeat (first | apply Kd.V_alloc | apply Kd.V_drewN | apply Kd.V_drew )); exact HO_737000.out) hb)
                      have n1_ := Aside0.mk (Kd.S_below (by (with_reducible repeat (first | apply Kd.S_alloc | apply Kd.S_drewN | apply Kd.S_drew )); exact HO_742000.out) hb)
                      have n2_ := Aside0.mk (Kd.S_below (by (with_reducible repeat (first | apply Kd.S_alloc | apply Kd.S_drewN | apply Kd.S_drew )); exact HO_747000.out) hb)
                      have n3_ := Aside0.mk (Kd.S_below (by (with_reducible repeat (first | apply Kd.S_alloc | apply Kd.S_drewN | apply Kd.S_drew )); exact HO_754000.out) hb)
                      have n4_ := Aside0.mk (blk_below (g := gb736) (o := .cells #[.slice Ao12 t731.length co12, .int .i64 t734] 26 (0, 0)) (by (with_reducible repeat (first | refine blk_drewN ?_ _ | refine blk_drew ?_ | refine blk_alloc ?_ _ )); exact BK736.out) hb)
                      have n5_ := Aside0.mk (blk_below (g := gb741) (o := .cells #[.slice Ao16 t737.length co16, .int .i64 t740] 26 (0, 0)) (by (with_reducible repeat (first | refine blk_drewN ?_ _ | refine blk_drew ?_ | refine blk_alloc ?_ _ )); exact BK741.out) hb)
                      have n6_ := Aside0.mk (blk_below (g := gb746) (o := .cells #[.slice Ao22 t742.length co22, .int .i64 t745] 26 (0, 0)) (by (with_reducible repeat (first | refine blk_drewN ?_ _ | refine blk_drew ?_ | refine blk_alloc ?_ _ )); exact BK746.out) hb)
                      have n7_ := Aside0.mk (blk_below (g := gb753) (o := .cells #[u754000, .int .i64 x754001_1] 26 (0, 0)) (by (with_reducible repeat (first | refine blk_drewN ?_ _ | refine blk_drew ?_ | refine blk_alloc ?_ _ )); exact BK753.out) hb)
                      have n8_ := Aside0.mk (below_step (by repeat ((with_reducible exact HB.out))) hb)
                      clear HO_737000
                      clear HO_742000
                      clear HO_747000
                      clear HO_754000
                      clear BK736
                      clear BK741
                      clear BK746
                      clear BK753
                      clear HB
                      have HO_737000 := n0_
                      have HO_742000 := n1_
                      have HO_747000 := n2_
                      have HO_754000 := n3_
                      have BK736 := n4_
                      have BK741 := n5_
                      have BK746 := n6_
                      have BK753 := n7_
                      have HB := n8_
                      clear n0_ n1_ n2_ n3_ n4_ n5_ n6_ n7_ n8_
                      (try clear hb)
                      (try clear hb2)
                      (try clear hk)
                      (try clear hi)
                      refine hK.out _ _ ⟨(blk_cell BK741.out 0).trans rfl, (blk_cell BK741.out 1).trans rfl, (blk_cell BK746.out 0).trans rfl, (blk_cell BK746.out 1).trans rfl, (blk_cell BK736.out 0).trans rfl, (blk_cell BK736.out 1).trans rfl, (blk_cell BK753.out 0).trans rfl, (blk_cell BK753.out 1).trans rfl⟩ (fun hHeld => ?_)
                      clear hK K
                      refine norm_ (a' := ?_) ?_ ?_
                      rotate_left
                      · show Act.put _ (some 54) _ = _
                        simp only [Act.put, List.setIfInBounds_toArray, List.set_cons_zero, List.set_cons_succ, i64_w, i32_w]
                        rfl
                      refine pure_ (i := 10) (N := some 55) (v := ?_) (a' := ?_) #[true, true, true, true, true, true, true, true, true, true, true, false, false, false, false, false, false, false, false, false, false, false, false, false, false, false, false, false, false, false, false, false, false, false, false, false, false, false, false, false, false, false, false] rfl rfl (any_of HT_.out (by kernel_rfl)) (fun _ _ _ h => h) (Or.inl ⟨by rfl, ?_⟩) ?_ ?_
                      rotate_left
                      · intro w'
                        go_simp
                        with_reducible rfl
                      rotate_left
                      · simp only [Act.put, List.setIfInBounds_toArray, List.set_cons_zero, List.set_cons_succ, i64_w, i32_w]
                        rfl
                      refine pure_ (i := 11) (N := some 56) (v := ?_) (a' := ?_) #[true, true, true, true, true, true, true, true, true, true, true, true, false, false, false, false, false, false, false, false, false, false, false, false, false, false, false, false, false, false, false, false, false, false, false, false, false, false, false, false, false, false, false] rfl rfl (any_of HT_.out (by kernel_rfl)) (fun _ _ _ h => h) (Or.inl ⟨by rfl, ?_⟩) ?_ ?_
                      rotate_left
                      · intro w'
                        go_simp
                        with_reducible rfl
                      rotate_left
                      · simp only [Act.put, List.setIfInBounds_toArray, List.set_cons_zero, List.set_cons_succ, i64_w, i32_w]
                        rfl
                      refine pure_ (i := 12) (N := some 57) (v := ?_) (a' := ?_) #[true, true, true, true, true, true, true, true, true, true, true, true, true, false, false, false, false, false, false, false, false, false, false, false, false, false, false, false, false, false, false, false, false, false, false, false, false, false, false, false, false, false, false] rfl rfl (any_of HT_.out (by kernel_rfl)) (fun _ _ _ h => h) (Or.inl ⟨by rfl, ?_⟩) ?_ ?_
                      rotate_left
                      · intro w'
                        go_simp
                        with_reducible rfl
                      rotate_left
                      · simp only [Act.put, List.setIfInBounds_toArray, List.set_cons_zero, List.set_cons_succ, i64_w, i32_w]
                        rfl
                      refine pure_ (i := 13) (N := some 58) (v := ?_) (a' := ?_) #[true, true, true, true, true, true, true, true, true, true, true, true, true, true, false, false, false, false, false, false, false, false, false, false, false, false, false, false, false, false, false, false, false, false, false, false, false, false, false, false, false, false, false] rfl rfl (any_of HT_.out (by kernel_rfl)) (fun _ _ _ h => h) (Or.inl ⟨by rfl, ?_⟩) ?_ ?_
                      rotate_left
                      · intro w'
                        go_simp
                        with_reducible rfl
                      rotate_left
                      · simp only [Act.put, List.setIfInBounds_toArray, List.set_cons_zero, List.set_cons_succ, i64_w, i32_w]
                        rfl
                      refine pure_ (i := 14) (N := some 59) (v := ?_) (a' := ?_) #[true, true, true, true, true, true, true, true, true, true, true, true, true, true, true, false, false, false, false, false, false, false, false, false, false, false, false, false, false, false, false, false, false, false, false, false, false, false, false, false, false, false, false] rfl rfl (any_of HT_.out (by kernel_rfl)) (fun _ _ _ h => h) (Or.inl ⟨by rfl, ?_⟩) ?_ ?_
                      rotate_left
                      · intro w'
                        go_simp
                        with_reducible rfl
                      rotate_left
                      · simp only [Act.put, List.setIfInBounds_toArray, List.set_cons_zero, List.set_cons_succ, i64_w, i32_w]
                        rfl
                      refine pure_ (i := 16) (N := some 61) (v := ?_) (a' := ?_) #[true, true, true, true, true, true, true, true, true, true, true, true, true, true, true, false, true, false, false, false, false, false, false, false, false, false, false, false, false, false, false, false, false, false, false, false, false, false, false, false, false, false, false] rfl rfl (any_of HT_.out (by kernel_rfl)) (fun _ _ _ h => h) (Or.inl ⟨by rfl, ?_⟩) ?_ ?_
                      rotate_left
                      · intro w'
                        go_simp
                        with_reducible rfl
                      rotate_left
                      · simp only [Act.put, List.setIfInBounds_toArray, List.set_cons_zero, List.set_cons_succ, i64_w, i32_w]
                        rfl
                      refine pure_ (i := 17) (N := some 62) (v := ?_) (a' := ?_) #[true, true, true, true, true, true, true, true, true, true, true, true, true, true, true, false, true, true, false, false, false, false, false, false, false, false, false, false, false, false, false, false, false, false, false, false, false, false, false, false, false, false, false] rfl rfl (any_of HT_.out (by kernel_rfl)) (fun _ _ _ h => h) (Or.inl ⟨by rfl, ?_⟩) ?_ ?_
                      rotate_left
                      · intro w'
                        go_simp
                        with_reducible rfl
                      rotate_left
                      · simp only [Act.put, List.setIfInBounds_toArray, List.set_cons_zero, List.set_cons_succ, i64_w, i32_w]
                        rfl
                      refine one_ (i := 15) (N := some 60) #[true, true, true, true, true, true, true, true, true, true, true, true, true, true, true, true, true, true, false, false, false, false, false, false, false, false, false, false, false, false, false, false, false, false, false, false, false, false, false, false, false, false, false] rfl rfl (one_of HT_.out (by kernel_rfl)) (by decide) (fun K hK => ?_)
                      refine goes_ Try.func18 (by kernel_rfl) rfl #[.int .i64 t747, .string t748] (by rfl) rfl rfl (by (try simp only [List.map_toArray, List.map_cons, List.map_nil]); rfl) ?_
                      with_reducible refine (impl_SketchPlace.calls k1 t747 t748 t762 _ A62.out).mono ?_
                      rintro e w77 ⟨rfl, hb⟩
                      refine ⟨_, rfl, ?_⟩
                      have n0_ := Aside0.mk (Kd.V_below (by (with_reducible repeat (first | apply Kd.V_alloc | apply Kd.V_drewN | apply Kd.V_drew )); exact HO_737000.out) hb)
                      have n1_ := Aside0.mk (Kd.S_below (by (with_reducible repeat (first | apply Kd.S_alloc | apply Kd.S_drewN | apply Kd.S_drew )); exact HO_742000.out) hb)
                      have n2_ := Aside0.mk (Kd.S_below (by (with_reducible repeat (first | apply Kd.S_alloc | apply Kd.S_drewN | apply Kd.S_drew )); exact HO_747000.out) hb)
                      have n3_ := Aside0.mk (Kd.S_below (by (with_reducible repeat (first | apply Kd.S_alloc | apply Kd.S_drewN | apply Kd.S_drew )); exact HO_754000.out) hb)
                      have n4_ := Aside0.mk (blk_below (g := gb736) (o := .cells #[.slice Ao12 t731.length co12, .int .i64 t734] 26 (0, 0)) (by (with_reducible repeat (first | refine blk_drewN ?_ _ | refine blk_drew ?_ | refine blk_alloc ?_ _ )); exact BK736.out) hb)
                      have n5_ := Aside0.mk (blk_below (g := gb741) (o := .cells #[.slice Ao16 t737.length co16, .int .i64 t740] 26 (0, 0)) (by (with_reducible repeat (first | refine blk_drewN ?_ _ | refine blk_drew ?_ | refine blk_alloc ?_ _ )); exact BK741.out) hb)
                      have n6_ := Aside0.mk (blk_below (g := gb746) (o := .cells #[.slice Ao22 t742.length co22, .int .i64 t745] 26 (0, 0)) (by (with_reducible repeat (first | refine blk_drewN ?_ _ | refine blk_drew ?_ | refine blk_alloc ?_ _ )); exact BK746.out) hb)
                      have n7_ := Aside0.mk (blk_below (g := gb753) (o := .cells #[u754000, .int .i64 x754001_1] 26 (0, 0)) (by (with_reducible repeat (first | refine blk_drewN ?_ _ | refine blk_drew ?_ | refine blk_alloc ?_ _ )); exact BK753.out) hb)
                      have n8_ := Aside0.mk (below_step (by repeat ((with_reducible exact HB.out))) hb)
                      clear HO_737000
                      clear HO_742000
                      clear HO_747000
                      clear HO_754000
                      clear BK736
                      clear BK741
                      clear BK746
                      clear BK753
                      clear HB
                      have HO_737000 := n0_
                      have HO_742000 := n1_
                      have HO_747000 := n2_
                      have HO_754000 := n3_
                      have BK736 := n4_
                      have BK741 := n5_
                      have BK746 := n6_
                      have BK753 := n7_
                      have HB := n8_
                      clear n0_ n1_ n2_ n3_ n4_ n5_ n6_ n7_ n8_
                      (try clear hb)
                      (try clear hb2)
                      (try clear hk)
                      (try clear hi)
                      refine hK.out _ _ ⟨(blk_cell BK741.out 0).trans rfl, (blk_cell BK741.out 1).trans rfl, (blk_cell BK746.out 0).trans rfl, (blk_cell BK746.out 1).trans rfl, (blk_cell BK736.out 0).trans rfl, (blk_cell BK736.out 1).trans rfl, (blk_cell BK753.out 0).trans rfl, (blk_cell BK753.out 1).trans rfl⟩ (fun hHeld => ?_)
                      clear hK K
                      refine norm_ (a' := ?_) ?_ ?_
                      rotate_left
                      · show Act.put _ (some 60) _ = _
                        simp only [Act.put, List.setIfInBounds_toArray, List.set_cons_zero, List.set_cons_succ, i64_w, i32_w]
                        rfl
                      refine one_ (i := 18) (N := some 63) #[true, true, true, true, true, true, true, true, true, true, true, true, true, true, true, true, true, true, true, false, false, false, false, false, false, false, false, false, false, false, false, false, false, false, false, false, false, false, false, false, false, false, false] rfl rfl (one_of HT_.out (by kernel_rfl)) (by decide) (fun K hK => ?_)
                      refine goes_ Try.func17 (by kernel_rfl) rfl #[.int .i64 t747, .string t748] (by rfl) rfl rfl (by (try simp only [List.map_toArray, List.map_cons, List.map_nil]); rfl) ?_
                      with_reducible refine (spec_SketchPlace.calls k1 t747 t748 t763 _ A63.out).mono ?_
                      rintro e w78 ⟨rfl, hb⟩
                      refine ⟨_, rfl, ?_⟩
                      have n0_ := Aside0.mk (Kd.V_below (by (with_reducible repeat (first | apply Kd.V_alloc | apply Kd.V_drewN | apply Kd.V_drew )); exact HO_737000.out) hb)
                      have n1_ := Aside0.mk (Kd.S_below (by (with_reducible repeat (first | apply Kd.S_alloc | apply Kd.S_drewN | apply Kd.S_drew )); exact HO_742000.out) hb)
                      have n2_ := Aside0.mk (Kd.S_below (by (with_reducible repeat (first | apply Kd.S_alloc | apply Kd.S_drewN | apply Kd.S_drew )); exact HO_747000.out) hb)
                      have n3_ := Aside0.mk (Kd.S_below (by (with_reducible repeat (first | apply Kd.S_alloc | apply Kd.S_drewN | apply Kd.S_drew )); exact HO_754000.out) hb)
                      have n4_ := Aside0.mk (blk_below (g := gb736) (o := .cells #[.slice Ao12 t731.length co12, .int .i64 t734] 26 (0, 0)) (by (with_reducible repeat (first | refine blk_drewN ?_ _ | refine blk_drew ?_ | refine blk_alloc ?_ _ )); exact BK736.out) hb)
                      have n5_ := Aside0.mk (blk_below (g := gb741) (o := .cells #[.slice Ao16 t737.length co16, .int .i64 t740] 26 (0, 0)) (by (with_reducible repeat (first | refine blk_drewN ?_ _ | refine blk_drew ?_ | refine blk_alloc ?_ _ )); exact BK741.out) hb)
                      have n6_ := Aside0.mk (blk_below (g := gb746) (o := .cells #[.slice Ao22 t742.length co22, .int .i64 t745] 26 (0, 0)) (by (with_reducible repeat (first | refine blk_drewN ?_ _ | refine blk_drew ?_ | refine blk_alloc ?_ _ )); exact BK746.out) hb)
                      have n7_ := Aside0.mk (blk_below (g := gb753) (o := .cells #[u754000, .int .i64 x754001_1] 26 (0, 0)) (by (with_reducible repeat (first | refine blk_drewN ?_ _ | refine blk_drew ?_ | refine blk_alloc ?_ _ )); exact BK753.out) hb)
                      have n8_ := Aside0.mk (below_step (by repeat ((with_reducible exact HB.out))) hb)
                      clear HO_737000
                      clear HO_742000
                      clear HO_747000
                      clear HO_754000
                      clear BK736
                      clear BK741
                      clear BK746
                      clear BK753
                      clear HB
                      have HO_737000 := n0_
                      have HO_742000 := n1_
                      have HO_747000 := n2_
                      have HO_754000 := n3_
                      have BK736 := n4_
                      have BK741 := n5_
                      have BK746 := n6_
                      have BK753 := n7_
                      have HB := n8_
                      clear n0_ n1_ n2_ n3_ n4_ n5_ n6_ n7_ n8_
                      (try clear hb)
                      (try clear hb2)
                      (try clear hk)
                      (try clear hi)
                      refine hK.out _ _ ⟨(blk_cell BK741.out 0).trans rfl, (blk_cell BK741.out 1).trans rfl, (blk_cell BK746.out 0).trans rfl, (blk_cell BK746.out 1).trans rfl, (blk_cell BK736.out 0).trans rfl, (blk_cell BK736.out 1).trans rfl, (blk_cell BK753.out 0).trans rfl, (blk_cell BK753.out 1).trans rfl⟩ (fun hHeld => ?_)
                      clear hK K
                      refine norm_ (a' := ?_) ?_ ?_
                      rotate_left
                      · show Act.put _ (some 63) _ = _
                        simp only [Act.put, List.setIfInBounds_toArray, List.set_cons_zero, List.set_cons_succ, i64_w, i32_w]
                        rfl
                      refine pure_ (i := 19) (N := some 64) (v := ?_) (a' := ?_) #[true, true, true, true, true, true, true, true, true, true, true, true, true, true, true, true, true, true, true, true, false, false, false, false, false, false, false, false, false, false, false, false, false, false, false, false, false, false, false, false, false, false, false] rfl rfl (any_of HT_.out (by kernel_rfl)) (fun _ _ _ h => h) (Or.inl ⟨by rfl, ?_⟩) ?_ ?_
                      rotate_left
                      · intro w'
                        go_simp
                        with_reducible rfl
                      rotate_left
                      · simp only [Act.put, List.setIfInBounds_toArray, List.set_cons_zero, List.set_cons_succ, i64_w, i32_w]
                        rfl
                      refine pure_ (i := 20) (N := some 65) (v := ?_) (a' := ?_) #[true, true, true, true, true, true, true, true, true, true, true, true, true, true, true, true, true, true, true, true, true, false, false, false, false, false, false, false, false, false, false, false, false, false, false, false, false, false, false, false, false, false, false] rfl rfl (any_of HT_.out (by kernel_rfl)) (fun _ _ _ h => h) (Or.inl ⟨by rfl, ?_⟩) ?_ ?_
                      rotate_left
                      · intro w'
                        go_simp
                        with_reducible rfl
                      rotate_left
                      · simp only [Act.put, List.setIfInBounds_toArray, List.set_cons_zero, List.set_cons_succ, i64_w, i32_w]
                        rfl
                      refine pure_ (i := 21) (N := some 66) (v := ?_) (a' := ?_) #[true, true, true, true, true, true, true, true, true, true, true, true, true, true, true, true, true, true, true, true, true, true, false, false, false, false, false, false, false, false, false, false, false, false, false, false, false, false, false, false, false, false, false] rfl rfl (any_of HT_.out (by kernel_rfl)) (fun _ _ _ h => h) (Or.inl ⟨by rfl, ?_⟩) ?_ ?_
                      rotate_left
                      · intro w'
                        go_simp
                        with_reducible rfl
                      rotate_left
                      · simp only [Act.put, List.setIfInBounds_toArray, List.set_cons_zero, List.set_cons_succ, i64_w, i32_w]
                        rfl
                      refine pure_ (i := 22) (N := some 67) (v := ?_) (a' := ?_) #[true, true, true, true, true, true, true, true, true, true, true, true, true, true, true, true, true, true, true, true, true, true, true, false, false, false, false, false, false, false, false, false, false, false, false, false, false, false, false, false, false, false, false] rfl rfl (any_of HT_.out (by kernel_rfl)) (fun _ _ _ h => h) (Or.inl ⟨by rfl, ?_⟩) ?_ ?_
                      rotate_left
                      · intro w'
                        go_simp
                        with_reducible rfl
                      rotate_left
                      · simp only [Act.put, List.setIfInBounds_toArray, List.set_cons_zero, List.set_cons_succ, i64_w, i32_w]
                        rfl
                      refine one_ (i := 23) (N := some 68) #[true, true, true, true, true, true, true, true, true, true, true, true, true, true, true, true, true, true, true, true, true, true, true, true, false, false, false, false, false, false, false, false, false, false, false, false, false, false, false, false, false, false, false] rfl rfl (one_of HT_.out (by kernel_rfl)) (by decide) (fun K hK => ?_)
                      refine goes_ Try.func18 (by kernel_rfl) rfl #[.int .i64 1, .string t735] (by rfl) rfl rfl (by (try simp only [List.map_toArray, List.map_cons, List.map_nil]); rfl) ?_
                      with_reducible refine (impl_SketchPlace.calls k1 1 t735 t764 _ A65.out).mono ?_
                      rintro e w79 ⟨rfl, hb⟩
                      refine ⟨_, rfl, ?_⟩
                      have n0_ := Aside0.mk (Kd.V_below (by (with_reducible repeat (first | apply Kd.V_alloc | apply Kd.V_drewN | apply Kd.V_drew )); exact HO_737000.out) hb)
                      have n1_ := Aside0.mk (Kd.S_below (by (with_reducible repeat (first | apply Kd.S_alloc | apply Kd.S_drewN | apply Kd.S_drew )); exact HO_742000.out) hb)
                      have n2_ := Aside0.mk (Kd.S_below (by (with_reducible repeat (first | apply Kd.S_alloc | apply Kd.S_drewN | apply Kd.S_drew )); exact HO_747000.out) hb)
                      have n3_ := Aside0.mk (Kd.S_below (by (with_reducible repeat (first | apply Kd.S_alloc | apply Kd.S_drewN | apply Kd.S_drew )); exact HO_754000.out) hb)
                      have n4_ := Aside0.mk (blk_below (g := gb736) (o := .cells #[.slice Ao12 t731.length co12, .int .i64 t734] 26 (0, 0)) (by (with_reducible repeat (first | refine blk_drewN ?_ _ | refine blk_drew ?_ | refine blk_alloc ?_ _ )); exact BK736.out) hb)
                      have n5_ := Aside0.mk (blk_below (g := gb741) (o := .cells #[.slice Ao16 t737.length co16, .int .i64 t740] 26 (0, 0)) (by (with_reducible repeat (first | refine blk_drewN ?_ _ | refine blk_drew ?_ | refine blk_alloc ?_ _ )); exact BK741.out) hb)
                      have n6_ := Aside0.mk (blk_below (g := gb746) (o := .cells #[.slice Ao22 t742.length co22, .int .i64 t745] 26 (0, 0)) (by (with_reducible repeat (first | refine blk_drewN ?_ _ | refine blk_drew ?_ | refine blk_alloc ?_ _ )); exact BK746.out) hb)
                      have n7_ := Aside0.mk (blk_below (g := gb753) (o := .cells #[u754000, .int .i64 x754001_1] 26 (0, 0)) (by (with_reducible repeat (first | refine blk_drewN ?_ _ | refine blk_drew ?_ | refine blk_alloc ?_ _ )); exact BK753.out) hb)
                      have n8_ := Aside0.mk (below_step (by repeat ((with_reducible exact HB.out))) hb)
                      clear HO_737000
                      clear HO_742000
                      clear HO_747000
                      clear HO_754000
                      clear BK736
                      clear BK741
                      clear BK746
                      clear BK753
                      clear HB
                      have HO_737000 := n0_
                      have HO_742000 := n1_
                      have HO_747000 := n2_
                      have HO_754000 := n3_
                      have BK736 := n4_
                      have BK741 := n5_
                      have BK746 := n6_
                      have BK753 := n7_
                      have HB := n8_
                      clear n0_ n1_ n2_ n3_ n4_ n5_ n6_ n7_ n8_
                      (try clear hb)
                      (try clear hb2)
                      (try clear hk)
                      (try clear hi)
                      refine hK.out _ _ ⟨(blk_cell BK741.out 0).trans rfl, (blk_cell BK741.out 1).trans rfl, (blk_cell BK746.out 0).trans rfl, (blk_cell BK746.out 1).trans rfl, (blk_cell BK736.out 0).trans rfl, (blk_cell BK736.out 1).trans rfl, (blk_cell BK753.out 0).trans rfl, (blk_cell BK753.out 1).trans rfl⟩ (fun hHeld => ?_)
                      clear hK K
                      refine norm_ (a' := ?_) ?_ ?_
                      rotate_left
                      · show Act.put _ (some 68) _ = _
                        simp only [Act.put, List.setIfInBounds_toArray, List.set_cons_zero, List.set_cons_succ, i64_w, i32_w]
                        rfl
                      refine pure_ (i := 24) (N := some 69) (v := ?_) (a' := ?_) #[true, true, true, true, true, true, true, true, true, true, true, true, true, true, true, true, true, true, true, true, true, true, true, true, true, false, false, false, false, false, false, false, false, false, false, false, false, false, false, false, false, false, false] rfl rfl (any_of HT_.out (by kernel_rfl)) (fun _ _ _ h => h) (Or.inl ⟨by rfl, ?_⟩) ?_ ?_
                      rotate_left
                      · intro w'
                        go_simp
                        with_reducible rfl
                      rotate_left
                      · simp only [Act.put, List.setIfInBounds_toArray, List.set_cons_zero, List.set_cons_succ, i64_w, i32_w]
                        rfl
                      refine pure_ (i := 25) (N := some 70) (v := ?_) (a' := ?_) #[true, true, true, true, true, true, true, true, true, true, true, true, true, true, true, true, true, true, true, true, true, true, true, true, true, true, false, false, false, false, false, false, false, false, false, false, false, false, false, false, false, false, false] rfl rfl (any_of HT_.out (by kernel_rfl)) (fun _ _ _ h => h) (Or.inl ⟨by rfl, ?_⟩) ?_ ?_
                      rotate_left
                      · intro w'
                        go_simp
                        with_reducible rfl
                      rotate_left
                      · simp only [Act.put, List.setIfInBounds_toArray, List.set_cons_zero, List.set_cons_succ, i64_w, i32_w]
                        rfl
                      refine pure_ (i := 26) (N := some 71) (v := ?_) (a' := ?_) #[true, true, true, true, true, true, true, true, true, true, true, true, true, true, true, true, true, true, true, true, true, true, true, true, true, true, true, false, false, false, false, false, false, false, false, false, false, false, false, false, false, false, false] rfl rfl (any_of HT_.out (by kernel_rfl)) (fun _ _ _ h => h) (Or.inl ⟨by rfl, ?_⟩) ?_ ?_
                      rotate_left
                      · intro w'
                        go_simp
                        with_reducible rfl
                      rotate_left
                      · simp only [Act.put, List.setIfInBounds_toArray, List.set_cons_zero, List.set_cons_succ, i64_w, i32_w]
                        rfl
                      refine pure_ (i := 27) (N := some 72) (v := ?_) (a' := ?_) #[true, true, true, true, true, true, true, true, true, true, true, true, true, true, true, true, true, true, true, true, true, true, true, true, true, true, true, true, false, false, false, false, false, false, false, false, false, false, false, false, false, false, false] rfl rfl (any_of HT_.out (by kernel_rfl)) (fun _ _ _ h => h) (Or.inl ⟨by rfl, ?_⟩) ?_ ?_
                      rotate_left
                      · intro w'
                        go_simp
                        with_reducible rfl
                      rotate_left
                      · simp only [Act.put, List.setIfInBounds_toArray, List.set_cons_zero, List.set_cons_succ, i64_w, i32_w]
                        rfl
                      refine one_ (i := 28) (N := some 73) #[true, true, true, true, true, true, true, true, true, true, true, true, true, true, true, true, true, true, true, true, true, true, true, true, true, true, true, true, true, false, false, false, false, false, false, false, false, false, false, false, false, false, false] rfl rfl (one_of HT_.out (by kernel_rfl)) (by decide) (fun K hK => ?_)
                      refine goes_ Try.func18 (by kernel_rfl) rfl #[.int .i64 1, .string t735] (by rfl) rfl rfl (by (try simp only [List.map_toArray, List.map_cons, List.map_nil]); rfl) ?_
                      with_reducible refine (impl_SketchPlace.calls k1 1 t735 t765 _ A67.out).mono ?_
                      rintro e w80 ⟨rfl, hb⟩
                      refine ⟨_, rfl, ?_⟩
                      have n0_ := Aside0.mk (Kd.V_below (by (with_reducible repeat (first | apply Kd.V_alloc | apply Kd.V_drewN | apply Kd.V_drew )); exact HO_737000.out) hb)
                      have n1_ := Aside0.mk (Kd.S_below (by (with_reducible repeat (first | apply Kd.S_alloc | apply Kd.S_drewN | apply Kd.S_drew )); exact HO_742000.out) hb)
                      have n2_ := Aside0.mk (Kd.S_below (by (with_reducible repeat (first | apply Kd.S_alloc | apply Kd.S_drewN | apply Kd.S_drew )); exact HO_747000.out) hb)
                      have n3_ := Aside0.mk (Kd.S_below (by (with_reducible repeat (first | apply Kd.S_alloc | apply Kd.S_drewN | apply Kd.S_drew )); exact HO_754000.out) hb)
                      have n4_ := Aside0.mk (blk_below (g := gb736) (o := .cells #[.slice Ao12 t731.length co12, .int .i64 t734] 26 (0, 0)) (by (with_reducible repeat (first | refine blk_drewN ?_ _ | refine blk_drew ?_ | refine blk_alloc ?_ _ )); exact BK736.out) hb)
                      have n5_ := Aside0.mk (blk_below (g := gb741) (o := .cells #[.slice Ao16 t737.length co16, .int .i64 t740] 26 (0, 0)) (by (with_reducible repeat (first | refine blk_drewN ?_ _ | refine blk_drew ?_ | refine blk_alloc ?_ _ )); exact BK741.out) hb)
                      have n6_ := Aside0.mk (blk_below (g := gb746) (o := .cells #[.slice Ao22 t742.length co22, .int .i64 t745] 26 (0, 0)) (by (with_reducible repeat (first | refine blk_drewN ?_ _ | refine blk_drew ?_ | refine blk_alloc ?_ _ )); exact BK746.out) hb)
                      have n7_ := Aside0.mk (blk_below (g := gb753) (o := .cells #[u754000, .int .i64 x754001_1] 26 (0, 0)) (by (with_reducible repeat (first | refine blk_drewN ?_ _ | refine blk_drew ?_ | refine blk_alloc ?_ _ )); exact BK753.out) hb)
                      have n8_ := Aside0.mk (below_step (by repeat ((with_reducible exact HB.out))) hb)
                      clear HO_737000
                      clear HO_742000
                      clear HO_747000
                      clear HO_754000
                      clear BK736
                      clear BK741
                      clear BK746
                      clear BK753
                      clear HB
                      have HO_737000 := n0_
                      have HO_742000 := n1_
                      have HO_747000 := n2_
                      have HO_754000 := n3_
                      have BK736 := n4_
                      have BK741 := n5_
                      have BK746 := n6_
                      have BK753 := n7_
                      have HB := n8_
                      clear n0_ n1_ n2_ n3_ n4_ n5_ n6_ n7_ n8_
                      (try clear hb)
                      (try clear hb2)
                      (try clear hk)
                      (try clear hi)
                      obtain ⟨Ao81, co81, eo81⟩ := Kd.S_slice HO_754000.out
                      (subst eo81)
                      refine hK.out _ _ ⟨(blk_cell BK741.out 0).trans rfl, (blk_cell BK741.out 1).trans rfl, (blk_cell BK746.out 0).trans rfl, (blk_cell BK746.out 1).trans rfl, (blk_cell BK736.out 0).trans rfl, (blk_cell BK736.out 1).trans rfl, (blk_cell BK753.out 0).trans rfl, (blk_cell BK753.out 1).trans rfl⟩ (fun hHeld => ?_)
                      clear hK K
                      refine norm_ (a' := ?_) ?_ ?_
                      rotate_left
                      · show Act.put _ (some 73) _ = _
                        simp only [Act.put, List.setIfInBounds_toArray, List.set_cons_zero, List.set_cons_succ, i64_w, i32_w]
                        rfl
                      refine pure_ (i := 29) (N := some 74) (v := ?_) (a' := ?_) #[true, true, true, true, true, true, true, true, true, true, true, true, true, true, true, true, true, true, true, true, true, true, true, true, true, true, true, true, true, true, false, false, false, false, false, false, false, false, false, false, false, false, false] rfl rfl (any_of HT_.out (by kernel_rfl)) (fun _ _ _ h => h) (Or.inl ⟨by rfl, ?_⟩) ?_ ?_
                      rotate_left
                      · intro w'
                        go_simp
                        with_reducible rfl
                      rotate_left
                      · simp only [Act.put, List.setIfInBounds_toArray, List.set_cons_zero, List.set_cons_succ, i64_w, i32_w]
                        rfl
                      refine pure_ (i := 30) (N := some 75) (v := ?_) (a' := ?_) #[true, true, true, true, true, true, true, true, true, true, true, true, true, true, true, true, true, true, true, true, true, true, true, true, true, true, true, true, true, true, true, false, false, false, false, false, false, false, false, false, false, false, false] rfl rfl (any_of HT_.out (by kernel_rfl)) (fun _ _ _ h => h) (Or.inl ⟨by rfl, ?_⟩) ?_ ?_
                      rotate_left
                      · intro w'
                        go_simp
                        with_reducible rfl
                      rotate_left
                      · simp only [Act.put, List.setIfInBounds_toArray, List.set_cons_zero, List.set_cons_succ, i64_w, i32_w]
                        rfl
                      refine pure_ (i := 31) (N := some 76) (v := ?_) (a' := ?_) #[true, true, true, true, true, true, true, true, true, true, true, true, true, true, true, true, true, true, true, true, true, true, true, true, true, true, true, true, true, true, true, true, false, false, false, false, false, false, false, false, false, false, false] rfl rfl (any_of HT_.out (by kernel_rfl)) (fun _ _ _ h => h) (Or.inl ⟨by rfl, ?_⟩) ?_ ?_
                      rotate_left
                      · intro w'
                        go_simp
                        with_reducible rfl
                      rotate_left
                      · simp only [Act.put, List.setIfInBounds_toArray, List.set_cons_zero, List.set_cons_succ, i64_w, i32_w]
                        rfl
                      refine take_ (i := 32) (N := some 77) (v := ?_) (a' := ?_) #[true, true, true, true, true, true, true, true, true, true, true, true, true, true, true, true, true, true, true, true, true, true, true, true, true, true, true, true, true, true, true, true, true, false, false, false, false, false, false, false, false, false, false] rfl rfl (take_ofW HT_.out HW_.out (by kernel_rfl)) (fun _ _ _ h => h) (Or.inl ⟨by rfl, ?_⟩) hHeld ?_ ?_
                      rotate_left
                      · rintro w' ⟨s0, s1, s2, s3, s4, s5, s6, s7⟩
                        go_simp
                        with_reducible rfl
                      rotate_left
                      · simp only [Act.put, List.setIfInBounds_toArray, List.set_cons_zero, List.set_cons_succ, i64_w, i32_w]
                        rfl
                      refine one_ (i := 33) (N := some 78) #[true, true, true, true, true, true, true, true, true, true, true, true, true, true, true, true, true, true, true, true, true, true, true, true, true, true, true, true, true, true, true, true, true, true, false, false, false, false, false, false, false, false, false] rfl rfl (one_of HT_.out (by kernel_rfl)) (by decide) (fun K hK => ?_)
                      refine goes_ Try.func27 (by kernel_rfl) rfl #[.agg #[.slice Ao81 x754000_1.length co81, .int .i64 x754001_1]] (by rfl) rfl rfl (by (try simp only [List.map_toArray, List.map_cons, List.map_nil]); rfl) ?_
                      with_reducible refine (impl_SketchOk.calls k1 _ _ x754000_1 x754001_1 true _ ?side1 ?side2 A69.out).mono ?_
                      (case side1 => repeat (exact (Kd.S_reads' HO_754000.out).2.2))
                      (case side2 => exact (Kd.S_reads' HO_754000.out).2.1)
                      rintro e w82 ⟨rfl, hb⟩
                      refine ⟨_, rfl, ?_⟩
                      have n0_ := Aside0.mk (Kd.V_below (by (with_reducible repeat (first | apply Kd.V_alloc | apply Kd.V_drewN | apply Kd.V_drew )); exact HO_737000.out) hb)
                      have n1_ := Aside0.mk (Kd.S_below (by (with_reducible repeat (first | apply Kd.S_alloc | apply Kd.S_drewN | apply Kd.S_drew )); exact HO_742000.out) hb)
                      have n2_ := Aside0.mk (Kd.S_below (by (with_reducible repeat (first | apply Kd.S_alloc | apply Kd.S_drewN | apply Kd.S_drew )); exact HO_747000.out) hb)
                      have n3_ := Aside0.mk (Kd.S_below (by (with_reducible repeat (first | apply Kd.S_alloc | apply Kd.S_drewN | apply Kd.S_drew )); exact HO_754000.out) hb)
                      have n4_ := Aside0.mk (blk_below (g := gb736) (o := .cells #[.slice Ao12 t731.length co12, .int .i64 t734] 26 (0, 0)) (by (with_reducible repeat (first | refine blk_drewN ?_ _ | refine blk_drew ?_ | refine blk_alloc ?_ _ )); exact BK736.out) hb)
                      have n5_ := Aside0.mk (blk_below (g := gb741) (o := .cells #[.slice Ao16 t737.length co16, .int .i64 t740] 26 (0, 0)) (by (with_reducible repeat (first | refine blk_drewN ?_ _ | refine blk_drew ?_ | refine blk_alloc ?_ _ )); exact BK741.out) hb)
                      have n6_ := Aside0.mk (blk_below (g := gb746) (o := .cells #[.slice Ao22 t742.length co22, .int .i64 t745] 26 (0, 0)) (by (with_reducible repeat (first | refine blk_drewN ?_ _ | refine blk_drew ?_ | refine blk_alloc ?_ _ )); exact BK746.out) hb)
                      have n7_ := Aside0.mk (blk_below (g := gb753) (o := .cells #[.slice Ao81 x754000_1.length co81, .int .i64 x754001_1] 26 (0, 0)) (by (with_reducible repeat (first | refine blk_drewN ?_ _ | refine blk_drew ?_ | refine blk_alloc ?_ _ )); exact BK753.out) hb)
                      have n8_ := Aside0.mk (below_step (by repeat ((with_reducible exact HB.out))) hb)
                      clear HO_737000
                      clear HO_742000
                      clear HO_747000
                      clear HO_754000
                      clear BK736
                      clear BK741
                      clear BK746
                      clear BK753
                      clear HB
                      have HO_737000 := n0_
                      have HO_742000 := n1_
                      have HO_747000 := n2_
                      have HO_754000 := n3_
                      have BK736 := n4_
                      have BK741 := n5_
                      have BK746 := n6_
                      have BK753 := n7_
                      have HB := n8_
                      clear n0_ n1_ n2_ n3_ n4_ n5_ n6_ n7_ n8_
                      (try clear hb)
                      (try clear hb2)
                      (try clear hk)
                      (try clear hi)
                      refine hK.out _ _ ⟨(blk_cell BK741.out 0).trans rfl, (blk_cell BK741.out 1).trans rfl, (blk_cell BK746.out 0).trans rfl, (blk_cell BK746.out 1).trans rfl, (blk_cell BK736.out 0).trans rfl, (blk_cell BK736.out 1).trans rfl, (blk_cell BK753.out 0).trans rfl, (blk_cell BK753.out 1).trans rfl⟩ (fun hHeld => ?_)
                      clear hK K
                      refine norm_ (a' := ?_) ?_ ?_
                      rotate_left
                      · show Act.put _ (some 78) _ = _
                        simp only [Act.put, List.setIfInBounds_toArray, List.set_cons_zero, List.set_cons_succ, i64_w, i32_w]
                        rfl
                      refine pure_ (i := 34) (N := some 79) (v := ?_) (a' := ?_) #[true, true, true, true, true, true, true, true, true, true, true, true, true, true, true, true, true, true, true, true, true, true, true, true, true, true, true, true, true, true, true, true, true, true, true, false, false, false, false, false, false, false, false] rfl rfl (any_of HT_.out (by kernel_rfl)) (fun _ _ _ h => h) (Or.inl ⟨by rfl, ?_⟩) ?_ ?_
                      rotate_left
                      · intro w'
                        go_simp
                        with_reducible rfl
                      rotate_left
                      · simp only [Act.put, List.setIfInBounds_toArray, List.set_cons_zero, List.set_cons_succ, i64_w, i32_w]
                        rfl
                      refine pure_ (i := 35) (N := some 80) (v := ?_) (a' := ?_) #[true, true, true, true, true, true, true, true, true, true, true, true, true, true, true, true, true, true, true, true, true, true, true, true, true, true, true, true, true, true, true, true, true, true, true, true, false, false, false, false, false, false, false] rfl rfl (any_of HT_.out (by kernel_rfl)) (fun _ _ _ h => h) (Or.inl ⟨by rfl, ?_⟩) ?_ ?_
                      rotate_left
                      · intro w'
                        go_simp
                        with_reducible rfl
                      rotate_left
                      · simp only [Act.put, List.setIfInBounds_toArray, List.set_cons_zero, List.set_cons_succ, i64_w, i32_w]
                        rfl
                      refine take_ (i := 36) (N := some 81) (v := ?_) (a' := ?_) #[true, true, true, true, true, true, true, true, true, true, true, true, true, true, true, true, true, true, true, true, true, true, true, true, true, true, true, true, true, true, true, true, true, true, true, true, true, false, false, false, false, false, false] rfl rfl (take_ofW HT_.out HW_.out (by kernel_rfl)) (fun _ _ _ h => h) (Or.inl ⟨by rfl, ?_⟩) hHeld ?_ ?_
                      rotate_left
                      · rintro w' ⟨s0, s1, s2, s3, s4, s5, s6, s7⟩
                        go_simp
                        with_reducible rfl
                      rotate_left
                      · simp only [Act.put, List.setIfInBounds_toArray, List.set_cons_zero, List.set_cons_succ, i64_w, i32_w]
                        rfl
                      refine take_ (i := 38) (N := some 83) (v := ?_) (a' := ?_) #[true, true, true, true, true, true, true, true, true, true, true, true, true, true, true, true, true, true, true, true, true, true, true, true, true, true, true, true, true, true, true, true, true, true, true, true, true, false, true, false, false, false, false] rfl rfl (take_ofW HT_.out HW_.out (by kernel_rfl)) (fun _ _ _ h => h) (Or.inl ⟨by rfl, ?_⟩) hHeld ?_ ?_
                      rotate_left
                      · rintro w' ⟨s0, s1, s2, s3, s4, s5, s6, s7⟩
                        go_simp
                        with_reducible rfl
                      rotate_left
                      · simp only [Act.put, List.setIfInBounds_toArray, List.set_cons_zero, List.set_cons_succ, i64_w, i32_w]
                        rfl
                      refine one_ (i := 37) (N := some 82) #[true, true, true, true, true, true, true, true, true, true, true, true, true, true, true, true, true, true, true, true, true, true, true, true, true, true, true, true, true, true, true, true, true, true, true, true, true, true, true, false, false, false, false] rfl rfl (one_of HT_.out (by kernel_rfl)) (by decide) (fun K hK => ?_)
                      refine goes_ Try.func27 (by kernel_rfl) rfl #[.agg #[.slice Ao12 t731.length co12, .int .i64 t734]] (by rfl) rfl rfl (by (try simp only [List.map_toArray, List.map_cons, List.map_nil]); rfl) ?_
                      with_reducible refine (impl_SketchOk.calls k1 _ _ t731 t734 t767 _ ?side1 ?side2 A71.out).mono ?_
                      (case side1 => repeat (exact (Kd.V_reads' HO_737000.out).2.2))
                      (case side2 => exact (Kd.V_reads' HO_737000.out).2.1)
                      rintro e w83 ⟨rfl, hb⟩
                      refine ⟨_, rfl, ?_⟩
                      have n0_ := Aside0.mk (Kd.V_below (by (with_reducible repeat (first | apply Kd.V_alloc | apply Kd.V_drewN | apply Kd.V_drew )); exact HO_737000.out) hb)
                      have n1_ := Aside0.mk (Kd.S_below (by (with_reducible repeat (first | apply Kd.S_alloc | apply Kd.S_drewN | apply Kd.S_drew )); exact HO_742000.out) hb)
                      have n2_ := Aside0.mk (Kd.S_below (by (with_reducible repeat (first | apply Kd.S_alloc | apply Kd.S_drewN | apply Kd.S_drew )); exact HO_747000.out) hb)
                      have n3_ := Aside0.mk (Kd.S_below (by (with_reducible repeat (first | apply Kd.S_alloc | apply Kd.S_drewN | apply Kd.S_drew )); exact HO_754000.out) hb)
                      have n4_ := Aside0.mk (blk_below (g := gb736) (o := .cells #[.slice Ao12 t731.length co12, .int .i64 t734] 26 (0, 0)) (by (with_reducible repeat (first | refine blk_drewN ?_ _ | refine blk_drew ?_ | refine blk_alloc ?_ _ )); exact BK736.out) hb)
                      have n5_ := Aside0.mk (blk_below (g := gb741) (o := .cells #[.slice Ao16 t737.length co16, .int .i64 t740] 26 (0, 0)) (by (with_reducible repeat (first | refine blk_drewN ?_ _ | refine blk_drew ?_ | refine blk_alloc ?_ _ )); exact BK741.out) hb)
                      have n6_ := Aside0.mk (blk_below (g := gb746) (o := .cells #[.slice Ao22 t742.length co22, .int .i64 t745] 26 (0, 0)) (by (with_reducible repeat (first | refine blk_drewN ?_ _ | refine blk_drew ?_ | refine blk_alloc ?_ _ )); exact BK746.out) hb)
                      have n7_ := Aside0.mk (blk_below (g := gb753) (o := .cells #[.slice Ao81 x754000_1.length co81, .int .i64 x754001_1] 26 (0, 0)) (by (with_reducible repeat (first | refine blk_drewN ?_ _ | refine blk_drew ?_ | refine blk_alloc ?_ _ )); exact BK753.out) hb)
                      have n8_ := Aside0.mk (below_step (by repeat ((with_reducible exact HB.out))) hb)
                      clear HO_737000
                      clear HO_742000
                      clear HO_747000
                      clear HO_754000
                      clear BK736
                      clear BK741
                      clear BK746
                      clear BK753
                      clear HB
                      have HO_737000 := n0_
                      have HO_742000 := n1_
                      have HO_747000 := n2_
                      have HO_754000 := n3_
                      have BK736 := n4_
                      have BK741 := n5_
                      have BK746 := n6_
                      have BK753 := n7_
                      have HB := n8_
                      clear n0_ n1_ n2_ n3_ n4_ n5_ n6_ n7_ n8_
                      (try clear hb)
                      (try clear hb2)
                      (try clear hk)
                      (try clear hi)
                      refine hK.out _ _ ⟨(blk_cell BK741.out 0).trans rfl, (blk_cell BK741.out 1).trans rfl, (blk_cell BK746.out 0).trans rfl, (blk_cell BK746.out 1).trans rfl, (blk_cell BK736.out 0).trans rfl, (blk_cell BK736.out 1).trans rfl, (blk_cell BK753.out 0).trans rfl, (blk_cell BK753.out 1).trans rfl⟩ (fun hHeld => ?_)
                      clear hK K
                      refine norm_ (a' := ?_) ?_ ?_
                      rotate_left
                      · show Act.put _ (some 82) _ = _
                        simp only [Act.put, List.setIfInBounds_toArray, List.set_cons_zero, List.set_cons_succ, i64_w, i32_w]
                        rfl
                      refine one_ (i := 39) (N := some 84) #[true, true, true, true, true, true, true, true, true, true, true, true, true, true, true, true, true, true, true, true, true, true, true, true, true, true, true, true, true, true, true, true, true, true, true, true, true, true, true, true, false, false, false] rfl rfl (one_of HT_.out (by kernel_rfl)) (by decide) (fun K hK => ?_)
                      refine goes_ Try.func25 (by kernel_rfl) rfl #[.agg #[.slice Ao12 t731.length co12, .int .i64 t734]] (by rfl) rfl rfl (by (try simp only [List.map_toArray, List.map_cons, List.map_nil]); rfl) ?_
                      with_reducible refine (spec_SketchOk.calls k1 _ _ t731 t734 t768 _ ?side1 ?side2 A72.out).mono ?_
                      (case side1 => repeat (exact (Kd.V_reads' HO_737000.out).2.2))
                      (case side2 => exact (Kd.V_reads' HO_737000.out).2.1)
                      rintro e w84 ⟨rfl, hb⟩
                      refine ⟨_, rfl, ?_⟩
                      have n0_ := Aside0.mk (Kd.V_below (by (with_reducible repeat (first | apply Kd.V_alloc | apply Kd.V_drewN | apply Kd.V_drew )); exact HO_737000.out) hb)
                      have n1_ := Aside0.mk (Kd.S_below (by (with_reducible repeat (first | apply Kd.S_alloc | apply Kd.S_drewN | apply Kd.S_drew )); exact HO_742000.out) hb)
                      have n2_ := Aside0.mk (Kd.S_below (by (with_reducible repeat (first | apply Kd.S_alloc | apply Kd.S_drewN | apply Kd.S_drew )); exact HO_747000.out) hb)
                      have n3_ := Aside0.mk (Kd.S_below (by (with_reducible repeat (first | apply Kd.S_alloc | apply Kd.S_drewN | apply Kd.S_drew )); exact HO_754000.out) hb)
                      have n4_ := Aside0.mk (blk_below (g := gb736) (o := .cells #[.slice Ao12 t731.length co12, .int .i64 t734] 26 (0, 0)) (by (with_reducible repeat (first | refine blk_drewN ?_ _ | refine blk_drew ?_ | refine blk_alloc ?_ _ )); exact BK736.out) hb)
                      have n5_ := Aside0.mk (blk_below (g := gb741) (o := .cells #[.slice Ao16 t737.length co16, .int .i64 t740] 26 (0, 0)) (by (with_reducible repeat (first | refine blk_drewN ?_ _ | refine blk_drew ?_ | refine blk_alloc ?_ _ )); exact BK741.out) hb)
                      have n6_ := Aside0.mk (blk_below (g := gb746) (o := .cells #[.slice Ao22 t742.length co22, .int .i64 t745] 26 (0, 0)) (by (with_reducible repeat (first | refine blk_drewN ?_ _ | refine blk_drew ?_ | refine blk_alloc ?_ _ )); exact BK746.out) hb)
                      have n7_ := Aside0.mk (blk_below (g := gb753) (o := .cells #[.slice Ao81 x754000_1.length co81, .int .i64 x754001_1] 26 (0, 0)) (by (with_reducible repeat (first | refine blk_drewN ?_ _ | refine blk_drew ?_ | refine blk_alloc ?_ _ )); exact BK753.out) hb)
                      have n8_ := Aside0.mk (below_step (by repeat ((with_reducible exact HB.out))) hb)
                      clear HO_737000
                      clear HO_742000
                      clear HO_747000
                      clear HO_754000
                      clear BK736
                      clear BK741
                      clear BK746
                      clear BK753
                      clear HB
                      have HO_737000 := n0_
                      have HO_742000 := n1_
                      have HO_747000 := n2_
                      have HO_754000 := n3_
                      have BK736 := n4_
                      have BK741 := n5_
                      have BK746 := n6_
                      have BK753 := n7_
                      have HB := n8_
                      clear n0_ n1_ n2_ n3_ n4_ n5_ n6_ n7_ n8_
                      (try clear hb)
                      (try clear hb2)
                      (try clear hk)
                      (try clear hi)
                      refine hK.out _ _ ⟨(blk_cell BK741.out 0).trans rfl, (blk_cell BK741.out 1).trans rfl, (blk_cell BK746.out 0).trans rfl, (blk_cell BK746.out 1).trans rfl, (blk_cell BK736.out 0).trans rfl, (blk_cell BK736.out 1).trans rfl, (blk_cell BK753.out 0).trans rfl, (blk_cell BK753.out 1).trans rfl⟩ (fun hHeld => ?_)
                      clear hK K
                      refine norm_ (a' := ?_) ?_ ?_
                      rotate_left
                      · show Act.put _ (some 84) _ = _
                        simp only [Act.put, List.setIfInBounds_toArray, List.set_cons_zero, List.set_cons_succ, i64_w, i32_w]
                        rfl
                      refine pure_ (i := 40) (N := some 85) (v := ?_) (a' := ?_) #[true, true, true, true, true, true, true, true, true, true, true, true, true, true, true, true, true, true, true, true, true, true, true, true, true, true, true, true, true, true, true, true, true, true, true, true, true, true, true, true, true, false, false] rfl rfl (any_of HT_.out (by kernel_rfl)) (fun _ _ _ h => h) (Or.inl ⟨by rfl, ?_⟩) ?_ ?_
                      rotate_left
                      · intro w'
                        go_simp
                        with_reducible rfl
                      rotate_left
                      · simp only [Act.put, List.setIfInBounds_toArray, List.set_cons_zero, List.set_cons_succ, i64_w, i32_w]
                        rfl
                      refine pure_ (i := 41) (N := some 86) (v := ?_) (a' := ?_) #[true, true, true, true, true, true, true, true, true, true, true, true, true, true, true, true, true, true, true, true, true, true, true, true, true, true, true, true, true, true, true, true, true, true, true, true, true, true, true, true, true, true, false] rfl rfl (any_of HT_.out (by kernel_rfl)) (fun _ _ _ h => h) (Or.inl ⟨by rfl, ?_⟩) ?_ ?_
                      rotate_left
                      · intro w'
                        go_simp
                        with_reducible rfl
                      rotate_left
                      · simp only [Act.put, List.setIfInBounds_toArray, List.set_cons_zero, List.set_cons_succ, i64_w, i32_w]
                        rfl
                      refine pure_ (i := 42) (N := some 2) (v := ?_) (a' := ?_) #[true, true, true, true, true, true, true, true, true, true, true, true, true, true, true, true, true, true, true, true, true, true, true, true, true, true, true, true, true, true, true, true, true, true, true, true, true, true, true, true, true, true, true] rfl rfl (any_of HT_.out (by kernel_rfl)) (fun _ _ _ h => h) (Or.inl ⟨by rfl, ?_⟩) ?_ ?_
                      rotate_left
                      · intro w'
                        go_simp
                        with_reducible rfl
                      rotate_left
                      · simp only [Act.put, List.setIfInBounds_toArray, List.set_cons_zero, List.set_cons_succ, i64_w, i32_w]
                        rfl
                      refine done_ (done_of HT_.out (by kernel_rfl)) ?_
                      go_wp2
                      go_ret
                      exact ⟨by rfl, by repeat ((with_reducible exact HB.out))⟩
                    · replace c70 := Bool.eq_false_iff.mpr c70
                      subst c70
                      have H1 : (none) = some r := by rw [if_neg (show ¬ (false = true) by decide)] at H; exact H
                      clear H
                      have H := H1
                      clear H1
                      exact absurd H (by simp)
                  · rw [if_neg c68] at H
                    have c68b0 : decide (t765 < 16) = false := decide_eq_false c68
                    clear c68
                    exact absurd H (by simp)
                · rw [if_neg c66] at H
                  have c66b0 : decide (0 ≤ t764) = false := decide_eq_false c66
                  clear c66
                  exact absurd H (by simp)
              · rw [if_neg c64] at H
                have c64b0 : (t762 == t763) = false := beq_eq_false_iff_ne.mpr c64
                have c64b1 : (t762 != t763) = true := bne_iff_ne.mpr c64
                exact absurd H (by simp)
            · rw [if_neg c61] at H
              have c61b0 : (t760 == t761) = false := beq_eq_false_iff_ne.mpr c61
              have c61b1 : (t760 != t761) = true := bne_iff_ne.mpr c61
              exact absurd H (by simp)
          · replace c58 := Bool.eq_false_iff.mpr c58
            subst c58
            have H1 : (none) = some r := by rw [if_neg (show ¬ (false = true) by decide)] at H; exact H
            clear H
            have H := H1
            clear H1
            exact absurd H (by simp)
end Go.Proofs.Ytoopdknphikgkaa.Q
