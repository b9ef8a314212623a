import Derived.Test.YtdbhpcekjcohdaaB0
import Derived.Test.YtdbhpcekjcohdaaG24
import Derived.Test.YtdbhpcekjcohdaaG26
import Derived.Test.YtdbhpcekjcohdaaG31
import Derived.Test.YtdbhpcekjcohdaaG35
import Derived.Test.YtdbhpcekjcohdaaG48
import Derived.Test.YtdbhpcekjcohdaaWApart
import Derived.Test.YtdbhpcekjcohdaaWFoot
import Derived.Test.YtdbhpcekjcohdaaWGuard
import Derived.Test.YtdbhpcekjcohdaaWKept
import Derived.Test.YtdbhpcekjcohdaaWLast
import Derived.Test.YtdbhpcekjcohdaaWMore
import Derived.Test.YtdbhpcekjcohdaaWN
import Derived.Test.YtdbhpcekjcohdaaWRepsOne
import Derived.Test.YtdbhpcekjcohdaaWShare
import Derived.Test.YtdbhpcekjcohdaaWWords
namespace Go.Proofs.Ytdbhpcekjcohdaa.Q
open Go.RowKit Go.Proofs.YtdbhpcekjcohdaaW.PrintWords Go.Proofs.YtdbhpcekjcohdaaW.PrintLast Go.Proofs.YtdbhpcekjcohdaaW.PrintMore
attribute [local go_sem] max2_int min2_int max_two min_two max_three min_three max_four min_four   -- for this text's walks alone
set_option linter.unusedVariables false
set_option linter.unusedSimpArgs false

/-! ### laws_FnAllFree: function 11 -/
mutual
def laws_FnAllFree.l0 : Nat → Int → Int → List Int → List (S57) → Option (Bool)
  | 0, _, _, _, _ => none
  | k + 1, x4, x1025000, x1025001, x1025002 => if x4 < (x1025001.length : Int) then ((impl_UnpinLook.f k x1025000 x1025001 x1025002 x4).bind fun bt1025 => (laws_FnAllFree.l0 k (wrap64 (x4 + 1)) bt1025.1 bt1025.2.1 bt1025.2.2.1)) else (laws_FnAllFree.l1 k (x1025002.length : Int) 0 x1025000 x1025001 x1025002)
def laws_FnAllFree.l1 : Nat → Int → Int → Int → List Int → List (S57) → Option (Bool)
  | 0, _, _, _, _, _ => none
  | k + 1, x5, x6, x1025000, x1025001, x1025002 => if x6 < 2 then ((impl_AdvanceEpoch.f k x1025000 x1025001 x1025002).bind fun bt1033 => (if bt1033.2.2.2 = true then (laws_FnAllFree.l1 k x5 (wrap64 (x6 + 1)) bt1033.1 bt1033.2.1 bt1033.2.2.1) else (none))) else ((impl_FreeNodes.f k x1025000 x1025001 x1025002).bind fun bt1042 => (if (bt1042.2.2.2.length : Int) = x5 then (if (bt1042.2.2.1.length : Int) = 0 then ((impl_EpochsOk.f k bt1042.1 bt1042.2.1 bt1042.2.2.1).bind fun t1053 => (some t1053)) else (none)) else (none)))
end
def laws_FnAllFree.f (k : Nat) (l0 : List Int) : Option (Bool) := (laws_big.f l0).bind fun t1016 => (if t1016 = true then (some true) else ((spec_DrawEpochs.f k l0).bind fun bt1017 => (laws_FnAllFree.l0 k 0 bt1017.1 bt1017.2.1 bt1017.2.2)))
theorem laws_FnAllFree.mono_l : ∀ k, (∀ y0 y1 y2 y3, LeO (laws_FnAllFree.l0 k y0 y1 y2 y3) (laws_FnAllFree.l0 (k + 1) y0 y1 y2 y3)) ∧ (∀ y0 y1 y2 y3 y4, LeO (laws_FnAllFree.l1 k y0 y1 y2 y3 y4) (laws_FnAllFree.l1 (k + 1) y0 y1 y2 y3 y4))
  | 0 => ⟨fun _ _ _ _ r h => by simp [laws_FnAllFree.l0] at h, fun _ _ _ _ _ r h => by simp [laws_FnAllFree.l1] at h⟩
  | k + 1 => by
    obtain ⟨ih0, ih1⟩ := laws_FnAllFree.mono_l k
    refine ⟨?_, ?_⟩
    · intro y0 y1 y2 y3
      unfold laws_FnAllFree.l0
      repeat' first | (with_reducible exact ih0 _ _ _ _) | (with_reducible exact ih1 _ _ _ _ _) | (with_reducible exact impl_UnpinLook.mono _ _ _ _ _) | (with_reducible refine LeO.ite ?_ ?_) | (with_reducible refine LeO.bind ?_ (fun _ => ?_))
    · intro y0 y1 y2 y3 y4
      unfold laws_FnAllFree.l1
      repeat' first | (with_reducible exact ih1 _ _ _ _ _) | (with_reducible exact impl_AdvanceEpoch.mono _ _ _ _) | (with_reducible exact impl_EpochsOk.mono _ _ _ _) | (with_reducible exact impl_FreeNodes.mono _ _ _ _) | (with_reducible exact LeO.refl _) | (with_reducible refine LeO.ite ?_ ?_) | (with_reducible refine LeO.bind ?_ (fun _ => ?_))
theorem laws_FnAllFree.mono : ∀ a0 k, LeO (laws_FnAllFree.f k a0) (laws_FnAllFree.f (k + 1) a0) := by
  intro a0 k
  obtain ⟨ih0, ih1⟩ := laws_FnAllFree.mono_l k
  unfold laws_FnAllFree.f
  repeat' first | (with_reducible exact ih0 _ _ _ _) | (with_reducible exact spec_DrawEpochs.mono _ _) | (with_reducible exact LeO.refl _) | (with_reducible refine LeO.ite ?_ ?_) | (with_reducible refine LeO.bind ?_ (fun _ => ?_))
set_option maxHeartbeats 8000000 in
set_option maxRecDepth 100000 in
theorem laws_FnAllFree.calls (k : Nat) (A0 : Option Addr) (c0 : Nat) (l0 : List Int) (r : Bool) (w : World) (hr0 : Kd.C (Kd.int .u8) w A0 l0.length l0) (hc0 : l0.length ≤ c0) (h : laws_FnAllFree.f k l0 = some r) :
    Calls Try.prog 11 #[.slice A0 l0.length c0] w fun e w' => e = .returned (.bool r) ∧ Below w.heap.size w w' := by
  have hu25 := Try.underlying25
  have HR0 := Aside0.mk hr0
  have HC0 := Aside0.mk hc0
  clear hr0 hc0
  have HB := Aside0.mk (Below.refl w.heap.size w)
  have H : ((laws_big.f l0).bind fun t1016 => (if t1016 = true then (some true) else ((spec_DrawEpochs.f k l0).bind fun bt1017 => (laws_FnAllFree.l0 k 0 bt1017.1 bt1017.2.1 bt1017.2.2)))) = some r := h
  clear h
  replace H := Option.bind_eq_some_iff.mp H
  obtain ⟨t1016, A20, H⟩ := H
  replace H : (if t1016 = true then (some true) else ((spec_DrawEpochs.f k l0).bind fun bt1017 => (laws_FnAllFree.l0 k 0 bt1017.1 bt1017.2.1 bt1017.2.2))) = some r := H
  have A2 := Aside0.mk A20
  clear A20
  have HS3 := Aside0.mk H
  clear H
  go_enter Try.func11, Try.ntmps11
  go_upto_if 12 with (((with_reducible refine gate_callee (f := 35) rfl ?_); refine goesL_ (some 12) rfl rfl Try.func35 (by kernel_rfl) rfl #[.slice A0 l0.length c0] rfl (by (try simp only [List.map_toArray, List.map_cons, List.map_nil]); rfl) ?_; (with_reducible refine (laws_big.calls _ _ l0 t1016 _ ?side1 ?side2 A2.out).mono ?_); (case side1 => repeat (exact HR0.out)); (case side2 => exact HC0.out); rintro e w' ⟨rfl, rfl⟩; refine ⟨_, rfl, ?_⟩))
  (try simp only [Act.put, List.setIfInBounds_toArray, List.set_cons_zero, List.set_cons_succ])
  have H := HS3.out
  clear HS3
  by_cases c4 : t1016 = true
  · subst c4
    have H1 : (some true) = some r := by rw [if_pos rfl] at H; exact H
    clear H
    have H := H1
    clear H1
    obtain rfl := Option.some.inj H
    go_wp2
    go_ret
    exact ⟨by rfl, by repeat ((with_reducible exact HB.out))⟩
  · replace c4 := Bool.eq_false_iff.mpr c4
    subst c4
    have H1 : ((spec_DrawEpochs.f k l0).bind fun bt1017 => (laws_FnAllFree.l0 k 0 bt1017.1 bt1017.2.1 bt1017.2.2)) = some r := by rw [if_neg (show ¬ (false = true) by decide)] at H; exact H
    clear H
    have H := H1
    clear H1
    replace H := Option.bind_eq_some_iff.mp H
    obtain ⟨⟨t1017, t1018, t1021⟩, A50, H⟩ := H
    replace H : (laws_FnAllFree.l0 k 0 t1017 t1018 t1021) = some r := H
    have A5 := Aside0.mk A50
    clear A50
    have H' := Aside0.mk H
    clear H
    go_wp2_with (first | ((with_reducible refine gate_callee (f := 36) rfl ?_); refine goesL_ (some 14) rfl rfl Try.func36 (by kernel_rfl) rfl #[.slice A0 l0.length c0] rfl (by (try simp only [List.map_toArray, List.map_cons, List.map_nil]); rfl) ?_; (with_reducible refine (spec_DrawEpochs.calls k _ _ l0 t1017 t1018 t1021 _ ?side1 ?side2 A5.out).mono ?_); (case side1 => repeat (exact (Kd.C_below HR0.out HB.out))); (case side2 => exact HC0.out); rintro e w6 ⟨v1019, v1022, rfl, ho0, ho1, hb⟩; refine ⟨_, rfl, ?_⟩; have n0_ := Aside0.mk (Kd.R_lower ho0 (below_size (by repeat ((with_reducible exact HB.out))))); have n1_ := Aside0.mk (Kd.R_lower ho1 (below_size (by repeat ((with_reducible exact HB.out))))); have n2_ := Aside0.mk (below_step (by repeat ((with_reducible exact HB.out))) hb); clear HB; have HO1020 := n0_; have HO1023 := n1_; have HB := n2_; clear n0_ n1_ n2_; (try clear hb); (try clear hb2); (try clear hk); (try clear hi); (try clear ho0); (try clear ho1)) | ((with_reducible refine gate_dst (N := 3) rfl ?_); (try (refine gate_guard (by rfl) ?_; dsimp only)); refine box_event ?hg (N := 3) ?hd (cs := #[.int .i64 0, .slice none 0 0, .slice none 0 0]) (t := 25) ?hr ?_; (case hd => rfl); (case hg => rfl); (case hr => (go_simp; done)); intro gb1024 hg w7 hbox hb; have n0_ := Aside0.mk (Kd.R_below (by (with_reducible repeat (first | apply Kd.R_alloc | apply Kd.R_drewN | apply Kd.R_drew )); exact HO1020.out) hb); have n1_ := Aside0.mk (Kd.R_below (by (with_reducible repeat (first | apply Kd.R_alloc | apply Kd.R_drewN | apply Kd.R_drew )); exact HO1023.out) hb); have n2_ := Aside0.mk (below_step (by repeat ((with_reducible exact HB.out))) hb); have n3_ := Aside0.mk (hbox); have n4_ := Aside0.mk ((by rw [hg]; exact (below_size (by repeat ((with_reducible exact HB.out)))) : w.heap.size ≤ gb1024)); have n5_ := Aside0.mk ((by rw [hg]; exact (below_size (by repeat ((with_reducible exact HB.out)))) : w.heap.size ≤ gb1024)); clear HO1020; clear HO1023; clear HB; have HO1020 := n0_; have HO1023 := n1_; have HB := n2_; have BK1024 := n3_; have GW1024 := n4_; have GE1024 := n5_; clear n0_ n1_ n2_ n3_ n4_ n5_; clear hb hbox hg; have hcz8_0 : w7.cell? ⟨gb1024, 0, none⟩ = some (.int .i64 0) := (blk_cell BK1024.out 0).trans rfl; have hcz8_1 : w7.cell? ⟨gb1024, 1, none⟩ = some (.slice none 0 0) := (blk_cell BK1024.out 1).trans rfl; have hcz8_2 : w7.cell? ⟨gb1024, 2, none⟩ = some (.slice none 0 0) := (blk_cell BK1024.out 2).trans rfl; have hfz8_0 := blk_frozen BK1024.out 0; have hfz8_1 := blk_frozen BK1024.out 1; have hfz8_2 := blk_frozen BK1024.out 2; obtain ⟨Ao9, co9, eo9⟩ := Kd.R_slice HO1020.out; subst eo9; obtain ⟨Ao10, co10, eo10⟩ := Kd.R_slice HO1023.out; subst eo10))
    go_loopg [4] k (fun kq v4 w' => ∃ (x4_1 : Int) (x1025000_1 : Int) (x1025001_1 : List Int) (x1025002_1 : List (S57)) (u1025001 : Value) (u1025002 : Value), v4 = .int .i64 x4_1 ∧ Aside0 (laws_FnAllFree.l0 kq x4_1 x1025000_1 x1025001_1 x1025002_1 = some r) ∧ Aside0 (kq ≤ k) ∧ Aside0 (Kd.R (Kd.int .i64) 3 w' w.heap.size (fun _ => True) u1025001 x1025001_1) ∧ Aside0 (Kd.R k57 57 w' w.heap.size (fun _ => True) u1025002 x1025002_1) ∧ Aside0 (w'.heap[gb1024]? = some (.cells #[.int .i64 x1025000_1, u1025001, u1025002] 25 (0, 0))) ∧ Aside0 (Below w.heap.size w w'))
    case atStart => exact ⟨(0), (t1017), (t1018), (t1021), (.slice Ao9 t1018.length co9), (.slice Ao10 t1021.length co10), (by rfl), H', ⟨Nat.le_refl _⟩, ⟨by (with_reducible repeat (first | apply Kd.R_alloc | apply Kd.R_drewN | apply Kd.R_drew )); exact Kd.R_mono (Kd.R_far (p := ⟨gb1024, 2, none⟩) (Kd.R_far (p := ⟨gb1024, 1, none⟩) (Kd.R_far (p := ⟨gb1024, 0, none⟩) (Kd.R_types HO1020.out BK1024.out (by decide)) (fun _ hk => hk.2) (.int .i64 t1017)) (fun _ hk => hk.2) (.slice Ao9 t1018.length co9)) (fun _ hk => hk.2) (.slice Ao10 t1021.length co10)) (fun _ hk => trivial)⟩, ⟨by (with_reducible repeat (first | apply Kd.R_alloc | apply Kd.R_drewN | apply Kd.R_drew )); exact Kd.R_mono (Kd.R_far (p := ⟨gb1024, 2, none⟩) (Kd.R_far (p := ⟨gb1024, 1, none⟩) (Kd.R_far (p := ⟨gb1024, 0, none⟩) (Kd.R_types HO1023.out BK1024.out (by decide)) (fun _ hk => hk.2) (.int .i64 t1017)) (fun _ hk => hk.2) (.slice Ao9 t1018.length co9)) (fun _ hk => hk.2) (.slice Ao10 t1021.length co10)) (fun _ hk => trivial)⟩, ⟨by (with_reducible repeat (first | refine blk_drewN ?_ _ | refine blk_drew ?_ | refine blk_alloc ?_ _ )); refine blk_put (cs := #[.int .i64 t1017, .slice Ao9 t1018.length co9, .slice none 0 0]) ?_ 2 _ rfl; (with_reducible repeat (first | refine blk_drewN ?_ _ | refine blk_drew ?_ | refine blk_alloc ?_ _ )); refine blk_put (cs := #[.int .i64 t1017, .slice none 0 0, .slice none 0 0]) ?_ 1 _ rfl; (with_reducible repeat (first | refine blk_drewN ?_ _ | refine blk_drew ?_ | refine blk_alloc ?_ _ )); refine blk_put (cs := #[.int .i64 0, .slice none 0 0, .slice none 0 0]) ?_ 0 _ rfl; (with_reducible repeat (first | refine blk_drewN ?_ _ | refine blk_drew ?_ | refine blk_alloc ?_ _ )); exact BK1024.out⟩, ⟨by repeat ((with_reducible first | exact HB.out | refine below_set ?_ GE1024.out))⟩⟩
    case round =>
      clear H'
      clear hcz8_0
      clear hcz8_1
      clear hcz8_2
      clear hfz8_0
      clear hfz8_1
      clear hfz8_2
      obtain ⟨x4_1, x1025000_1, x1025001_1, x1025002_1, u1025001, u1025002, rfl, HA, HK1, HO_1025001, HO_1025002, BK1024, HB⟩ := hrel
      cases gk with
      | zero => exact absurd HA.out (by simp [laws_FnAllFree.l0])
      | succ k1 =>
        have H := HA.out
        clear HA
        simp only [laws_FnAllFree.l0] at H
        by_cases c11 : x4_1 < (x1025001_1.length : Int)
        · rw [if_pos c11] at H
          have c11b0 : decide (x4_1 < (x1025001_1.length : Int)) = true := decide_eq_true c11
          clear c11
          (skip)
          replace H := Option.bind_eq_some_iff.mp H
          obtain ⟨⟨t1025, t1026, t1029, t1032⟩, A120, H⟩ := H
          replace H : (laws_FnAllFree.l0 k1 (wrap64 (x4_1 + 1)) t1025 t1026 t1029) = some r := H
          have A12 := Aside0.mk A120
          clear A120
          have H' := Aside0.mk H
          clear H
          have hcz13_0 : wr.cell? ⟨gb1024, 0, none⟩ = some (.int .i64 x1025000_1) := (blk_cell BK1024.out 0).trans rfl
          have hcz13_1 : wr.cell? ⟨gb1024, 1, none⟩ = some (u1025001) := (blk_cell BK1024.out 1).trans rfl
          have hcz13_2 : wr.cell? ⟨gb1024, 2, none⟩ = some (u1025002) := (blk_cell BK1024.out 2).trans rfl
          have hfz13_0 := blk_frozen BK1024.out 0
          have hfz13_1 := blk_frozen BK1024.out 1
          have hfz13_2 := blk_frozen BK1024.out 2
          obtain ⟨Ao14, co14, eo14⟩ := Kd.R_slice HO_1025001.out
          subst eo14
          obtain ⟨Ao15, co15, eo15⟩ := Kd.R_slice HO_1025002.out
          subst eo15
          go_wp2_with (((with_reducible refine gate_callee (f := 25) rfl ?_); refine goesL_ (some 25) rfl rfl Try.func25 (by kernel_rfl) rfl #[.agg #[.int .i64 x1025000_1, .slice Ao14 x1025001_1.length co14, .slice Ao15 x1025002_1.length co15], .int .i64 x4_1] rfl (by (try simp only [List.map_toArray, List.map_cons, List.map_nil]); rfl) ?_; (with_reducible refine (impl_UnpinLook.calls k1 x1025000_1 _ _ x1025001_1 _ _ x1025002_1 x4_1 t1025 t1026 t1029 t1032 _ ?side1 ?side2 ?side3 ?side4 A12.out).mono ?_); (case side1 => repeat (exact (Kd.R_reads' HO_1025001.out).2.2)); (case side2 => exact (Kd.R_reads' HO_1025001.out).2.1); (case side3 => repeat (exact (Kd.R_reads' HO_1025002.out).2.2)); (case side4 => exact (Kd.R_reads' HO_1025002.out).2.1); rintro e w16 ⟨v1027, v1030, rfl, ho0, ho1, hb⟩; refine ⟨_, rfl, ?_⟩; have n0_ := Aside0.mk (Kd.R_elder' (by (with_reducible repeat (first | apply Kd.R_alloc | apply Kd.R_drewN | apply Kd.R_drew )); exact HO_1025001.out) (Kd.R_base ho0) hb); have n1_ := Aside0.mk (Kd.R_elder' (by (with_reducible repeat (first | apply Kd.R_alloc | apply Kd.R_drewN | apply Kd.R_drew )); exact HO_1025002.out) (Kd.R_base ho1) hb); have n2_ := Aside0.mk (Kd.R_lower (Kd.R_new' ho0 (Kd.R_lt (by (with_reducible repeat (first | apply Kd.R_alloc | apply Kd.R_drewN | apply Kd.R_drew )); exact HO_1025001.out))) (below_size (by repeat ((with_reducible exact HB.out))))); have n3_ := Aside0.mk (Kd.R_lower (Kd.R_new' ho1 (Kd.R_lt (by (with_reducible repeat (first | apply Kd.R_alloc | apply Kd.R_drewN | apply Kd.R_drew )); exact HO_1025002.out))) (below_size (by repeat ((with_reducible exact HB.out))))); have n4_ := Aside0.mk (blk_below (g := gb1024) (o := .cells #[.int .i64 x1025000_1, .slice Ao14 x1025001_1.length co14, .slice Ao15 x1025002_1.length co15] 25 (0, 0)) (by (with_reducible repeat (first | refine blk_drewN ?_ _ | refine blk_drew ?_ | refine blk_alloc ?_ _ )); exact BK1024.out) hb); have n5_ := Aside0.mk (below_step (by repeat ((with_reducible exact HB.out))) hb); clear HO_1025001; clear HO_1025002; clear BK1024; clear HB; have HO_1025001 := n0_; have HO_1025002 := n1_; have HO1028 := n2_; have HO1031 := n3_; have BK1024 := n4_; have HB := n5_; clear n0_ n1_ n2_ n3_ n4_ n5_; (try clear hb); (try clear hb2); (try clear hk); (try clear hi); (try clear ho0); (try clear ho1); have hcz17_0 : w16.cell? ⟨gb1024, 0, none⟩ = some (.int .i64 x1025000_1) := (blk_cell BK1024.out 0).trans rfl; have hcz17_1 : w16.cell? ⟨gb1024, 1, none⟩ = some (.slice Ao14 x1025001_1.length co14) := (blk_cell BK1024.out 1).trans rfl; have hcz17_2 : w16.cell? ⟨gb1024, 2, none⟩ = some (.slice Ao15 x1025002_1.length co15) := (blk_cell BK1024.out 2).trans rfl; have hfz17_0 := blk_frozen BK1024.out 0; have hfz17_1 := blk_frozen BK1024.out 1; have hfz17_2 := blk_frozen BK1024.out 2; obtain ⟨Ao18, co18, eo18⟩ := Kd.R_slice HO1028.out; subst eo18; obtain ⟨Ao19, co19, eo19⟩ := Kd.R_slice HO1031.out; subst eo19))
          go_roundg k1
          case measure => have := HK1.out; omega
          case rel => exact ⟨(wrap64 (x4_1 + 1)), (t1025), (t1026), (t1029), (.slice Ao18 t1026.length co18), (.slice Ao19 t1029.length co19), (by rfl), H', ⟨by have := HK1.out; omega⟩, ⟨by (with_reducible repeat (first | apply Kd.R_alloc | apply Kd.R_drewN | apply Kd.R_drew )); exact Kd.R_mono (Kd.R_far (p := ⟨gb1024, 2, none⟩) (Kd.R_far (p := ⟨gb1024, 1, none⟩) (Kd.R_far (p := ⟨gb1024, 0, none⟩) (Kd.R_types HO1028.out BK1024.out (by decide)) (fun _ hk => hk.2) (.int .i64 t1025)) (fun _ hk => hk.2) (.slice Ao18 t1026.length co18)) (fun _ hk => hk.2) (.slice Ao19 t1029.length co19)) (fun _ hk => trivial)⟩, ⟨by (with_reducible repeat (first | apply Kd.R_alloc | apply Kd.R_drewN | apply Kd.R_drew )); exact Kd.R_mono (Kd.R_far (p := ⟨gb1024, 2, none⟩) (Kd.R_far (p := ⟨gb1024, 1, none⟩) (Kd.R_far (p := ⟨gb1024, 0, none⟩) (Kd.R_types HO1031.out BK1024.out (by decide)) (fun _ hk => hk.2) (.int .i64 t1025)) (fun _ hk => hk.2) (.slice Ao18 t1026.length co18)) (fun _ hk => hk.2) (.slice Ao19 t1029.length co19)) (fun _ hk => trivial)⟩, ⟨by (with_reducible repeat (first | refine blk_drewN ?_ _ | refine blk_drew ?_ | refine blk_alloc ?_ _ )); refine blk_put (cs := #[.int .i64 t1025, .slice Ao18 t1026.length co18, .slice Ao15 x1025002_1.length co15]) ?_ 2 _ rfl; (with_reducible repeat (first | refine blk_drewN ?_ _ | refine blk_drew ?_ | refine blk_alloc ?_ _ )); refine blk_put (cs := #[.int .i64 t1025, .slice Ao14 x1025001_1.length co14, .slice Ao15 x1025002_1.length co15]) ?_ 1 _ rfl; (with_reducible repeat (first | refine blk_drewN ?_ _ | refine blk_drew ?_ | refine blk_alloc ?_ _ )); refine blk_put (cs := #[.int .i64 x1025000_1, .slice Ao14 x1025001_1.length co14, .slice Ao15 x1025002_1.length co15]) ?_ 0 _ rfl; (with_reducible repeat (first | refine blk_drewN ?_ _ | refine blk_drew ?_ | refine blk_alloc ?_ _ )); exact BK1024.out⟩, ⟨by repeat ((with_reducible first | exact HB.out | refine below_set ?_ GE1024.out))⟩⟩
        · rw [if_neg c11] at H
          have c11b0 : decide (x4_1 < (x1025001_1.length : Int)) = false := decide_eq_false c11
          clear c11
          (skip)
          have H' := Aside0.mk H
          clear H
          have hcz20_0 : wr.cell? ⟨gb1024, 0, none⟩ = some (.int .i64 x1025000_1) := (blk_cell BK1024.out 0).trans rfl
          have hcz20_1 : wr.cell? ⟨gb1024, 1, none⟩ = some (u1025001) := (blk_cell BK1024.out 1).trans rfl
          have hcz20_2 : wr.cell? ⟨gb1024, 2, none⟩ = some (u1025002) := (blk_cell BK1024.out 2).trans rfl
          have hfz20_0 := blk_frozen BK1024.out 0
          have hfz20_1 := blk_frozen BK1024.out 1
          have hfz20_2 := blk_frozen BK1024.out 2
          obtain ⟨Ao21, co21, eo21⟩ := Kd.R_slice HO_1025001.out
          subst eo21
          obtain ⟨Ao22, co22, eo22⟩ := Kd.R_slice HO_1025002.out
          subst eo22
          go_wp2
          go_loopg [6] k1 (fun kq v6 w' => ∃ (x6_2 : Int) (x1025000_2 : Int) (x1025001_2 : List Int) (x1025002_2 : List (S57)) (u1025001 : Value) (u1025002 : Value), v6 = .int .i64 x6_2 ∧ Aside0 (laws_FnAllFree.l1 kq (x1025002_1.length : Int) x6_2 x1025000_2 x1025001_2 x1025002_2 = some r) ∧ Aside0 (kq ≤ k1) ∧ Aside0 (Kd.R (Kd.int .i64) 3 w' w.heap.size (fun _ => True) u1025001 x1025001_2) ∧ Aside0 (Kd.R k57 57 w' w.heap.size (fun _ => True) u1025002 x1025002_2) ∧ Aside0 (w'.heap[gb1024]? = some (.cells #[.int .i64 x1025000_2, u1025001, u1025002] 25 (0, 0))) ∧ Aside0 (Below w.heap.size w w'))
          case atStart => exact ⟨(0), (x1025000_1), (x1025001_1), (x1025002_1), (.slice Ao21 x1025001_1.length co21), (.slice Ao22 x1025002_1.length co22), (by rfl), H', ⟨Nat.le_refl _⟩, ⟨by (with_reducible repeat (first | apply Kd.R_alloc | apply Kd.R_drewN | apply Kd.R_drew )); exact HO_1025001.out⟩, ⟨by (with_reducible repeat (first | apply Kd.R_alloc | apply Kd.R_drewN | apply Kd.R_drew )); exact HO_1025002.out⟩, ⟨by (with_reducible repeat (first | refine blk_drewN ?_ _ | refine blk_drew ?_ | refine blk_alloc ?_ _ )); exact BK1024.out⟩, ⟨by repeat ((with_reducible exact HB.out))⟩⟩
          case round =>
            clear H'
            clear c11b0
            clear hcz20_0
            clear hcz20_1
            clear hcz20_2
            clear hfz20_0
            clear hfz20_1
            clear hfz20_2
            obtain ⟨x6_2, x1025000_2, x1025001_2, x1025002_2, u1025001, u1025002, rfl, HA, HK2, HO_1025001, HO_1025002, BK1024, HB⟩ := hrel
            cases gk with
            | zero => exact absurd HA.out (by simp [laws_FnAllFree.l1])
            | succ k2 =>
              have H := HA.out
              clear HA
              simp only [laws_FnAllFree.l1] at H
              by_cases c23 : x6_2 < 2
              · rw [if_pos c23] at H
                have c23b0 : decide (x6_2 < 2) = true := decide_eq_true c23
                clear c23
                replace H := Option.bind_eq_some_iff.mp H
                obtain ⟨⟨t1033, t1034, t1037, t1040⟩, A240, H⟩ := H
                replace H : (if t1040 = true then (laws_FnAllFree.l1 k2 (x1025002_1.length : Int) (wrap64 (x6_2 + 1)) t1033 t1034 t1037) else (none)) = some r := H
                have A24 := Aside0.mk A240
                clear A240
                by_cases c25 : t1040 = true
                · subst c25
                  have H1 : (laws_FnAllFree.l1 k2 (x1025002_1.length : Int) (wrap64 (x6_2 + 1)) t1033 t1034 t1037) = some r := by rw [if_pos rfl] at H; exact H
                  clear H
                  have H := H1
                  clear H1
                  have H' := Aside0.mk H
                  clear H
                  have hcz26_0 : wr.cell? ⟨gb1024, 0, none⟩ = some (.int .i64 x1025000_2) := (blk_cell BK1024.out 0).trans rfl
                  have hcz26_1 : wr.cell? ⟨gb1024, 1, none⟩ = some (u1025001) := (blk_cell BK1024.out 1).trans rfl
                  have hcz26_2 : wr.cell? ⟨gb1024, 2, none⟩ = some (u1025002) := (blk_cell BK1024.out 2).trans rfl
                  have hfz26_0 := blk_frozen BK1024.out 0
                  have hfz26_1 := blk_frozen BK1024.out 1
                  have hfz26_2 := blk_frozen BK1024.out 2
                  obtain ⟨Ao27, co27, eo27⟩ := Kd.R_slice HO_1025001.out
                  subst eo27
                  obtain ⟨Ao28, co28, eo28⟩ := Kd.R_slice HO_1025002.out
                  subst eo28
                  go_wp2_with (first | ((with_reducible refine gate_callee (f := 32) rfl ?_); refine goesL_ (some 37) rfl rfl Try.func32 (by kernel_rfl) rfl #[.agg #[.int .i64 x1025000_2, .slice Ao27 x1025001_2.length co27, .slice Ao28 x1025002_2.length co28]] rfl (by (try simp only [List.map_toArray, List.map_cons, List.map_nil]); rfl) ?_; (with_reducible refine (impl_AdvanceEpoch.calls k2 x1025000_2 _ _ x1025001_2 _ _ x1025002_2 t1033 t1034 t1037 true _ ?side1 ?side2 ?side3 ?side4 A24.out).mono ?_); (case side1 => repeat (exact (Kd.R_reads' HO_1025001.out).2.2)); (case side2 => exact (Kd.R_reads' HO_1025001.out).2.1); (case side3 => repeat (exact (Kd.R_reads' HO_1025002.out).2.2)); (case side4 => exact (Kd.R_reads' HO_1025002.out).2.1); rintro e w29 ⟨v1035, v1038, rfl, ho0, ho1, hb⟩; refine ⟨_, rfl, ?_⟩; have n0_ := Aside0.mk (Kd.R_elder' (by (with_reducible repeat (first | apply Kd.R_alloc | apply Kd.R_drewN | apply Kd.R_drew )); exact HO_1025001.out) (Kd.R_base ho0) hb); have n1_ := Aside0.mk (Kd.R_elder' (by (with_reducible repeat (first | apply Kd.R_alloc | apply Kd.R_drewN | apply Kd.R_drew )); exact HO_1025002.out) (Kd.R_base ho1) hb); have n2_ := Aside0.mk (Kd.R_lower (Kd.R_new' ho0 (Kd.R_lt (by (with_reducible repeat (first | apply Kd.R_alloc | apply Kd.R_drewN | apply Kd.R_drew )); exact HO_1025001.out))) (below_size (by repeat ((with_reducible exact HB.out))))); have n3_ := Aside0.mk (Kd.R_lower (Kd.R_new' ho1 (Kd.R_lt (by (with_reducible repeat (first | apply Kd.R_alloc | apply Kd.R_drewN | apply Kd.R_drew )); exact HO_1025002.out))) (below_size (by repeat ((with_reducible exact HB.out))))); have n4_ := Aside0.mk (blk_below (g := gb1024) (o := .cells #[.int .i64 x1025000_2, .slice Ao27 x1025001_2.length co27, .slice Ao28 x1025002_2.length co28] 25 (0, 0)) (by (with_reducible repeat (first | refine blk_drewN ?_ _ | refine blk_drew ?_ | refine blk_alloc ?_ _ )); exact BK1024.out) hb); have n5_ := Aside0.mk (below_step (by repeat ((with_reducible exact HB.out))) hb); clear HO_1025001; clear HO_1025002; clear BK1024; clear HB; have HO_1025001 := n0_; have HO_1025002 := n1_; have HO1036 := n2_; have HO1039 := n3_; have BK1024 := n4_; have HB := n5_; clear n0_ n1_ n2_ n3_ n4_ n5_; (try clear hb); (try clear hb2); (try clear hk); (try clear hi); (try clear ho0); (try clear ho1)) | ((with_reducible refine gate_dst (N := 7) rfl ?_); (try (refine gate_guard (by rfl) ?_; dsimp only)); refine box_event ?hg (N := 7) ?hd (cs := #[.int .i64 0, .slice none 0 0, .slice none 0 0]) (t := 25) ?hr ?_; (case hd => rfl); (case hg => rfl); (case hr => (go_simp; done)); intro gb1041 hg w30 hbox hb; have n0_ := Aside0.mk (Kd.R_below (by (with_reducible repeat (first | apply Kd.R_alloc | apply Kd.R_drewN | apply Kd.R_drew )); exact HO_1025001.out) hb); have n1_ := Aside0.mk (Kd.R_below (by (with_reducible repeat (first | apply Kd.R_alloc | apply Kd.R_drewN | apply Kd.R_drew )); exact HO_1025002.out) hb); have n2_ := Aside0.mk (Kd.R_below (by (with_reducible repeat (first | apply Kd.R_alloc | apply Kd.R_drewN | apply Kd.R_drew )); exact HO1036.out) hb); have n3_ := Aside0.mk (Kd.R_below (by (with_reducible repeat (first | apply Kd.R_alloc | apply Kd.R_drewN | apply Kd.R_drew )); exact HO1039.out) hb); have n4_ := Aside0.mk (blk_below (g := gb1024) (o := .cells #[.int .i64 x1025000_2, .slice Ao27 x1025001_2.length co27, .slice Ao28 x1025002_2.length co28] 25 (0, 0)) (by (with_reducible repeat (first | refine blk_drewN ?_ _ | refine blk_drew ?_ | refine blk_alloc ?_ _ )); exact BK1024.out) hb); have n5_ := Aside0.mk (below_step (by repeat ((with_reducible exact HB.out))) hb); have n6_ := Aside0.mk (hbox); have n7_ := Aside0.mk ((by rw [hg]; exact (below_size (by repeat ((with_reducible exact HB.out)))) : w.heap.size ≤ gb1041)); have n8_ := Aside0.mk ((by rw [hg]; exact (below_size (by repeat ((with_reducible exact HB.out)))) : w.heap.size ≤ gb1041)); have n9_ := Aside0.mk ((by rw [hg]; exact Nat.ne_of_lt (blk_lt (g := gb1024) (o := .cells #[.int .i64 x1025000_2, .slice Ao27 x1025001_2.length co27, .slice Ao28 x1025002_2.length co28] 25 (0, 0)) (by (with_reducible repeat (first | refine blk_drewN ?_ _ | refine blk_drew ?_ | refine blk_alloc ?_ _ )); exact BK1024.out)) : gb1024 ≠ gb1041)); have n10_ := Aside0.mk ((by rw [hg]; exact Nat.ne_of_gt (blk_lt (g := gb1024) (o := .cells #[.int .i64 x1025000_2, .slice Ao27 x1025001_2.length co27, .slice Ao28 x1025002_2.length co28] 25 (0, 0)) (by (with_reducible repeat (first | refine blk_drewN ?_ _ | refine blk_drew ?_ | refine blk_alloc ?_ _ )); exact BK1024.out)) : gb1041 ≠ gb1024)); clear HO_1025001; clear HO_1025002; clear HO1036; clear HO1039; clear BK1024; clear HB; have HO_1025001 := n0_; have HO_1025002 := n1_; have HO1036 := n2_; have HO1039 := n3_; have BK1024 := n4_; have HB := n5_; have BK1041 := n6_; have GW1041 := n7_; have GE1041 := n8_; have NB1024_1041 := n9_; have NB1041_1024 := n10_; clear n0_ n1_ n2_ n3_ n4_ n5_ n6_ n7_ n8_ n9_ n10_; clear hb hbox hg; have hnb31 := NB1041_1024.out; have hnc31 := NB1024_1041.out; have hcz32_0 : w30.cell? ⟨gb1041, 0, none⟩ = some (.int .i64 0) := (blk_cell BK1041.out 0).trans rfl; have hcz32_1 : w30.cell? ⟨gb1041, 1, none⟩ = some (.slice none 0 0) := (blk_cell BK1041.out 1).trans rfl; have hcz32_2 : w30.cell? ⟨gb1041, 2, none⟩ = some (.slice none 0 0) := (blk_cell BK1041.out 2).trans rfl; have hfz32_0 := blk_frozen BK1041.out 0; have hfz32_1 := blk_frozen BK1041.out 1; have hfz32_2 := blk_frozen BK1041.out 2; obtain ⟨Ao33, co33, eo33⟩ := Kd.R_slice HO1036.out; subst eo33; obtain ⟨Ao34, co34, eo34⟩ := Kd.R_slice HO1039.out; subst eo34; have hcz35_0 : w30.cell? ⟨gb1024, 0, none⟩ = some (.int .i64 x1025000_2) := (blk_cell BK1024.out 0).trans rfl; have hcz35_1 : w30.cell? ⟨gb1024, 1, none⟩ = some (.slice Ao27 x1025001_2.length co27) := (blk_cell BK1024.out 1).trans rfl; have hcz35_2 : w30.cell? ⟨gb1024, 2, none⟩ = some (.slice Ao28 x1025002_2.length co28) := (blk_cell BK1024.out 2).trans rfl; have hfz35_0 := blk_frozen BK1024.out 0; have hfz35_1 := blk_frozen BK1024.out 1; have hfz35_2 := blk_frozen BK1024.out 2))
                  go_roundg k2
                  case measure => have := HK1.out; have := HK2.out; omega
                  case rel => exact ⟨(wrap64 (x6_2 + 1)), (t1033), (t1034), (t1037), (.slice Ao33 t1034.length co33), (.slice Ao34 t1037.length co34), (by rfl), H', ⟨by have := HK1.out; have := HK2.out; omega⟩, ⟨by (with_reducible repeat (first | apply Kd.R_alloc | apply Kd.R_drewN | apply Kd.R_drew )); exact Kd.R_mono (Kd.R_far (p := ⟨gb1024, 2, none⟩) (Kd.R_far (p := ⟨gb1024, 1, none⟩) (Kd.R_far (p := ⟨gb1024, 0, none⟩) (Kd.R_far (p := ⟨gb1041, 2, none⟩) (Kd.R_far (p := ⟨gb1041, 1, none⟩) (Kd.R_far (p := ⟨gb1041, 0, none⟩) (Kd.R_types (Kd.R_types HO1036.out BK1041.out (by decide)) BK1024.out (by decide)) (fun _ hk => hk.1.2) (.int .i64 t1033)) (fun _ hk => hk.1.2) (.slice Ao33 t1034.length co33)) (fun _ hk => hk.1.2) (.slice Ao34 t1037.length co34)) (fun _ hk => hk.2) (.int .i64 t1033)) (fun _ hk => hk.2) (.slice Ao33 t1034.length co33)) (fun _ hk => hk.2) (.slice Ao34 t1037.length co34)) (fun _ hk => trivial)⟩, ⟨by (with_reducible repeat (first | apply Kd.R_alloc | apply Kd.R_drewN | apply Kd.R_drew )); exact Kd.R_mono (Kd.R_far (p := ⟨gb1024, 2, none⟩) (Kd.R_far (p := ⟨gb1024, 1, none⟩) (Kd.R_far (p := ⟨gb1024, 0, none⟩) (Kd.R_far (p := ⟨gb1041, 2, none⟩) (Kd.R_far (p := ⟨gb1041, 1, none⟩) (Kd.R_far (p := ⟨gb1041, 0, none⟩) (Kd.R_types (Kd.R_types HO1039.out BK1041.out (by decide)) BK1024.out (by decide)) (fun _ hk => hk.1.2) (.int .i64 t1033)) (fun _ hk => hk.1.2) (.slice Ao33 t1034.length co33)) (fun _ hk => hk.1.2) (.slice Ao34 t1037.length co34)) (fun _ hk => hk.2) (.int .i64 t1033)) (fun _ hk => hk.2) (.slice Ao33 t1034.length co33)) (fun _ hk => hk.2) (.slice Ao34 t1037.length co34)) (fun _ hk => trivial)⟩, ⟨by (with_reducible repeat (first | refine blk_drewN ?_ _ | refine blk_drew ?_ | refine blk_alloc ?_ _ )); refine blk_put (cs := #[.int .i64 t1033, .slice Ao33 t1034.length co33, .slice Ao28 x1025002_2.length co28]) ?_ 2 _ rfl; (with_reducible repeat (first | refine blk_drewN ?_ _ | refine blk_drew ?_ | refine blk_alloc ?_ _ )); refine blk_put (cs := #[.int .i64 t1033, .slice Ao27 x1025001_2.length co27, .slice Ao28 x1025002_2.length co28]) ?_ 1 _ rfl; (with_reducible repeat (first | refine blk_drewN ?_ _ | refine blk_drew ?_ | refine blk_alloc ?_ _ )); refine blk_put (cs := #[.int .i64 x1025000_2, .slice Ao27 x1025001_2.length co27, .slice Ao28 x1025002_2.length co28]) ?_ 0 _ rfl; (with_reducible repeat (first | refine blk_drewN ?_ _ | refine blk_drew ?_ | refine blk_alloc ?_ _ )); refine blk_far ?_ NB1024_1041.out _; (with_reducible repeat (first | refine blk_drewN ?_ _ | refine blk_drew ?_ | refine blk_alloc ?_ _ )); refine blk_far ?_ NB1024_1041.out _; (with_reducible repeat (first | refine blk_drewN ?_ _ | refine blk_drew ?_ | refine blk_alloc ?_ _ )); refine blk_far ?_ NB1024_1041.out _; (with_reducible repeat (first | refine blk_drewN ?_ _ | refine blk_drew ?_ | refine blk_alloc ?_ _ )); exact BK1024.out⟩, ⟨by repeat ((with_reducible first | exact HB.out | refine below_set ?_ GE1024.out | refine below_set ?_ GE1041.out))⟩⟩
                · replace c25 := Bool.eq_false_iff.mpr c25
                  subst c25
                  have H1 : (none) = some r := by rw [if_neg (show ¬ (false = true) by decide)] at H; exact H
                  clear H
                  have H := H1
                  clear H1
                  exact absurd H (by simp)
              · rw [if_neg c23] at H
                have c23b0 : decide (x6_2 < 2) = false := decide_eq_false c23
                clear c23
                replace H := Option.bind_eq_some_iff.mp H
                obtain ⟨⟨t1042, t1043, t1046, t1049⟩, A360, H⟩ := H
                replace H : (if (t1049.length : Int) = (x1025002_1.length : Int) then (if (t1046.length : Int) = 0 then ((impl_EpochsOk.f k2 t1042 t1043 t1046).bind fun t1053 => (some t1053)) else (none)) else (none)) = some r := H
                have A36 := Aside0.mk A360
                clear A360
                by_cases c37 : (t1049.length : Int) = (x1025002_1.length : Int)
                · rw [if_pos c37] at H
                  have c37b0 : ((t1049.length : Int) == (x1025002_1.length : Int)) = true := beq_iff_eq.mpr c37
                  have c37b1 : ((t1049.length : Int) != (x1025002_1.length : Int)) = false := bne_eq_false_iff_eq.mpr c37
                  have c37b2 : (t1049.length == x1025002_1.length) = true := by (simp at c37 ⊢; omega)
                  clear c37
                  by_cases c38 : (t1046.length : Int) = 0
                  · rw [if_pos c38] at H
                    have c38b0 : ((t1046.length : Int) == 0) = true := beq_iff_eq.mpr c38
                    have c38b1 : ((t1046.length : Int) != 0) = false := bne_eq_false_iff_eq.mpr c38
                    clear c38
                    replace H := Option.bind_eq_some_iff.mp H
                    obtain ⟨t1053, A390, H⟩ := H
                    replace H : (some t1053) = some r := H
                    have A39 := Aside0.mk A390
                    clear A390
                    obtain rfl := Option.some.inj H
                    have hcz40_0 : wr.cell? ⟨gb1024, 0, none⟩ = some (.int .i64 x1025000_2) := (blk_cell BK1024.out 0).trans rfl
                    have hcz40_1 : wr.cell? ⟨gb1024, 1, none⟩ = some (u1025001) := (blk_cell BK1024.out 1).trans rfl
                    have hcz40_2 : wr.cell? ⟨gb1024, 2, none⟩ = some (u1025002) := (blk_cell BK1024.out 2).trans rfl
                    have hfz40_0 := blk_frozen BK1024.out 0
                    have hfz40_1 := blk_frozen BK1024.out 1
                    have hfz40_2 := blk_frozen BK1024.out 2
                    obtain ⟨Ao41, co41, eo41⟩ := Kd.R_slice HO_1025001.out
                    subst eo41
                    obtain ⟨Ao42, co42, eo42⟩ := Kd.R_slice HO_1025002.out
                    subst eo42
                    go_wp2_with (first | ((with_reducible refine gate_callee (f := 27) rfl ?_); refine goesL_ (some 45) rfl rfl Try.func27 (by kernel_rfl) rfl #[.agg #[.int .i64 x1025000_2, .slice Ao41 x1025001_2.length co41, .slice Ao42 x1025002_2.length co42]] rfl (by (try simp only [List.map_toArray, List.map_cons, List.map_nil]); rfl) ?_; (with_reducible refine (impl_FreeNodes.calls k2 x1025000_2 _ _ x1025001_2 _ _ x1025002_2 t1042 t1043 t1046 t1049 _ ?side1 ?side2 ?side3 ?side4 A36.out).mono ?_); (case side1 => repeat (exact (Kd.R_reads' HO_1025001.out).2.2)); (case side2 => exact (Kd.R_reads' HO_1025001.out).2.1); (case side3 => repeat (exact (Kd.R_reads' HO_1025002.out).2.2)); (case side4 => exact (Kd.R_reads' HO_1025002.out).2.1); rintro e w43 ⟨v1044, v1047, v1050, rfl, ho0, ho1, ho2, hb⟩; refine ⟨_, rfl, ?_⟩; have n0_ := Aside0.mk (Kd.R_mono (Kd.R_told (Kd.R_told (Kd.R_old (by (with_reducible repeat (first | apply Kd.R_alloc | apply Kd.R_drewN | apply Kd.R_drew )); exact HO_1025001.out) hb) (Kd.R_base ho0)) (Kd.R_base ho2)) (fun _ h_ => h_.1)); have n1_ := Aside0.mk (Kd.R_elder' (by (with_reducible repeat (first | apply Kd.R_alloc | apply Kd.R_drewN | apply Kd.R_drew )); exact HO_1025002.out) (Kd.R_base ho1) hb); have n2_ := Aside0.mk (Kd.R_lower (Kd.R_new' ho0 (Kd.R_lt (by (with_reducible repeat (first | apply Kd.R_alloc | apply Kd.R_drewN | apply Kd.R_drew )); exact HO_1025001.out))) (below_size (by repeat ((with_reducible exact HB.out))))); have n3_ := Aside0.mk (Kd.R_lower (Kd.R_new' ho1 (Kd.R_lt (by (with_reducible repeat (first | apply Kd.R_alloc | apply Kd.R_drewN | apply Kd.R_drew )); exact HO_1025002.out))) (below_size (by repeat ((with_reducible exact HB.out))))); have n4_ := Aside0.mk (Kd.R_lower (Kd.R_new' ho2 (Kd.R_lt (by (with_reducible repeat (first | apply Kd.R_alloc | apply Kd.R_drewN | apply Kd.R_drew )); exact HO_1025001.out))) (below_size (by repeat ((with_reducible exact HB.out))))); have n5_ := Aside0.mk (blk_below (g := gb1024) (o := .cells #[.int .i64 x1025000_2, .slice Ao41 x1025001_2.length co41, .slice Ao42 x1025002_2.length co42] 25 (0, 0)) (by (with_reducible repeat (first | refine blk_drewN ?_ _ | refine blk_drew ?_ | refine blk_alloc ?_ _ )); exact BK1024.out) hb); have n6_ := Aside0.mk (below_step (by repeat ((with_reducible exact HB.out))) hb); clear HO_1025001; clear HO_1025002; clear BK1024; clear HB; have HO_1025001 := n0_; have HO_1025002 := n1_; have HO1045 := n2_; have HO1048 := n3_; have HO1051 := n4_; have BK1024 := n5_; have HB := n6_; clear n0_ n1_ n2_ n3_ n4_ n5_ n6_; (try clear hb); (try clear hb2); (try clear hk); (try clear hi); (try clear ho0); (try clear ho1); (try clear ho2)) | ((with_reducible refine gate_dst (N := 9) rfl ?_); (try (refine gate_guard (by rfl) ?_; dsimp only)); refine box_event ?hg (N := 9) ?hd (cs := #[.int .i64 0, .slice none 0 0, .slice none 0 0]) (t := 25) ?hr ?_; (case hd => rfl); (case hg => rfl); (case hr => (go_simp; done)); intro gb1052 hg w44 hbox hb; have n0_ := Aside0.mk (Kd.R_below (by (with_reducible repeat (first | apply Kd.R_alloc | apply Kd.R_drewN | apply Kd.R_drew )); exact HO_1025001.out) hb); have n1_ := Aside0.mk (Kd.R_below (by (with_reducible repeat (first | apply Kd.R_alloc | apply Kd.R_drewN | apply Kd.R_drew )); exact HO_1025002.out) hb); have n2_ := Aside0.mk (Kd.R_below (by (with_reducible repeat (first | apply Kd.R_alloc | apply Kd.R_drewN | apply Kd.R_drew )); exact HO1045.out) hb); have n3_ := Aside0.mk (Kd.R_below (by (with_reducible repeat (first | apply Kd.R_alloc | apply Kd.R_drewN | apply Kd.R_drew )); exact HO1048.out) hb); have n4_ := Aside0.mk (Kd.R_below (by (with_reducible repeat (first | apply Kd.R_alloc | apply Kd.R_drewN | apply Kd.R_drew )); exact HO1051.out) hb); have n5_ := Aside0.mk (blk_below (g := gb1024) (o := .cells #[.int .i64 x1025000_2, .slice Ao41 x1025001_2.length co41, .slice Ao42 x1025002_2.length co42] 25 (0, 0)) (by (with_reducible repeat (first | refine blk_drewN ?_ _ | refine blk_drew ?_ | refine blk_alloc ?_ _ )); exact BK1024.out) hb); have n6_ := Aside0.mk (below_step (by repeat ((with_reducible exact HB.out))) hb); have n7_ := Aside0.mk (hbox); have n8_ := Aside0.mk ((by rw [hg]; exact (below_size (by repeat ((with_reducible exact HB.out)))) : w.heap.size ≤ gb1052)); have n9_ := Aside0.mk ((by rw [hg]; exact (below_size (by repeat ((with_reducible exact HB.out)))) : w.heap.size ≤ gb1052)); have n10_ := Aside0.mk ((by rw [hg]; exact Nat.ne_of_lt (blk_lt (g := gb1024) (o := .cells #[.int .i64 x1025000_2, .slice Ao41 x1025001_2.length co41, .slice Ao42 x1025002_2.length co42] 25 (0, 0)) (by (with_reducible repeat (first | refine blk_drewN ?_ _ | refine blk_drew ?_ | refine blk_alloc ?_ _ )); exact BK1024.out)) : gb1024 ≠ gb1052)); have n11_ := Aside0.mk ((by rw [hg]; exact Nat.ne_of_gt (blk_lt (g := gb1024) (o := .cells #[.int .i64 x1025000_2, .slice Ao41 x1025001_2.length co41, .slice Ao42 x1025002_2.length co42] 25 (0, 0)) (by (with_reducible repeat (first | refine blk_drewN ?_ _ | refine blk_drew ?_ | refine blk_alloc ?_ _ )); exact BK1024.out)) : gb1052 ≠ gb1024)); clear HO_1025001; clear HO_1025002; clear HO1045; clear HO1048; clear HO1051; clear BK1024; clear HB; have HO_1025001 := n0_; have HO_1025002 := n1_; have HO1045 := n2_; have HO1048 := n3_; have HO1051 := n4_; have BK1024 := n5_; have HB := n6_; have BK1052 := n7_; have GW1052 := n8_; have GE1052 := n9_; have NB1024_1052 := n10_; have NB1052_1024 := n11_; clear n0_ n1_ n2_ n3_ n4_ n5_ n6_ n7_ n8_ n9_ n10_ n11_; clear hb hbox hg; have hnb45 := NB1052_1024.out; have hnc45 := NB1024_1052.out; have hcz46_0 : w44.cell? ⟨gb1052, 0, none⟩ = some (.int .i64 0) := (blk_cell BK1052.out 0).trans rfl; have hcz46_1 : w44.cell? ⟨gb1052, 1, none⟩ = some (.slice none 0 0) := (blk_cell BK1052.out 1).trans rfl; have hcz46_2 : w44.cell? ⟨gb1052, 2, none⟩ = some (.slice none 0 0) := (blk_cell BK1052.out 2).trans rfl; have hfz46_0 := blk_frozen BK1052.out 0; have hfz46_1 := blk_frozen BK1052.out 1; have hfz46_2 := blk_frozen BK1052.out 2; obtain ⟨Ao47, co47, eo47⟩ := Kd.R_slice HO1045.out; subst eo47; obtain ⟨Ao48, co48, eo48⟩ := Kd.R_slice HO1048.out; subst eo48; obtain ⟨Ao49, co49, eo49⟩ := Kd.R_slice HO1051.out; subst eo49) | (go_at_call 21; (with_reducible refine (impl_EpochsOk.calls k2 t1042 _ _ t1043 _ _ t1046 t1053 _ ?side1 ?side2 ?side3 ?side4 A39.out).mono ?_); (case side1 => refine (Kd.R_reads' (e := 3) (base := w.heap.size) (ok := fun k_ => (some k_ ≠ (.slice Ao49 t1049.length co49 : Value).ownBlock ∧ some k_ ≠ (.slice Ao41 x1025001_2.length co41 : Value).ownBlock)) (n := t1043.length) (c := co47) ?_).2.2; exact (by (with_reducible repeat (first | apply Kd.R_alloc | apply Kd.R_drewN | apply Kd.R_drew )); exact (Kd.R_mono (Kd.R_far (p := ⟨gb1052, 2, none⟩) (Kd.R_far (p := ⟨gb1052, 1, none⟩) (Kd.R_far (p := ⟨gb1052, 0, none⟩) (Kd.R_types HO1045.out BK1052.out (by decide)) (fun _ hk => hk.2) (.int .i64 t1042)) (fun _ hk => hk.2) (.slice Ao47 t1043.length co47)) (fun _ hk => hk.2) (.slice Ao48 t1046.length co48)) (fun _ h_ => by exact h_.1)))); (case side2 => exact (Kd.R_reads' HO1045.out).2.1); (case side3 => refine (Kd.R_reads' (e := 57) (base := w.heap.size) (ok := fun k_ => (True ∧ some k_ ≠ (.slice Ao42 x1025002_2.length co42 : Value).ownBlock)) (n := t1046.length) (c := co48) ?_).2.2; exact (by (with_reducible repeat (first | apply Kd.R_alloc | apply Kd.R_drewN | apply Kd.R_drew )); exact (Kd.R_mono (Kd.R_far (p := ⟨gb1052, 2, none⟩) (Kd.R_far (p := ⟨gb1052, 1, none⟩) (Kd.R_far (p := ⟨gb1052, 0, none⟩) (Kd.R_types HO1048.out BK1052.out (by decide)) (fun _ hk => hk.2) (.int .i64 t1042)) (fun _ hk => hk.2) (.slice Ao47 t1043.length co47)) (fun _ hk => hk.2) (.slice Ao48 t1046.length co48)) (fun _ h_ => by exact h_.1)))); (case side4 => exact (Kd.R_reads' HO1048.out).2.1); rintro e w50 ⟨rfl, hb⟩; have n0_ := Aside0.mk (Kd.R_below (by (with_reducible repeat (first | apply Kd.R_alloc | apply Kd.R_drewN | apply Kd.R_drew )); exact (Kd.R_mono (Kd.R_far (p := ⟨gb1052, 2, none⟩) (Kd.R_far (p := ⟨gb1052, 1, none⟩) (Kd.R_far (p := ⟨gb1052, 0, none⟩) (Kd.R_types HO_1025001.out BK1052.out (by decide)) (fun _ hk => hk.2) (.int .i64 t1042)) (fun _ hk => hk.2) (.slice Ao47 t1043.length co47)) (fun _ hk => hk.2) (.slice Ao48 t1046.length co48)) (fun _ h_ => by exact h_.1))) hb); have n1_ := Aside0.mk (Kd.R_below (by (with_reducible repeat (first | apply Kd.R_alloc | apply Kd.R_drewN | apply Kd.R_drew )); exact (Kd.R_mono (Kd.R_far (p := ⟨gb1052, 2, none⟩) (Kd.R_far (p := ⟨gb1052, 1, none⟩) (Kd.R_far (p := ⟨gb1052, 0, none⟩) (Kd.R_types HO_1025002.out BK1052.out (by decide)) (fun _ hk => hk.2) (.int .i64 t1042)) (fun _ hk => hk.2) (.slice Ao47 t1043.length co47)) (fun _ hk => hk.2) (.slice Ao48 t1046.length co48)) (fun _ h_ => by exact h_.1))) hb); have n2_ := Aside0.mk (Kd.R_below (by (with_reducible repeat (first | apply Kd.R_alloc | apply Kd.R_drewN | apply Kd.R_drew )); exact (Kd.R_mono (Kd.R_far (p := ⟨gb1052, 2, none⟩) (Kd.R_far (p := ⟨gb1052, 1, none⟩) (Kd.R_far (p := ⟨gb1052, 0, none⟩) (Kd.R_types HO1045.out BK1052.out (by decide)) (fun _ hk => hk.2) (.int .i64 t1042)) (fun _ hk => hk.2) (.slice Ao47 t1043.length co47)) (fun _ hk => hk.2) (.slice Ao48 t1046.length co48)) (fun _ h_ => by exact h_.1))) hb); have n3_ := Aside0.mk (Kd.R_below (by (with_reducible repeat (first | apply Kd.R_alloc | apply Kd.R_drewN | apply Kd.R_drew )); exact (Kd.R_mono (Kd.R_far (p := ⟨gb1052, 2, none⟩) (Kd.R_far (p := ⟨gb1052, 1, none⟩) (Kd.R_far (p := ⟨gb1052, 0, none⟩) (Kd.R_types HO1048.out BK1052.out (by decide)) (fun _ hk => hk.2) (.int .i64 t1042)) (fun _ hk => hk.2) (.slice Ao47 t1043.length co47)) (fun _ hk => hk.2) (.slice Ao48 t1046.length co48)) (fun _ h_ => by exact h_.1))) hb); have n4_ := Aside0.mk (Kd.R_below (by (with_reducible repeat (first | apply Kd.R_alloc | apply Kd.R_drewN | apply Kd.R_drew )); exact (Kd.R_mono (Kd.R_far (p := ⟨gb1052, 2, none⟩) (Kd.R_far (p := ⟨gb1052, 1, none⟩) (Kd.R_far (p := ⟨gb1052, 0, none⟩) (Kd.R_types HO1051.out BK1052.out (by decide)) (fun _ hk => hk.2) (.int .i64 t1042)) (fun _ hk => hk.2) (.slice Ao47 t1043.length co47)) (fun _ hk => hk.2) (.slice Ao48 t1046.length co48)) (fun _ h_ => by exact h_.1))) hb); have n5_ := Aside0.mk (blk_below (g := gb1024) (o := .cells #[.int .i64 x1025000_2, .slice Ao41 x1025001_2.length co41, .slice Ao42 x1025002_2.length co42] 25 (0, 0)) (by (with_reducible repeat (first | refine blk_drewN ?_ _ | refine blk_drew ?_ | refine blk_alloc ?_ _ )); refine blk_far ?_ NB1024_1052.out _; (with_reducible repeat (first | refine blk_drewN ?_ _ | refine blk_drew ?_ | refine blk_alloc ?_ _ )); refine blk_far ?_ NB1024_1052.out _; (with_reducible repeat (first | refine blk_drewN ?_ _ | refine blk_drew ?_ | refine blk_alloc ?_ _ )); refine blk_far ?_ NB1024_1052.out _; (with_reducible repeat (first | refine blk_drewN ?_ _ | refine blk_drew ?_ | refine blk_alloc ?_ _ )); exact BK1024.out) hb); have n6_ := Aside0.mk (blk_below (g := gb1052) (o := .cells #[.int .i64 t1042, .slice Ao47 t1043.length co47, .slice Ao48 t1046.length co48] 25 (0, 0)) (by (with_reducible repeat (first | refine blk_drewN ?_ _ | refine blk_drew ?_ | refine blk_alloc ?_ _ )); refine blk_put (cs := #[.int .i64 t1042, .slice Ao47 t1043.length co47, .slice none 0 0]) ?_ 2 _ rfl; (with_reducible repeat (first | refine blk_drewN ?_ _ | refine blk_drew ?_ | refine blk_alloc ?_ _ )); refine blk_put (cs := #[.int .i64 t1042, .slice none 0 0, .slice none 0 0]) ?_ 1 _ rfl; (with_reducible repeat (first | refine blk_drewN ?_ _ | refine blk_drew ?_ | refine blk_alloc ?_ _ )); refine blk_put (cs := #[.int .i64 0, .slice none 0 0, .slice none 0 0]) ?_ 0 _ rfl; (with_reducible repeat (first | refine blk_drewN ?_ _ | refine blk_drew ?_ | refine blk_alloc ?_ _ )); exact BK1052.out) hb); have n7_ := Aside0.mk (below_step (by repeat ((with_reducible first | exact HB.out | refine below_set ?_ GE1052.out))) hb); clear HO_1025001; clear HO_1025002; clear HO1045; clear HO1048; clear HO1051; clear BK1024; clear BK1052; clear HB; have HO_1025001 := n0_; have HO_1025002 := n1_; have HO1045 := n2_; have HO1048 := n3_; have HO1051 := n4_; have BK1024 := n5_; have BK1052 := n6_; have HB := n7_; clear n0_ n1_ n2_ n3_ n4_ n5_ n6_ n7_; (try clear hb); (try clear hb2); (try clear hk); (try clear hi)))
                    go_ret
                    exact ⟨by rfl, by repeat ((with_reducible exact HB.out))⟩
                  · rw [if_neg c38] at H
                    exact absurd H (by simp)
                · rw [if_neg c37] at H
                  exact absurd H (by simp)

/-- THE ONE PURE STATEMENT of laws_FnAllFree: yours. -/
def laws_FnAllFree.Pure : Prop := ∀ (l0 : List Int), l0.length ≤ maxLen → l0.length * 1 ≤ 140737488351232 → (∀ x ∈ l0, (Lit.int .u8 x).wf = true) → ∃ k, laws_FnAllFree.f k l0 = some true
theorem laws_FnAllFree.walk (P : laws_FnAllFree.Pure) (a0 : Option Addr) (len0 cap0 : Nat) (z0 : List Int) (w : World) (w0 : (a0 = none ∧ len0 = 0 ∧ cap0 = 0 ∧ z0 = []) ∨ ∃ x, a0 = some x ∧ len0 ≤ cap0 ∧ cap0 ≤ maxLen ∧ z0.length = cap0 ∧ (∀ i, i < z0.length → w.cell? (x.add i) = some (.int .u8 (z0.getD i 0))) ∧ ∀ n ∈ z0, (Lit.int .u8 n).wf = true) (y0 : len0 * 1 ≤ 140737488351232) :
    Calls Try.prog 11 #[.slice a0 len0 cap0] w fun e w' => e = .returned (.bool true) ∧ Below w.heap.size w w' := by
  obtain ⟨l0, rfl, hr0, hm0, hw0, hc0⟩ := ReadsInt.ofRowC w0
  obtain ⟨k, h⟩ := P l0 hm0 y0 hw0
  refine (laws_FnAllFree.calls k _ _ l0 true w (Kd.C_of_reads (d := (0 : Int)) (h1 := fun _ => rfl) hr0) hc0 h).mono ?_
  rintro e w' ⟨rfl, hd⟩
  exact ⟨rfl, hd⟩

end Go.Proofs.Ytdbhpcekjcohdaa.Q
