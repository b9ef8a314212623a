import Derived.Test.YtdbhpcekjcohdaaB0
import Derived.Test.YtdbhpcekjcohdaaG13
import Derived.Test.YtdbhpcekjcohdaaG22
import Derived.Test.YtdbhpcekjcohdaaG24
import Derived.Test.YtdbhpcekjcohdaaG26
import Derived.Test.YtdbhpcekjcohdaaG31
import Derived.Test.YtdbhpcekjcohdaaG48
import Derived.Test.YtdbhpcekjcohdaaWApart
import Derived.Test.YtdbhpcekjcohdaaWFoot
import Derived.Test.YtdbhpcekjcohdaaWGuard
import Derived.Test.YtdbhpcekjcohdaaWKept
import Derived.Test.YtdbhpcekjcohdaaWLast
import Derived.Test.YtdbhpcekjcohdaaWMore
import Derived.Test.YtdbhpcekjcohdaaWN
import Derived.Test.YtdbhpcekjcohdaaWRepsOne
import Derived.Test.YtdbhpcekjcohdaaWShare
import Derived.Test.YtdbhpcekjcohdaaWTab
import Derived.Test.YtdbhpcekjcohdaaWWords
namespace Go.Proofs.Ytdbhpcekjcohdaa.Q
open Go.RowKit Go.Proofs.YtdbhpcekjcohdaaW.PrintWords Go.Proofs.YtdbhpcekjcohdaaW.PrintLast Go.Proofs.YtdbhpcekjcohdaaW.PrintMore
attribute [local go_sem] max2_int min2_int max_two min_two max_three min_three max_four min_four   -- for this text's walks alone
set_option linter.unusedVariables false
set_option linter.unusedSimpArgs false

/-! ### spec_l08Epochs: function 58 -/
def spec_l08Epochs.l0 : Nat → Int → List Int → Int → Int → Int → List Int → List (S57) → Option (Int × List Int × (List (S57)) × Int × Int)
  | 0, _, _, _, _, _, _, _ => none
  | k + 1, x4, x1000, x1001, x1002, x769000, x769001, x769002 => (spec_l01Below.f x1000 x1001 x1002 20).bind fun bt769 => (if x4 < bt769.1 then ((spec_l01Below.f x1000 bt769.2.1 bt769.2.2 4).bind fun bt772 => ((spec_l01Below.f x1000 bt772.2.1 bt772.2.2 5).bind fun bt775 => (if bt775.1 = 0 then ((spec_PinLook.f k x769000 x769001 x769002 bt772.1).bind fun bt778 => (spec_l08Epochs.l0 k (wrap64 (x4 + 1)) x1000 bt775.2.1 bt775.2.2 bt778.1 bt778.2.1 bt778.2.2.1)) else (if bt775.1 = 1 then ((spec_UnpinLook.f k x769000 x769001 x769002 bt772.1).bind fun bt786 => (spec_l08Epochs.l0 k (wrap64 (x4 + 1)) x1000 bt775.2.1 bt775.2.2 bt786.1 bt786.2.1 bt786.2.2.1)) else (if bt775.1 = 2 then ((spec_l01Below.f x1000 bt775.2.1 bt775.2.2 9).bind fun bt794 => ((spec_RetireNode.f k x769000 x769001 x769002 (wrap64 (1 + bt794.1))).bind fun bt797 => (spec_l08Epochs.l0 k (wrap64 (x4 + 1)) x1000 bt794.2.1 bt794.2.2 bt797.1 bt797.2.1 bt797.2.2.1))) else (if bt775.1 = 3 then ((spec_AdvanceEpoch.f k x769000 x769001 x769002).bind fun bt805 => (spec_l08Epochs.l0 k (wrap64 (x4 + 1)) x1000 bt775.2.1 bt775.2.2 bt805.1 bt805.2.1 bt805.2.2.1)) else ((spec_FreeNodes.f k x769000 x769001 x769002).bind fun bt813 => (spec_l08Epochs.l0 k (wrap64 (x4 + 1)) x1000 bt775.2.1 bt775.2.2 bt813.1 bt813.2.1 bt813.2.2.1)))))))) else (some (x769000, x769001, x769002, bt769.2.1, bt769.2.2)))
def spec_l08Epochs.f (k : Nat) (s0_0 : List Int) (s0_1 : Int) (s0_2 : Int) : Option (Int × List Int × (List (S57)) × Int × Int) := (spec_l01Below.f s0_0 s0_1 s0_2 4).bind fun bt758 => ((spec_EpochsNew.f (wrap64 (1 + bt758.1))).bind fun bt761 => (spec_l08Epochs.l0 k 0 s0_0 bt758.2.1 bt758.2.2 bt761.1 bt761.2.1 bt761.2.2))
theorem spec_l08Epochs.mono_l : ∀ k, (∀ y0 y1 y2 y3 y4 y5 y6, LeO (spec_l08Epochs.l0 k y0 y1 y2 y3 y4 y5 y6) (spec_l08Epochs.l0 (k + 1) y0 y1 y2 y3 y4 y5 y6))
  | 0 => fun _ _ _ _ _ _ _ r h => by simp [spec_l08Epochs.l0] at h
  | k + 1 => by
    have ih0 := spec_l08Epochs.mono_l k
    · intro y0 y1 y2 y3 y4 y5 y6
      unfold spec_l08Epochs.l0
      repeat' first | (with_reducible exact ih0 _ _ _ _ _ _ _) | (with_reducible exact spec_AdvanceEpoch.mono _ _ _ _) | (with_reducible exact spec_FreeNodes.mono _ _ _ _) | (with_reducible exact spec_PinLook.mono _ _ _ _ _) | (with_reducible exact spec_RetireNode.mono _ _ _ _ _) | (with_reducible exact spec_UnpinLook.mono _ _ _ _ _) | (with_reducible exact LeO.refl _) | (with_reducible refine LeO.ite ?_ ?_) | (with_reducible refine LeO.bind ?_ (fun _ => ?_))
theorem spec_l08Epochs.mono : ∀ a0 a1 a2 k, LeO (spec_l08Epochs.f k a0 a1 a2) (spec_l08Epochs.f (k + 1) a0 a1 a2) := by
  intro a0 a1 a2 k
  have ih0 := spec_l08Epochs.mono_l k
  unfold spec_l08Epochs.f
  repeat' first | (with_reducible exact ih0 _ _ _ _ _ _ _) | (with_reducible exact LeO.refl _) | (with_reducible refine LeO.bind ?_ (fun _ => ?_))
def spec_l08Epochs.T13 : Bool × List (List Nat × List Nat) := (true, [([], []), ([], []), ([1], [1]), ([2], [2]), ([0, 3, 2], [0, 3]), ([4], [4]), ([5], [5]), ([5], [5]), ([6, 4, 0, 1, 2, 3, 4, 5, 6], [6])])
def spec_l08Epochs.B13 : List Nat := [0, 0, 2, 6, 15, 31, 63, 63, 127]
theorem spec_l08Epochs.tab13 : rtab .any (opsOf Try.f58 13) = spec_l08Epochs.T13 := by kernel_rfl
theorem spec_l08Epochs.bits13 : waitsOk spec_l08Epochs.T13.2 spec_l08Epochs.B13 = true := by kernel_rfl
set_option maxHeartbeats 8000000 in
set_option maxRecDepth 100000 in
theorem spec_l08Epochs.calls (k : Nat) (g : Nat) (s0_0 : List Int) (s0_1 : Int) (s0_2 : Int) (r1 : Int) (r2 : List Int) (r3 : List (S57)) (r4 : Int) (r5 : Int) (w0 w : World) (hI : IsS73 w0 w g s0_0 s0_1 s0_2) (hB : Below w0.heap.size w0 w) (h : spec_l08Epochs.f k s0_0 s0_1 s0_2 = some (r1, r2, r3, r4, r5)) :
    Calls Try.prog 58 #[.pointer (some ⟨g, 0, none⟩)] w fun e w' => ∃ v1_ v2_ : Value, e = .returned (.agg #[.int .i64 r1, v1_, v2_]) ∧ Kd.R (Kd.int .i64) 3 w' w.heap.size (fun _ => True) v1_ r2 ∧ Kd.R k57 57 w' w.heap.size (fun _ => True) v2_ r3 ∧ IsS73 w0 w' g s0_0 r4 r5 ∧ Below w0.heap.size w0 w' ∧ KeepBut w w' g none := by
  have hu25 := Try.underlying25
  have HI0 := Aside0.mk hI
  have HK := Aside0.mk (KeepBut.refl w g none)
  have HL := Aside0.mk hB.size
  clear hI
  have HW0 := Aside0.mk hB.size
  have HB := Aside0.mk hB
  clear hB
  have H : ((spec_l01Below.f s0_0 s0_1 s0_2 4).bind fun bt758 => ((spec_EpochsNew.f (wrap64 (1 + bt758.1))).bind fun bt761 => (spec_l08Epochs.l0 k 0 s0_0 bt758.2.1 bt758.2.2 bt761.1 bt761.2.1 bt761.2.2))) = some (r1, r2, r3, r4, r5) := h
  clear h
  replace H := Option.bind_eq_some_iff.mp H
  obtain ⟨⟨t758, t759, t760⟩, A20, H⟩ := H
  replace H : ((spec_EpochsNew.f (wrap64 (1 + t758))).bind fun bt761 => (spec_l08Epochs.l0 k 0 s0_0 t759 t760 bt761.1 bt761.2.1 bt761.2.2)) = some (r1, r2, r3, r4, r5) := H
  have A2 := Aside0.mk A20
  clear A20
  replace H := Option.bind_eq_some_iff.mp H
  obtain ⟨⟨t761, t762, t765⟩, A30, H⟩ := H
  replace H : (spec_l08Epochs.l0 k 0 s0_0 t759 t760 t761 t762 t765) = some (r1, r2, r3, r4, r5) := H
  have A3 := Aside0.mk A30
  clear A30
  have H' := Aside0.mk H
  clear H
  go_enter Try.func58, Try.ntmps58
  go_wp2_with (first | ((with_reducible refine gate_dst (N := 2) rfl ?_); refine box_event ?hg (N := 2) ?hd (cs := #[.int .i64 0, .slice none 0 0, .slice none 0 0]) (t := 25) ?hr ?_; (case hd => rfl); (case hg => rfl); (case hr => (go_simp; done)); intro gb757 hg w4 hbox hb; have n0_ := Aside0.mk (IsS73.below (by repeat ((with_reducible exact HI0.out))) hb); have n1_ := Aside0.mk (KeepBut.trans (by repeat ((with_reducible exact HK.out))) (KeepBut.of_below hb g none) (.inl rfl)); have n2_ := Aside0.mk (below_step (by repeat ((with_reducible exact HB.out))) hb); have n3_ := Aside0.mk (hbox); have n4_ := Aside0.mk ((by rw [hg]; exact (keep_size (w := w) (g := g) (row := none) (by repeat ((with_reducible exact HK.out)))) : w.heap.size ≤ gb757)); have n5_ := Aside0.mk ((Nat.le_trans HW0.out (by rw [hg]; exact (keep_size (w := w) (g := g) (row := none) (by repeat ((with_reducible exact HK.out)))) : w.heap.size ≤ gb757) : w0.heap.size ≤ gb757)); have n6_ := Aside0.mk ((by rw [hg]; exact Nat.ne_of_lt (IsS73.lt (show IsS73 w0 _ g s0_0 s0_1 s0_2 from by repeat ((with_reducible exact HI0.out)))) : g ≠ gb757)); have n7_ := Aside0.mk ((by rw [hg]; exact Nat.ne_of_gt (IsS73.lt (show IsS73 w0 _ g s0_0 s0_1 s0_2 from by repeat ((with_reducible exact HI0.out)))) : gb757 ≠ g)); clear HI0; clear HK; clear HB; have HI0 := n0_; have HK := n1_; have HB := n2_; have BK757 := n3_; have GW757 := n4_; have GE757 := n5_; have NB0_757 := n6_; have NB757_0 := n7_; clear n0_ n1_ n2_ n3_ n4_ n5_ n6_ n7_; clear hb hbox hg) | ((with_reducible refine gate_callee (f := 61) rfl ?_); refine goesL_ (some 7) rfl rfl Try.func61 (by kernel_rfl) rfl #[.pointer (some ⟨g, 0, none⟩), .int .i64 4] rfl (by (try simp only [List.map_toArray, List.map_cons, List.map_nil]); rfl) ?_; (with_reducible refine (spec_l01Below.calls g s0_0 s0_1 s0_2 4 t758 t759 t760 w0 _ ?side1 ?side2 A2.out).mono ?_); (case side1 => repeat ((with_reducible exact HI0.out))); (case side2 => repeat ((with_reducible exact HB.out))); rintro e w5 ⟨rfl, hi, hb, hk⟩; refine ⟨_, rfl, ?_⟩; have n0_ := Aside0.mk (KeepBut.blk hk (g' := gb757) (o := .cells #[.int .i64 0, .slice none 0 0, .slice none 0 0] 25 (0, 0)) (by (with_reducible repeat (first | refine blk_drewN ?_ _ | refine blk_drew ?_ | refine blk_alloc ?_ _ )); exact BK757.out) NB757_0.out (by simp)); have n1_ := Aside0.mk (KeepBut.trans (by repeat ((with_reducible exact HK.out))) hk (.inl rfl)); have n2_ := Aside0.mk (hb); have n3_ := Aside0.mk (hi); clear BK757; clear HK; clear HB; clear HI0; have BK757 := n0_; have HK := n1_; have HB := n2_; have HI0 := n3_; clear n0_ n1_ n2_ n3_; (try clear hb); (try clear hb2); (try clear hk); (try clear hi)) | ((with_reducible refine gate_callee (f := 13) rfl ?_); refine goesL_ (some 9) rfl rfl Try.func13 (by kernel_rfl) rfl #[.int .i64 (wrap64 (1 + t758))] rfl (by (try simp only [List.map_toArray, List.map_cons, List.map_nil]); rfl) ?_; (with_reducible refine (spec_EpochsNew.calls (wrap64 (1 + t758)) t761 t762 t765 _ A3.out).mono ?_); rintro e w6 ⟨v763, v766, rfl, ho0, ho1, hb⟩; refine ⟨_, rfl, ?_⟩; have n0_ := Aside0.mk (Kd.R_lower ho0 (keep_size (w := w) (g := g) (row := none) (by repeat ((with_reducible exact HK.out))))); have n1_ := Aside0.mk (Kd.R_lower ho1 (keep_size (w := w) (g := g) (row := none) (by repeat ((with_reducible exact HK.out))))); have n2_ := Aside0.mk (IsS73.below (by repeat ((with_reducible exact HI0.out))) hb); have n3_ := Aside0.mk (blk_below (g := gb757) (o := .cells #[.int .i64 0, .slice none 0 0, .slice none 0 0] 25 (0, 0)) (by (with_reducible repeat (first | refine blk_drewN ?_ _ | refine blk_drew ?_ | refine blk_alloc ?_ _ )); exact BK757.out) hb); have n4_ := Aside0.mk (KeepBut.trans (by repeat ((with_reducible exact HK.out))) (KeepBut.of_below hb g none) (.inl rfl)); have n5_ := Aside0.mk (below_step (by repeat ((with_reducible exact HB.out))) hb); clear HI0; clear BK757; clear HK; clear HB; have HO764 := n0_; have HO767 := n1_; have HI0 := n2_; have BK757 := n3_; have HK := n4_; have HB := n5_; clear n0_ n1_ n2_ n3_ n4_ n5_; (try clear hb); (try clear hb2); (try clear hk); (try clear hi); (try clear ho0); (try clear ho1)) | ((with_reducible refine gate_dst (N := 3) rfl ?_); refine box_event ?hg (N := 3) ?hd (cs := #[.int .i64 0, .slice none 0 0, .slice none 0 0]) (t := 25) ?hr ?_; (case hd => rfl); (case hg => rfl); (case hr => (go_simp; done)); intro gb768 hg w7 hbox hb; have n0_ := Aside0.mk (Kd.R_below (by (with_reducible repeat (first | apply Kd.R_alloc | apply Kd.R_drewN | apply Kd.R_drew )); exact HO764.out) hb); have n1_ := Aside0.mk (Kd.R_below (by (with_reducible repeat (first | apply Kd.R_alloc | apply Kd.R_drewN | apply Kd.R_drew )); exact HO767.out) hb); have n2_ := Aside0.mk (IsS73.below (by repeat ((with_reducible exact HI0.out))) hb); have n3_ := Aside0.mk (blk_below (g := gb757) (o := .cells #[.int .i64 0, .slice none 0 0, .slice none 0 0] 25 (0, 0)) (by (with_reducible repeat (first | refine blk_drewN ?_ _ | refine blk_drew ?_ | refine blk_alloc ?_ _ )); exact BK757.out) hb); have n4_ := Aside0.mk (KeepBut.trans (by repeat ((with_reducible exact HK.out))) (KeepBut.of_below hb g none) (.inl rfl)); have n5_ := Aside0.mk (below_step (by repeat ((with_reducible exact HB.out))) hb); have n6_ := Aside0.mk (hbox); have n7_ := Aside0.mk ((by rw [hg]; exact (keep_size (w := w) (g := g) (row := none) (by repeat ((with_reducible exact HK.out)))) : w.heap.size ≤ gb768)); have n8_ := Aside0.mk ((Nat.le_trans HW0.out (by rw [hg]; exact (keep_size (w := w) (g := g) (row := none) (by repeat ((with_reducible exact HK.out)))) : w.heap.size ≤ gb768) : w0.heap.size ≤ gb768)); have n9_ := Aside0.mk ((by rw [hg]; exact Nat.ne_of_lt (blk_lt (g := gb757) (o := .cells #[.int .i64 0, .slice none 0 0, .slice none 0 0] 25 (0, 0)) (by (with_reducible repeat (first | refine blk_drewN ?_ _ | refine blk_drew ?_ | refine blk_alloc ?_ _ )); exact BK757.out)) : gb757 ≠ gb768)); have n10_ := Aside0.mk ((by rw [hg]; exact Nat.ne_of_gt (blk_lt (g := gb757) (o := .cells #[.int .i64 0, .slice none 0 0, .slice none 0 0] 25 (0, 0)) (by (with_reducible repeat (first | refine blk_drewN ?_ _ | refine blk_drew ?_ | refine blk_alloc ?_ _ )); exact BK757.out)) : gb768 ≠ gb757)); have n11_ := Aside0.mk ((by rw [hg]; exact Nat.ne_of_lt (IsS73.lt (show IsS73 w0 _ g s0_0 t759 t760 from by repeat ((with_reducible exact HI0.out)))) : g ≠ gb768)); have n12_ := Aside0.mk ((by rw [hg]; exact Nat.ne_of_gt (IsS73.lt (show IsS73 w0 _ g s0_0 t759 t760 from by repeat ((with_reducible exact HI0.out)))) : gb768 ≠ g)); clear HO764; clear HO767; clear HI0; clear BK757; clear HK; clear HB; have HO764 := n0_; have HO767 := n1_; have HI0 := n2_; have BK757 := n3_; have HK := n4_; have HB := n5_; have BK768 := n6_; have GW768 := n7_; have GE768 := n8_; have NB757_768 := n9_; have NB768_757 := n10_; have NB0_768 := n11_; have NB768_0 := n12_; clear n0_ n1_ n2_ n3_ n4_ n5_ n6_ n7_ n8_ n9_ n10_ n11_ n12_; clear hb hbox hg; have hnb8 := NB768_757.out; have hnc8 := NB757_768.out; have hnb9 := NB768_0.out; have hnc9 := NB0_768.out; have hcz10_0 : w7.cell? ⟨gb768, 0, none⟩ = some (.int .i64 0) := (blk_cell BK768.out 0).trans rfl; have hcz10_1 : w7.cell? ⟨gb768, 1, none⟩ = some (.slice none 0 0) := (blk_cell BK768.out 1).trans rfl; have hcz10_2 : w7.cell? ⟨gb768, 2, none⟩ = some (.slice none 0 0) := (blk_cell BK768.out 2).trans rfl; have hfz10_0 := blk_frozen BK768.out 0; have hfz10_1 := blk_frozen BK768.out 1; have hfz10_2 := blk_frozen BK768.out 2; obtain ⟨Ao11, co11, eo11⟩ := Kd.R_slice HO764.out; subst eo11; obtain ⟨Ao12, co12, eo12⟩ := Kd.R_slice HO767.out; subst eo12))
  go_loopg [4] k (fun kq v4 w' => ∃ (x4_1 : Int) (x1001_1 : Int) (x1002_1 : Int) (x769000_1 : Int) (x769001_1 : List Int) (x769002_1 : List (S57)) (u769001 : Value) (u769002 : Value), v4 = .int .i64 x4_1 ∧ Aside0 (spec_l08Epochs.l0 kq x4_1 s0_0 x1001_1 x1002_1 x769000_1 x769001_1 x769002_1 = some (r1, r2, r3, r4, r5)) ∧ Aside0 (kq ≤ k) ∧ Aside0 (Kd.R (Kd.int .i64) 3 w' w.heap.size (fun _ => True) u769001 x769001_1) ∧ Aside0 (Kd.R k57 57 w' w.heap.size (fun _ => True) u769002 x769002_1) ∧ Aside0 (w'.heap[gb757]? = some (.cells #[.int .i64 0, (.slice none 0 0), (.slice none 0 0)] 25 (0, 0))) ∧ Aside0 (w'.heap[gb768]? = some (.cells #[.int .i64 x769000_1, u769001, u769002] 25 (0, 0))) ∧ Aside0 (IsS73 w0 w' g s0_0 x1001_1 x1002_1) ∧ Aside0 (KeepBut w w' g none) ∧ Aside0 (Below w0.heap.size w0 w'))
  case atStart => exact ⟨(0), (t759), (t760), (t761), (t762), (t765), (.slice Ao11 t762.length co11), (.slice Ao12 t765.length co12), (by rfl), H', ⟨Nat.le_refl _⟩, ⟨by (with_reducible repeat (first | apply Kd.R_alloc | apply Kd.R_drewN | apply Kd.R_drew )); exact Kd.R_mono (Kd.R_far (p := ⟨gb768, 2, none⟩) (Kd.R_far (p := ⟨gb768, 1, none⟩) (Kd.R_far (p := ⟨gb768, 0, none⟩) (Kd.R_types HO764.out BK768.out (by decide)) (fun _ hk => hk.2) (.int .i64 t761)) (fun _ hk => hk.2) (.slice Ao11 t762.length co11)) (fun _ hk => hk.2) (.slice Ao12 t765.length co12)) (fun _ hk => trivial)⟩, ⟨by (with_reducible repeat (first | apply Kd.R_alloc | apply Kd.R_drewN | apply Kd.R_drew )); exact Kd.R_mono (Kd.R_far (p := ⟨gb768, 2, none⟩) (Kd.R_far (p := ⟨gb768, 1, none⟩) (Kd.R_far (p := ⟨gb768, 0, none⟩) (Kd.R_types HO767.out BK768.out (by decide)) (fun _ hk => hk.2) (.int .i64 t761)) (fun _ hk => hk.2) (.slice Ao11 t762.length co11)) (fun _ hk => hk.2) (.slice Ao12 t765.length co12)) (fun _ hk => trivial)⟩, ⟨by (with_reducible repeat (first | refine blk_drewN ?_ _ | refine blk_drew ?_ | refine blk_alloc ?_ _ )); refine blk_far ?_ NB757_768.out _; (with_reducible repeat (first | refine blk_drewN ?_ _ | refine blk_drew ?_ | refine blk_alloc ?_ _ )); refine blk_far ?_ NB757_768.out _; (with_reducible repeat (first | refine blk_drewN ?_ _ | refine blk_drew ?_ | refine blk_alloc ?_ _ )); refine blk_far ?_ NB757_768.out _; (with_reducible repeat (first | refine blk_drewN ?_ _ | refine blk_drew ?_ | refine blk_alloc ?_ _ )); exact BK757.out⟩, ⟨by (with_reducible repeat (first | refine blk_drewN ?_ _ | refine blk_drew ?_ | refine blk_alloc ?_ _ )); refine blk_put (cs := #[.int .i64 t761, .slice Ao11 t762.length co11, .slice none 0 0]) ?_ 2 _ rfl; (with_reducible repeat (first | refine blk_drewN ?_ _ | refine blk_drew ?_ | refine blk_alloc ?_ _ )); refine blk_put (cs := #[.int .i64 t761, .slice none 0 0, .slice none 0 0]) ?_ 1 _ rfl; (with_reducible repeat (first | refine blk_drewN ?_ _ | refine blk_drew ?_ | refine blk_alloc ?_ _ )); refine blk_put (cs := #[.int .i64 0, .slice none 0 0, .slice none 0 0]) ?_ 0 _ rfl; (with_reducible repeat (first | refine blk_drewN ?_ _ | refine blk_drew ?_ | refine blk_alloc ?_ _ )); exact BK768.out⟩, ⟨by repeat ((with_reducible first | exact HI0.out | refine IsS73.far ?_ NB0_768.out _))⟩, ⟨by repeat ((with_reducible first | exact HK.out | refine keep_far ?_ GW768.out _))⟩, ⟨by repeat ((with_reducible first | exact HB.out | refine below_set ?_ GE768.out))⟩⟩
  case round =>
    clear H'
    clear hcz10_0
    clear hcz10_1
    clear hcz10_2
    clear hfz10_0
    clear hfz10_1
    clear hfz10_2
    obtain ⟨x4_1, x1001_1, x1002_1, x769000_1, x769001_1, x769002_1, u769001, u769002, rfl, HA, HK1, HO_769001, HO_769002, BK757, BK768, HI0, HK, HB⟩ := hrel
    cases gk with
    | zero => exact absurd HA.out (by simp [spec_l08Epochs.l0])
    | succ k1 =>
      have H := HA.out
      clear HA
      simp only [spec_l08Epochs.l0] at H
      replace H := Option.bind_eq_some_iff.mp H
      obtain ⟨⟨t769, t770, t771⟩, A130, H⟩ := H
      replace H : (if x4_1 < t769 then ((spec_l01Below.f s0_0 t770 t771 4).bind fun bt772 => ((spec_l01Below.f s0_0 bt772.2.1 bt772.2.2 5).bind fun bt775 => (if bt775.1 = 0 then ((spec_PinLook.f k1 x769000_1 x769001_1 x769002_1 bt772.1).bind fun bt778 => (spec_l08Epochs.l0 k1 (wrap64 (x4_1 + 1)) s0_0 bt775.2.1 bt775.2.2 bt778.1 bt778.2.1 bt778.2.2.1)) else (if bt775.1 = 1 then ((spec_UnpinLook.f k1 x769000_1 x769001_1 x769002_1 bt772.1).bind fun bt786 => (spec_l08Epochs.l0 k1 (wrap64 (x4_1 + 1)) s0_0 bt775.2.1 bt775.2.2 bt786.1 bt786.2.1 bt786.2.2.1)) else (if bt775.1 = 2 then ((spec_l01Below.f s0_0 bt775.2.1 bt775.2.2 9).bind fun bt794 => ((spec_RetireNode.f k1 x769000_1 x769001_1 x769002_1 (wrap64 (1 + bt794.1))).bind fun bt797 => (spec_l08Epochs.l0 k1 (wrap64 (x4_1 + 1)) s0_0 bt794.2.1 bt794.2.2 bt797.1 bt797.2.1 bt797.2.2.1))) else (if bt775.1 = 3 then ((spec_AdvanceEpoch.f k1 x769000_1 x769001_1 x769002_1).bind fun bt805 => (spec_l08Epochs.l0 k1 (wrap64 (x4_1 + 1)) s0_0 bt775.2.1 bt775.2.2 bt805.1 bt805.2.1 bt805.2.2.1)) else ((spec_FreeNodes.f k1 x769000_1 x769001_1 x769002_1).bind fun bt813 => (spec_l08Epochs.l0 k1 (wrap64 (x4_1 + 1)) s0_0 bt775.2.1 bt775.2.2 bt813.1 bt813.2.1 bt813.2.2.1)))))))) else (some (x769000_1, x769001_1, x769002_1, t770, t771))) = some (r1, r2, r3, r4, r5) := H
      have A13 := Aside0.mk A130
      clear A130
      have HS14 := Aside0.mk H
      clear H
      go_upto_if 13 with (((with_reducible refine gate_callee (f := 61) rfl ?_); refine goesL_ (some 12) rfl rfl Try.func61 (by kernel_rfl) rfl #[.pointer (some ⟨g, 0, none⟩), .int .i64 20] rfl (by (try simp only [List.map_toArray, List.map_cons, List.map_nil]); rfl) ?_; (with_reducible refine (spec_l01Below.calls g s0_0 x1001_1 x1002_1 20 t769 t770 t771 w0 _ ?side1 ?side2 A13.out).mono ?_); (case side1 => repeat ((with_reducible exact HI0.out))); (case side2 => repeat ((with_reducible exact HB.out))); rintro e w15 ⟨rfl, hi, hb, hk⟩; refine ⟨_, rfl, ?_⟩; have n0_ := Aside0.mk (Kd.R_mono (Kd.R_keep (IsS73.apart (show IsS73 w0 _ g s0_0 x1001_1 x1002_1 from by repeat ((with_reducible exact HI0.out))) (by (with_reducible repeat (first | apply Kd.R_alloc | apply Kd.R_drewN | apply Kd.R_drew )); exact HO_769001.out) (by decide)) hk (fun _ h => h.2)) (fun _ h => h.1)); have n1_ := Aside0.mk (Kd.R_mono (Kd.R_keep (IsS73.apart (show IsS73 w0 _ g s0_0 x1001_1 x1002_1 from by repeat ((with_reducible exact HI0.out))) (by (with_reducible repeat (first | apply Kd.R_alloc | apply Kd.R_drewN | apply Kd.R_drew )); exact HO_769002.out) (by decide)) hk (fun _ h => h.2)) (fun _ h => h.1)); have n2_ := Aside0.mk (KeepBut.blk hk (g' := gb757) (o := .cells #[.int .i64 0, .slice none 0 0, .slice none 0 0] 25 (0, 0)) (by (with_reducible repeat (first | refine blk_drewN ?_ _ | refine blk_drew ?_ | refine blk_alloc ?_ _ )); exact BK757.out) NB757_0.out (by simp)); have n3_ := Aside0.mk (KeepBut.blk hk (g' := gb768) (o := .cells #[.int .i64 x769000_1, u769001, u769002] 25 (0, 0)) (by (with_reducible repeat (first | refine blk_drewN ?_ _ | refine blk_drew ?_ | refine blk_alloc ?_ _ )); exact BK768.out) NB768_0.out (by simp)); have n4_ := Aside0.mk (KeepBut.trans (by repeat ((with_reducible exact HK.out))) hk (.inl rfl)); have n5_ := Aside0.mk (hb); have n6_ := Aside0.mk (hi); clear HO_769001; clear HO_769002; clear BK757; clear BK768; clear HK; clear HB; clear HI0; have HO_769001 := n0_; have HO_769002 := n1_; have BK757 := n2_; have BK768 := n3_; have HK := n4_; have HB := n5_; have HI0 := n6_; clear n0_ n1_ n2_ n3_ n4_ n5_ n6_; (try clear hb); (try clear hb2); (try clear hk); (try clear hi)))
      (try simp only [Act.put, List.setIfInBounds_toArray, List.set_cons_zero, List.set_cons_succ])
      have H := HS14.out
      clear HS14
      by_cases c16 : x4_1 < t769
      · rw [if_pos c16] at H
        have c16b0 : decide (x4_1 < t769) = true := decide_eq_true c16
        clear c16
        (rw [c16b0])
        replace H := Option.bind_eq_some_iff.mp H
        obtain ⟨⟨t772, t773, t774⟩, A170, H⟩ := H
        replace H : ((spec_l01Below.f s0_0 t773 t774 5).bind fun bt775 => (if bt775.1 = 0 then ((spec_PinLook.f k1 x769000_1 x769001_1 x769002_1 t772).bind fun bt778 => (spec_l08Epochs.l0 k1 (wrap64 (x4_1 + 1)) s0_0 bt775.2.1 bt775.2.2 bt778.1 bt778.2.1 bt778.2.2.1)) else (if bt775.1 = 1 then ((spec_UnpinLook.f k1 x769000_1 x769001_1 x769002_1 t772).bind fun bt786 => (spec_l08Epochs.l0 k1 (wrap64 (x4_1 + 1)) s0_0 bt775.2.1 bt775.2.2 bt786.1 bt786.2.1 bt786.2.2.1)) else (if bt775.1 = 2 then ((spec_l01Below.f s0_0 bt775.2.1 bt775.2.2 9).bind fun bt794 => ((spec_RetireNode.f k1 x769000_1 x769001_1 x769002_1 (wrap64 (1 + bt794.1))).bind fun bt797 => (spec_l08Epochs.l0 k1 (wrap64 (x4_1 + 1)) s0_0 bt794.2.1 bt794.2.2 bt797.1 bt797.2.1 bt797.2.2.1))) else (if bt775.1 = 3 then ((spec_AdvanceEpoch.f k1 x769000_1 x769001_1 x769002_1).bind fun bt805 => (spec_l08Epochs.l0 k1 (wrap64 (x4_1 + 1)) s0_0 bt775.2.1 bt775.2.2 bt805.1 bt805.2.1 bt805.2.2.1)) else ((spec_FreeNodes.f k1 x769000_1 x769001_1 x769002_1).bind fun bt813 => (spec_l08Epochs.l0 k1 (wrap64 (x4_1 + 1)) s0_0 bt775.2.1 bt775.2.2 bt813.1 bt813.2.1 bt813.2.2.1))))))) = some (r1, r2, r3, r4, r5) := H
        have A17 := Aside0.mk A170
        clear A170
        replace H := Option.bind_eq_some_iff.mp H
        obtain ⟨⟨t775, t776, t777⟩, A180, H⟩ := H
        replace H : (if t775 = 0 then ((spec_PinLook.f k1 x769000_1 x769001_1 x769002_1 t772).bind fun bt778 => (spec_l08Epochs.l0 k1 (wrap64 (x4_1 + 1)) s0_0 t776 t777 bt778.1 bt778.2.1 bt778.2.2.1)) else (if t775 = 1 then ((spec_UnpinLook.f k1 x769000_1 x769001_1 x769002_1 t772).bind fun bt786 => (spec_l08Epochs.l0 k1 (wrap64 (x4_1 + 1)) s0_0 t776 t777 bt786.1 bt786.2.1 bt786.2.2.1)) else (if t775 = 2 then ((spec_l01Below.f s0_0 t776 t777 9).bind fun bt794 => ((spec_RetireNode.f k1 x769000_1 x769001_1 x769002_1 (wrap64 (1 + bt794.1))).bind fun bt797 => (spec_l08Epochs.l0 k1 (wrap64 (x4_1 + 1)) s0_0 bt794.2.1 bt794.2.2 bt797.1 bt797.2.1 bt797.2.2.1))) else (if t775 = 3 then ((spec_AdvanceEpoch.f k1 x769000_1 x769001_1 x769002_1).bind fun bt805 => (spec_l08Epochs.l0 k1 (wrap64 (x4_1 + 1)) s0_0 t776 t777 bt805.1 bt805.2.1 bt805.2.2.1)) else ((spec_FreeNodes.f k1 x769000_1 x769001_1 x769002_1).bind fun bt813 => (spec_l08Epochs.l0 k1 (wrap64 (x4_1 + 1)) s0_0 t776 t777 bt813.1 bt813.2.1 bt813.2.2.1)))))) = some (r1, r2, r3, r4, r5) := H
        have A18 := Aside0.mk A180
        clear A180
        have HS19 := Aside0.mk H
        clear H
        go_upto_if 25 with (first | ((with_reducible refine gate_callee (f := 61) rfl ?_); refine goesL_ (some 17) rfl rfl Try.func61 (by kernel_rfl) rfl #[.pointer (some ⟨g, 0, none⟩), .int .i64 4] rfl (by (try simp only [List.map_toArray, List.map_cons, List.map_nil]); rfl) ?_; (with_reducible refine (spec_l01Below.calls g s0_0 t770 t771 4 t772 t773 t774 w0 _ ?side1 ?side2 A17.out).mono ?_); (case side1 => repeat ((with_reducible exact HI0.out))); (case side2 => repeat ((with_reducible exact HB.out))); rintro e w20 ⟨rfl, hi, hb, hk⟩; refine ⟨_, rfl, ?_⟩; have n0_ := Aside0.mk (Kd.R_mono (Kd.R_keep (IsS73.apart (show IsS73 w0 _ g s0_0 t770 t771 from by repeat ((with_reducible exact HI0.out))) (by (with_reducible repeat (first | apply Kd.R_alloc | apply Kd.R_drewN | apply Kd.R_drew )); exact HO_769001.out) (by decide)) hk (fun _ h => h.2)) (fun _ h => h.1)); have n1_ := Aside0.mk (Kd.R_mono (Kd.R_keep (IsS73.apart (show IsS73 w0 _ g s0_0 t770 t771 from by repeat ((with_reducible exact HI0.out))) (by (with_reducible repeat (first | apply Kd.R_alloc | apply Kd.R_drewN | apply Kd.R_drew )); exact HO_769002.out) (by decide)) hk (fun _ h => h.2)) (fun _ h => h.1)); have n2_ := Aside0.mk (KeepBut.blk hk (g' := gb757) (o := .cells #[.int .i64 0, .slice none 0 0, .slice none 0 0] 25 (0, 0)) (by (with_reducible repeat (first | refine blk_drewN ?_ _ | refine blk_drew ?_ | refine blk_alloc ?_ _ )); exact BK757.out) NB757_0.out (by simp)); have n3_ := Aside0.mk (KeepBut.blk hk (g' := gb768) (o := .cells #[.int .i64 x769000_1, u769001, u769002] 25 (0, 0)) (by (with_reducible repeat (first | refine blk_drewN ?_ _ | refine blk_drew ?_ | refine blk_alloc ?_ _ )); exact BK768.out) NB768_0.out (by simp)); have n4_ := Aside0.mk (KeepBut.trans (by repeat ((with_reducible exact HK.out))) hk (.inl rfl)); have n5_ := Aside0.mk (hb); have n6_ := Aside0.mk (hi); clear HO_769001; clear HO_769002; clear BK757; clear BK768; clear HK; clear HB; clear HI0; have HO_769001 := n0_; have HO_769002 := n1_; have BK757 := n2_; have BK768 := n3_; have HK := n4_; have HB := n5_; have HI0 := n6_; clear n0_ n1_ n2_ n3_ n4_ n5_ n6_; (try clear hb); (try clear hb2); (try clear hk); (try clear hi)) | ((with_reducible refine gate_callee (f := 61) rfl ?_); refine goesL_ (some 19) rfl rfl Try.func61 (by kernel_rfl) rfl #[.pointer (some ⟨g, 0, none⟩), .int .i64 5] rfl (by (try simp only [List.map_toArray, List.map_cons, List.map_nil]); rfl) ?_; (with_reducible refine (spec_l01Below.calls g s0_0 t773 t774 5 t775 t776 t777 w0 _ ?side1 ?side2 A18.out).mono ?_); (case side1 => repeat ((with_reducible exact HI0.out))); (case side2 => repeat ((with_reducible exact HB.out))); rintro e w21 ⟨rfl, hi, hb, hk⟩; refine ⟨_, rfl, ?_⟩; have n0_ := Aside0.mk (Kd.R_mono (Kd.R_keep (IsS73.apart (show IsS73 w0 _ g s0_0 t773 t774 from by repeat ((with_reducible exact HI0.out))) (by (with_reducible repeat (first | apply Kd.R_alloc | apply Kd.R_drewN | apply Kd.R_drew )); exact HO_769001.out) (by decide)) hk (fun _ h => h.2)) (fun _ h => h.1)); have n1_ := Aside0.mk (Kd.R_mono (Kd.R_keep (IsS73.apart (show IsS73 w0 _ g s0_0 t773 t774 from by repeat ((with_reducible exact HI0.out))) (by (with_reducible repeat (first | apply Kd.R_alloc | apply Kd.R_drewN | apply Kd.R_drew )); exact HO_769002.out) (by decide)) hk (fun _ h => h.2)) (fun _ h => h.1)); have n2_ := Aside0.mk (KeepBut.blk hk (g' := gb757) (o := .cells #[.int .i64 0, .slice none 0 0, .slice none 0 0] 25 (0, 0)) (by (with_reducible repeat (first | refine blk_drewN ?_ _ | refine blk_drew ?_ | refine blk_alloc ?_ _ )); exact BK757.out) NB757_0.out (by simp)); have n3_ := Aside0.mk (KeepBut.blk hk (g' := gb768) (o := .cells #[.int .i64 x769000_1, u769001, u769002] 25 (0, 0)) (by (with_reducible repeat (first | refine blk_drewN ?_ _ | refine blk_drew ?_ | refine blk_alloc ?_ _ )); exact BK768.out) NB768_0.out (by simp)); have n4_ := Aside0.mk (KeepBut.trans (by repeat ((with_reducible exact HK.out))) hk (.inl rfl)); have n5_ := Aside0.mk (hb); have n6_ := Aside0.mk (hi); clear HO_769001; clear HO_769002; clear BK757; clear BK768; clear HK; clear HB; clear HI0; have HO_769001 := n0_; have HO_769002 := n1_; have BK757 := n2_; have BK768 := n3_; have HK := n4_; have HB := n5_; have HI0 := n6_; clear n0_ n1_ n2_ n3_ n4_ n5_ n6_; (try clear hb); (try clear hb2); (try clear hk); (try clear hi)))
        (try simp only [Act.put, List.setIfInBounds_toArray, List.set_cons_zero, List.set_cons_succ])
        have H := HS19.out
        clear HS19
        by_cases c22 : t775 = 0
        · rw [if_pos c22] at H
          have c22b0 : (t775 == 0) = true := beq_iff_eq.mpr c22
          have c22b1 : (t775 != 0) = false := bne_eq_false_iff_eq.mpr c22
          clear c22
          (rw [c22b0])
          replace H := Option.bind_eq_some_iff.mp H
          obtain ⟨⟨t778, t779, t782, t785⟩, A230, H⟩ := H
          replace H : (spec_l08Epochs.l0 k1 (wrap64 (x4_1 + 1)) s0_0 t776 t777 t778 t779 t782) = some (r1, r2, r3, r4, r5) := H
          have A23 := Aside0.mk A230
          clear A230
          have H' := Aside0.mk H
          clear H
          have hnb24 := NB768_757.out
          have hnc24 := NB757_768.out
          have hnb25 := NB768_0.out
          have hnc25 := NB0_768.out
          have hcz26_0 : w21.cell? ⟨gb768, 0, none⟩ = some (.int .i64 x769000_1) := (blk_cell BK768.out 0).trans rfl
          have hcz26_1 : w21.cell? ⟨gb768, 1, none⟩ = some (u769001) := (blk_cell BK768.out 1).trans rfl
          have hcz26_2 : w21.cell? ⟨gb768, 2, none⟩ = some (u769002) := (blk_cell BK768.out 2).trans rfl
          have hfz26_0 := blk_frozen BK768.out 0
          have hfz26_1 := blk_frozen BK768.out 1
          have hfz26_2 := blk_frozen BK768.out 2
          obtain ⟨Ao27, co27, eo27⟩ := Kd.R_slice HO_769001.out
          subst eo27
          obtain ⟨Ao28, co28, eo28⟩ := Kd.R_slice HO_769002.out
          subst eo28
          go_wp2_with (((with_reducible refine gate_callee (f := 22) rfl ?_); refine goesL_ (some 30) rfl rfl Try.func22 (by kernel_rfl) rfl #[.agg #[.int .i64 x769000_1, .slice Ao27 x769001_1.length co27, .slice Ao28 x769002_1.length co28], .int .i64 t772] rfl (by (try simp only [List.map_toArray, List.map_cons, List.map_nil]); rfl) ?_; (with_reducible refine (spec_PinLook.calls k1 x769000_1 _ _ x769001_1 _ _ x769002_1 t772 t778 t779 t782 t785 _ ?side1 ?side2 ?side3 ?side4 A23.out).mono ?_); (case side1 => repeat (exact (Kd.R_reads' HO_769001.out).2.2)); (case side2 => exact (Kd.R_reads' HO_769001.out).2.1); (case side3 => repeat (exact (Kd.R_reads' HO_769002.out).2.2)); (case side4 => exact (Kd.R_reads' HO_769002.out).2.1); rintro e w29 ⟨v780, v783, rfl, ho0, ho1, hb⟩; refine ⟨_, rfl, ?_⟩; have n0_ := Aside0.mk (Kd.R_elder' (by (with_reducible repeat (first | apply Kd.R_alloc | apply Kd.R_drewN | apply Kd.R_drew )); exact HO_769001.out) (Kd.R_base ho0) hb); have n1_ := Aside0.mk (Kd.R_elder' (by (with_reducible repeat (first | apply Kd.R_alloc | apply Kd.R_drewN | apply Kd.R_drew )); exact HO_769002.out) (Kd.R_base ho1) hb); have n2_ := Aside0.mk (Kd.R_lower (Kd.R_new' ho0 (Kd.R_lt (by (with_reducible repeat (first | apply Kd.R_alloc | apply Kd.R_drewN | apply Kd.R_drew )); exact HO_769001.out))) (keep_size (w := w) (g := g) (row := none) (by repeat ((with_reducible exact HK.out))))); have n3_ := Aside0.mk (Kd.R_lower (Kd.R_new' ho1 (Kd.R_lt (by (with_reducible repeat (first | apply Kd.R_alloc | apply Kd.R_drewN | apply Kd.R_drew )); exact HO_769002.out))) (keep_size (w := w) (g := g) (row := none) (by repeat ((with_reducible exact HK.out))))); have n4_ := Aside0.mk (blk_below (g := gb757) (o := .cells #[.int .i64 0, .slice none 0 0, .slice none 0 0] 25 (0, 0)) (by (with_reducible repeat (first | refine blk_drewN ?_ _ | refine blk_drew ?_ | refine blk_alloc ?_ _ )); exact BK757.out) hb); have n5_ := Aside0.mk (blk_below (g := gb768) (o := .cells #[.int .i64 x769000_1, .slice Ao27 x769001_1.length co27, .slice Ao28 x769002_1.length co28] 25 (0, 0)) (by (with_reducible repeat (first | refine blk_drewN ?_ _ | refine blk_drew ?_ | refine blk_alloc ?_ _ )); exact BK768.out) hb); have n6_ := Aside0.mk (IsS73.below (by repeat ((with_reducible exact HI0.out))) hb); have n7_ := Aside0.mk (KeepBut.trans (by repeat ((with_reducible exact HK.out))) (KeepBut.of_below hb g none) (.inl rfl)); have n8_ := Aside0.mk (below_step (by repeat ((with_reducible exact HB.out))) hb); clear HO_769001; clear HO_769002; clear BK757; clear BK768; clear HI0; clear HK; clear HB; have HO_769001 := n0_; have HO_769002 := n1_; have HO781 := n2_; have HO784 := n3_; have BK757 := n4_; have BK768 := n5_; have HI0 := n6_; have HK := n7_; have HB := n8_; clear n0_ n1_ n2_ n3_ n4_ n5_ n6_ n7_ n8_; (try clear hb); (try clear hb2); (try clear hk); (try clear hi); (try clear ho0); (try clear ho1); have hcz30_0 : w29.cell? ⟨gb768, 0, none⟩ = some (.int .i64 x769000_1) := (blk_cell BK768.out 0).trans rfl; have hcz30_1 : w29.cell? ⟨gb768, 1, none⟩ = some (.slice Ao27 x769001_1.length co27) := (blk_cell BK768.out 1).trans rfl; have hcz30_2 : w29.cell? ⟨gb768, 2, none⟩ = some (.slice Ao28 x769002_1.length co28) := (blk_cell BK768.out 2).trans rfl; have hfz30_0 := blk_frozen BK768.out 0; have hfz30_1 := blk_frozen BK768.out 1; have hfz30_2 := blk_frozen BK768.out 2; obtain ⟨Ao31, co31, eo31⟩ := Kd.R_slice HO781.out; subst eo31; obtain ⟨Ao32, co32, eo32⟩ := Kd.R_slice HO784.out; subst eo32))
          go_roundg k1
          case measure => have := HK1.out; omega
          case rel => exact ⟨(wrap64 (x4_1 + 1)), (t776), (t777), (t778), (t779), (t782), (.slice Ao31 t779.length co31), (.slice Ao32 t782.length co32), (by rfl), H', ⟨by have := HK1.out; omega⟩, ⟨by (with_reducible repeat (first | apply Kd.R_alloc | apply Kd.R_drewN | apply Kd.R_drew )); exact Kd.R_mono (Kd.R_far (p := ⟨gb768, 2, none⟩) (Kd.R_far (p := ⟨gb768, 1, none⟩) (Kd.R_far (p := ⟨gb768, 0, none⟩) (Kd.R_types HO781.out BK768.out (by decide)) (fun _ hk => hk.2) (.int .i64 t778)) (fun _ hk => hk.2) (.slice Ao31 t779.length co31)) (fun _ hk => hk.2) (.slice Ao32 t782.length co32)) (fun _ hk => trivial)⟩, ⟨by (with_reducible repeat (first | apply Kd.R_alloc | apply Kd.R_drewN | apply Kd.R_drew )); exact Kd.R_mono (Kd.R_far (p := ⟨gb768, 2, none⟩) (Kd.R_far (p := ⟨gb768, 1, none⟩) (Kd.R_far (p := ⟨gb768, 0, none⟩) (Kd.R_types HO784.out BK768.out (by decide)) (fun _ hk => hk.2) (.int .i64 t778)) (fun _ hk => hk.2) (.slice Ao31 t779.length co31)) (fun _ hk => hk.2) (.slice Ao32 t782.length co32)) (fun _ hk => trivial)⟩, ⟨by (with_reducible repeat (first | refine blk_drewN ?_ _ | refine blk_drew ?_ | refine blk_alloc ?_ _ )); refine blk_far ?_ NB757_768.out _; (with_reducible repeat (first | refine blk_drewN ?_ _ | refine blk_drew ?_ | refine blk_alloc ?_ _ )); refine blk_far ?_ NB757_768.out _; (with_reducible repeat (first | refine blk_drewN ?_ _ | refine blk_drew ?_ | refine blk_alloc ?_ _ )); refine blk_far ?_ NB757_768.out _; (with_reducible repeat (first | refine blk_drewN ?_ _ | refine blk_drew ?_ | refine blk_alloc ?_ _ )); exact BK757.out⟩, ⟨by (with_reducible repeat (first | refine blk_drewN ?_ _ | refine blk_drew ?_ | refine blk_alloc ?_ _ )); refine blk_put (cs := #[.int .i64 t778, .slice Ao31 t779.length co31, .slice Ao28 x769002_1.length co28]) ?_ 2 _ rfl; (with_reducible repeat (first | refine blk_drewN ?_ _ | refine blk_drew ?_ | refine blk_alloc ?_ _ )); refine blk_put (cs := #[.int .i64 t778, .slice Ao27 x769001_1.length co27, .slice Ao28 x769002_1.length co28]) ?_ 1 _ rfl; (with_reducible repeat (first | refine blk_drewN ?_ _ | refine blk_drew ?_ | refine blk_alloc ?_ _ )); refine blk_put (cs := #[.int .i64 x769000_1, .slice Ao27 x769001_1.length co27, .slice Ao28 x769002_1.length co28]) ?_ 0 _ rfl; (with_reducible repeat (first | refine blk_drewN ?_ _ | refine blk_drew ?_ | refine blk_alloc ?_ _ )); exact BK768.out⟩, ⟨by repeat ((with_reducible first | exact HI0.out | refine IsS73.far ?_ NB0_768.out _))⟩, ⟨by repeat ((with_reducible first | exact HK.out | refine keep_far ?_ GW768.out _))⟩, ⟨by repeat ((with_reducible first | exact HB.out | refine below_set ?_ GE768.out))⟩⟩
        · rw [if_neg c22] at H
          have c22b0 : (t775 == 0) = false := beq_eq_false_iff_ne.mpr c22
          have c22b1 : (t775 != 0) = true := bne_iff_ne.mpr c22
          (rw [c22b0])
          by_cases c33 : t775 = 1
          · rw [if_pos c33] at H
            have c33b0 : (t775 == 1) = true := beq_iff_eq.mpr c33
            have c33b1 : (t775 != 1) = false := bne_eq_false_iff_eq.mpr c33
            clear c33
            replace H := Option.bind_eq_some_iff.mp H
            obtain ⟨⟨t786, t787, t790, t793⟩, A340, H⟩ := H
            replace H : (spec_l08Epochs.l0 k1 (wrap64 (x4_1 + 1)) s0_0 t776 t777 t786 t787 t790) = some (r1, r2, r3, r4, r5) := H
            have A34 := Aside0.mk A340
            clear A340
            have H' := Aside0.mk H
            clear H
            have hnb35 := NB768_757.out
            have hnc35 := NB757_768.out
            have hnb36 := NB768_0.out
            have hnc36 := NB0_768.out
            have hcz37_0 : w21.cell? ⟨gb768, 0, none⟩ = some (.int .i64 x769000_1) := (blk_cell BK768.out 0).trans rfl
            have hcz37_1 : w21.cell? ⟨gb768, 1, none⟩ = some (u769001) := (blk_cell BK768.out 1).trans rfl
            have hcz37_2 : w21.cell? ⟨gb768, 2, none⟩ = some (u769002) := (blk_cell BK768.out 2).trans rfl
            have hfz37_0 := blk_frozen BK768.out 0
            have hfz37_1 := blk_frozen BK768.out 1
            have hfz37_2 := blk_frozen BK768.out 2
            obtain ⟨Ao38, co38, eo38⟩ := Kd.R_slice HO_769001.out
            subst eo38
            obtain ⟨Ao39, co39, eo39⟩ := Kd.R_slice HO_769002.out
            subst eo39
            go_wp2_with (((with_reducible refine gate_callee (f := 24) rfl ?_); refine goesL_ (some 38) rfl rfl Try.func24 (by kernel_rfl) rfl #[.agg #[.int .i64 x769000_1, .slice Ao38 x769001_1.length co38, .slice Ao39 x769002_1.length co39], .int .i64 t772] rfl (by (try simp only [List.map_toArray, List.map_cons, List.map_nil]); rfl) ?_; (with_reducible refine (spec_UnpinLook.calls k1 x769000_1 _ _ x769001_1 _ _ x769002_1 t772 t786 t787 t790 t793 _ ?side1 ?side2 ?side3 ?side4 A34.out).mono ?_); (case side1 => repeat (exact (Kd.R_reads' HO_769001.out).2.2)); (case side2 => exact (Kd.R_reads' HO_769001.out).2.1); (case side3 => repeat (exact (Kd.R_reads' HO_769002.out).2.2)); (case side4 => exact (Kd.R_reads' HO_769002.out).2.1); rintro e w40 ⟨v788, v791, rfl, ho0, ho1, hb⟩; refine ⟨_, rfl, ?_⟩; have n0_ := Aside0.mk (Kd.R_elder' (by (with_reducible repeat (first | apply Kd.R_alloc | apply Kd.R_drewN | apply Kd.R_drew )); exact HO_769001.out) (Kd.R_base ho0) hb); have n1_ := Aside0.mk (Kd.R_elder' (by (with_reducible repeat (first | apply Kd.R_alloc | apply Kd.R_drewN | apply Kd.R_drew )); exact HO_769002.out) (Kd.R_base ho1) hb); have n2_ := Aside0.mk (Kd.R_lower (Kd.R_new' ho0 (Kd.R_lt (by (with_reducible repeat (first | apply Kd.R_alloc | apply Kd.R_drewN | apply Kd.R_drew )); exact HO_769001.out))) (keep_size (w := w) (g := g) (row := none) (by repeat ((with_reducible exact HK.out))))); have n3_ := Aside0.mk (Kd.R_lower (Kd.R_new' ho1 (Kd.R_lt (by (with_reducible repeat (first | apply Kd.R_alloc | apply Kd.R_drewN | apply Kd.R_drew )); exact HO_769002.out))) (keep_size (w := w) (g := g) (row := none) (by repeat ((with_reducible exact HK.out))))); have n4_ := Aside0.mk (blk_below (g := gb757) (o := .cells #[.int .i64 0, .slice none 0 0, .slice none 0 0] 25 (0, 0)) (by (with_reducible repeat (first | refine blk_drewN ?_ _ | refine blk_drew ?_ | refine blk_alloc ?_ _ )); exact BK757.out) hb); have n5_ := Aside0.mk (blk_below (g := gb768) (o := .cells #[.int .i64 x769000_1, .slice Ao38 x769001_1.length co38, .slice Ao39 x769002_1.length co39] 25 (0, 0)) (by (with_reducible repeat (first | refine blk_drewN ?_ _ | refine blk_drew ?_ | refine blk_alloc ?_ _ )); exact BK768.out) hb); have n6_ := Aside0.mk (IsS73.below (by repeat ((with_reducible exact HI0.out))) hb); have n7_ := Aside0.mk (KeepBut.trans (by repeat ((with_reducible exact HK.out))) (KeepBut.of_below hb g none) (.inl rfl)); have n8_ := Aside0.mk (below_step (by repeat ((with_reducible exact HB.out))) hb); clear HO_769001; clear HO_769002; clear BK757; clear BK768; clear HI0; clear HK; clear HB; have HO_769001 := n0_; have HO_769002 := n1_; have HO789 := n2_; have HO792 := n3_; have BK757 := n4_; have BK768 := n5_; have HI0 := n6_; have HK := n7_; have HB := n8_; clear n0_ n1_ n2_ n3_ n4_ n5_ n6_ n7_ n8_; (try clear hb); (try clear hb2); (try clear hk); (try clear hi); (try clear ho0); (try clear ho1); have hcz41_0 : w40.cell? ⟨gb768, 0, none⟩ = some (.int .i64 x769000_1) := (blk_cell BK768.out 0).trans rfl; have hcz41_1 : w40.cell? ⟨gb768, 1, none⟩ = some (.slice Ao38 x769001_1.length co38) := (blk_cell BK768.out 1).trans rfl; have hcz41_2 : w40.cell? ⟨gb768, 2, none⟩ = some (.slice Ao39 x769002_1.length co39) := (blk_cell BK768.out 2).trans rfl; have hfz41_0 := blk_frozen BK768.out 0; have hfz41_1 := blk_frozen BK768.out 1; have hfz41_2 := blk_frozen BK768.out 2; obtain ⟨Ao42, co42, eo42⟩ := Kd.R_slice HO789.out; subst eo42; obtain ⟨Ao43, co43, eo43⟩ := Kd.R_slice HO792.out; subst eo43))
            go_roundg k1
            case measure => have := HK1.out; omega
            case rel => exact ⟨(wrap64 (x4_1 + 1)), (t776), (t777), (t786), (t787), (t790), (.slice Ao42 t787.length co42), (.slice Ao43 t790.length co43), (by rfl), H', ⟨by have := HK1.out; omega⟩, ⟨by (with_reducible repeat (first | apply Kd.R_alloc | apply Kd.R_drewN | apply Kd.R_drew )); exact Kd.R_mono (Kd.R_far (p := ⟨gb768, 2, none⟩) (Kd.R_far (p := ⟨gb768, 1, none⟩) (Kd.R_far (p := ⟨gb768, 0, none⟩) (Kd.R_types HO789.out BK768.out (by decide)) (fun _ hk => hk.2) (.int .i64 t786)) (fun _ hk => hk.2) (.slice Ao42 t787.length co42)) (fun _ hk => hk.2) (.slice Ao43 t790.length co43)) (fun _ hk => trivial)⟩, ⟨by (with_reducible repeat (first | apply Kd.R_alloc | apply Kd.R_drewN | apply Kd.R_drew )); exact Kd.R_mono (Kd.R_far (p := ⟨gb768, 2, none⟩) (Kd.R_far (p := ⟨gb768, 1, none⟩) (Kd.R_far (p := ⟨gb768, 0, none⟩) (Kd.R_types HO792.out BK768.out (by decide)) (fun _ hk => hk.2) (.int .i64 t786)) (fun _ hk => hk.2) (.slice Ao42 t787.length co42)) (fun _ hk => hk.2) (.slice Ao43 t790.length co43)) (fun _ hk => trivial)⟩, ⟨by (with_reducible repeat (first | refine blk_drewN ?_ _ | refine blk_drew ?_ | refine blk_alloc ?_ _ )); refine blk_far ?_ NB757_768.out _; (with_reducible repeat (first | refine blk_drewN ?_ _ | refine blk_drew ?_ | refine blk_alloc ?_ _ )); refine blk_far ?_ NB757_768.out _; (with_reducible repeat (first | refine blk_drewN ?_ _ | refine blk_drew ?_ | refine blk_alloc ?_ _ )); refine blk_far ?_ NB757_768.out _; (with_reducible repeat (first | refine blk_drewN ?_ _ | refine blk_drew ?_ | refine blk_alloc ?_ _ )); exact BK757.out⟩, ⟨by (with_reducible repeat (first | refine blk_drewN ?_ _ | refine blk_drew ?_ | refine blk_alloc ?_ _ )); refine blk_put (cs := #[.int .i64 t786, .slice Ao42 t787.length co42, .slice Ao39 x769002_1.length co39]) ?_ 2 _ rfl; (with_reducible repeat (first | refine blk_drewN ?_ _ | refine blk_drew ?_ | refine blk_alloc ?_ _ )); refine blk_put (cs := #[.int .i64 t786, .slice Ao38 x769001_1.length co38, .slice Ao39 x769002_1.length co39]) ?_ 1 _ rfl; (with_reducible repeat (first | refine blk_drewN ?_ _ | refine blk_drew ?_ | refine blk_alloc ?_ _ )); refine blk_put (cs := #[.int .i64 x769000_1, .slice Ao38 x769001_1.length co38, .slice Ao39 x769002_1.length co39]) ?_ 0 _ rfl; (with_reducible repeat (first | refine blk_drewN ?_ _ | refine blk_drew ?_ | refine blk_alloc ?_ _ )); exact BK768.out⟩, ⟨by repeat ((with_reducible first | exact HI0.out | refine IsS73.far ?_ NB0_768.out _))⟩, ⟨by repeat ((with_reducible first | exact HK.out | refine keep_far ?_ GW768.out _))⟩, ⟨by repeat ((with_reducible first | exact HB.out | refine below_set ?_ GE768.out))⟩⟩
          · rw [if_neg c33] at H
            have c33b0 : (t775 == 1) = false := beq_eq_false_iff_ne.mpr c33
            have c33b1 : (t775 != 1) = true := bne_iff_ne.mpr c33
            by_cases c44 : t775 = 2
            · rw [if_pos c44] at H
              have c44b0 : (t775 == 2) = true := beq_iff_eq.mpr c44
              have c44b1 : (t775 != 2) = false := bne_eq_false_iff_eq.mpr c44
              clear c44
              replace H := Option.bind_eq_some_iff.mp H
              obtain ⟨⟨t794, t795, t796⟩, A450, H⟩ := H
              replace H : ((spec_RetireNode.f k1 x769000_1 x769001_1 x769002_1 (wrap64 (1 + t794))).bind fun bt797 => (spec_l08Epochs.l0 k1 (wrap64 (x4_1 + 1)) s0_0 t795 t796 bt797.1 bt797.2.1 bt797.2.2.1)) = some (r1, r2, r3, r4, r5) := H
              have A45 := Aside0.mk A450
              clear A450
              replace H := Option.bind_eq_some_iff.mp H
              obtain ⟨⟨t797, t798, t801, t804⟩, A460, H⟩ := H
              replace H : (spec_l08Epochs.l0 k1 (wrap64 (x4_1 + 1)) s0_0 t795 t796 t797 t798 t801) = some (r1, r2, r3, r4, r5) := H
              have A46 := Aside0.mk A460
              clear A460
              have H' := Aside0.mk H
              clear H
              go_wp2
              have n0_ := Aside0.mk (Kd.R_drew HO_769001.out)
              have n1_ := Aside0.mk (Kd.R_drew HO_769002.out)
              have n2_ := Aside0.mk (blk_drew BK757.out)
              have n3_ := Aside0.mk (blk_drew BK768.out)
              have n4_ := Aside0.mk (IsS73.drew HI0.out)
              have n5_ := Aside0.mk (keep_drew HK.out)
              have n6_ := Aside0.mk (below_drew1 HB.out)
              clear HO_769001
              clear HO_769002
              clear BK757
              clear BK768
              clear HI0
              clear HK
              clear HB
              have HO_769001 := n0_
              have HO_769002 := n1_
              have BK757 := n2_
              have BK768 := n3_
              have HI0 := n4_
              have HK := n5_
              have HB := n6_
              clear n0_ n1_ n2_ n3_ n4_ n5_ n6_
              refine start_ (n := 9) (S := fun w' => w'.cell? ⟨gb768, 0, none⟩ = some (.int .i64 x769000_1) ∧ w'.cell? ⟨gb768, 1, none⟩ = some (u769001) ∧ w'.cell? ⟨gb768, 2, none⟩ = some (u769002)) (ds := [8]) #[false, false, false, false, false, false, false, false, false] (by kernel_rfl) rfl rfl ⟨(blk_cell BK768.out 0).trans rfl, (blk_cell BK768.out 1).trans rfl, (blk_cell BK768.out 2).trans rfl⟩ (fun hHeld => ?_); refine with_tabW spec_l08Epochs.tab13 spec_l08Epochs.bits13 (fun HT_ HW_ => ?_)
              generalize w21.drew = w47 at HO_769001 HO_769002 BK757 BK768 HI0 HK HB hHeld ⊢
              refine pure_ (i := 1) (N := some 45) (v := ?_) (a' := ?_) #[false, true, false, false, false, false, false, false, false] rfl rfl (any_of HT_.out (by kernel_rfl)) (fun _ _ _ h => h) (Or.inl ⟨by rfl, ?_⟩) ?_ ?_
              rotate_left
              · intro w'
                go_simp
                with_reducible rfl
              rotate_left
              · simp only [Act.put, List.setIfInBounds_toArray, List.set_cons_zero, List.set_cons_succ, i64_w, i32_w]
                rfl
              refine take_ (i := 0) (N := some 44) (v := ?_) (a' := ?_) #[true, true, false, false, false, false, false, false, false] rfl rfl (take_ofW HT_.out HW_.out (by kernel_rfl)) (fun _ _ _ h => h) (Or.inl ⟨by rfl, ?_⟩) hHeld ?_ ?_
              rotate_left
              · rintro w' ⟨s0, s1, s2⟩
                go_simp
                with_reducible rfl
              rotate_left
              · simp only [Act.put, List.setIfInBounds_toArray, List.set_cons_zero, List.set_cons_succ, i64_w, i32_w]
                rfl
              refine one_ (i := 2) (N := some 46) #[true, true, true, false, false, false, false, false, false] rfl rfl (one_of HT_.out (by kernel_rfl)) (by decide) (fun K hK => ?_)
              refine goes_ Try.func61 (by kernel_rfl) rfl #[.pointer (some ⟨g, 0, none⟩), .int .i64 9] (by rfl) rfl rfl (by (try simp only [List.map_toArray, List.map_cons, List.map_nil]); rfl) ?_
              with_reducible refine (spec_l01Below.calls g s0_0 t776 t777 9 t794 t795 t796 w0 _ ?side1 ?side2 A45.out).mono ?_
              (case side1 => repeat ((with_reducible exact HI0.out)))
              (case side2 => repeat ((with_reducible exact HB.out)))
              rintro e w48 ⟨rfl, hi, hb, hk⟩
              refine ⟨_, rfl, ?_⟩
              have n0_ := Aside0.mk (Kd.R_mono (Kd.R_keep (IsS73.apart (show IsS73 w0 _ g s0_0 t776 t777 from by repeat ((with_reducible exact HI0.out))) (by (with_reducible repeat (first | apply Kd.R_alloc | apply Kd.R_drewN | apply Kd.R_drew )); exact HO_769001.out) (by decide)) hk (fun _ h => h.2)) (fun _ h => h.1))
              have n1_ := Aside0.mk (Kd.R_mono (Kd.R_keep (IsS73.apart (show IsS73 w0 _ g s0_0 t776 t777 from by repeat ((with_reducible exact HI0.out))) (by (with_reducible repeat (first | apply Kd.R_alloc | apply Kd.R_drewN | apply Kd.R_drew )); exact HO_769002.out) (by decide)) hk (fun _ h => h.2)) (fun _ h => h.1))
              have n2_ := Aside0.mk (KeepBut.blk hk (g' := gb757) (o := .cells #[.int .i64 0, .slice none 0 0, .slice none 0 0] 25 (0, 0)) (by (with_reducible repeat (first | refine blk_drewN ?_ _ | refine blk_drew ?_ | refine blk_alloc ?_ _ )); exact BK757.out) NB757_0.out (by simp))
              have n3_ := Aside0.mk (KeepBut.blk hk (g' := gb768) (o := .cells #[.int .i64 x769000_1, u769001, u769002] 25 (0, 0)) (by (with_reducible repeat (first | refine blk_drewN ?_ _ | refine blk_drew ?_ | refine blk_alloc ?_ _ )); exact BK768.out) NB768_0.out (by simp))
              have n4_ := Aside0.mk (KeepBut.trans (by repeat ((with_reducible exact HK.out))) hk (.inl rfl))
              have n5_ := Aside0.mk (hb)
              have n6_ := Aside0.mk (hi)
              clear HO_769001
              clear HO_769002
              clear BK757
              clear BK768
              clear HK
              clear HB
              clear HI0
              have HO_769001 := n0_
              have HO_769002 := n1_
              have BK757 := n2_
              have BK768 := n3_
              have HK := n4_
              have HB := n5_
              have HI0 := n6_
              clear n0_ n1_ n2_ n3_ n4_ n5_ n6_
              (try clear hb)
              (try clear hb2)
              (try clear hk)
              (try clear hi)
              obtain ⟨Ao49, co49, eo49⟩ := Kd.R_slice HO_769001.out
              (subst eo49)
              obtain ⟨Ao50, co50, eo50⟩ := Kd.R_slice HO_769002.out
              (subst eo50)
              refine hK.out _ _ ⟨(blk_cell BK768.out 0).trans rfl, (blk_cell BK768.out 1).trans rfl, (blk_cell BK768.out 2).trans rfl⟩ (fun hHeld => ?_)
              clear hK K
              refine norm_ (a' := ?_) ?_ ?_
              rotate_left
              · show Act.put _ (some 46) _ = _
                simp only [Act.put, List.setIfInBounds_toArray, List.set_cons_zero, List.set_cons_succ, i64_w, i32_w]
                rfl
              refine pure_ (i := 3) (N := some 47) (v := ?_) (a' := ?_) #[true, true, true, true, false, false, false, false, false] rfl rfl (any_of HT_.out (by kernel_rfl)) (fun _ _ _ h => h) (Or.inl ⟨by rfl, ?_⟩) ?_ ?_
              rotate_left
              · intro w'
                go_simp
                with_reducible rfl
              rotate_left
              · simp only [Act.put, List.setIfInBounds_toArray, List.set_cons_zero, List.set_cons_succ, i64_w, i32_w]
                rfl
              refine one_ (i := 4) (N := some 48) #[true, true, true, true, true, false, false, false, false] rfl rfl (one_of HT_.out (by kernel_rfl)) (by decide) (fun K hK => ?_)
              refine goes_ Try.func33 (by kernel_rfl) rfl #[.agg #[.int .i64 x769000_1, .slice Ao49 x769001_1.length co49, .slice Ao50 x769002_1.length co50], .int .i64 (wrap64 (1 + t794))] (by rfl) rfl rfl (by (try simp only [List.map_toArray, List.map_cons, List.map_nil]); rfl) ?_
              with_reducible refine (spec_RetireNode.calls k1 x769000_1 _ _ x769001_1 _ _ x769002_1 (wrap64 (1 + t794)) t797 t798 t801 t804 _ ?side1 ?side2 ?side3 ?side4 A46.out).mono ?_
              (case side1 => repeat (exact (Kd.R_reads' HO_769001.out).2.2))
              (case side2 => exact (Kd.R_reads' HO_769001.out).2.1)
              (case side3 => repeat (exact (Kd.R_reads' HO_769002.out).2.2))
              (case side4 => exact (Kd.R_reads' HO_769002.out).2.1)
              rintro e w51 ⟨v799, v802, rfl, ho0, ho1, hb⟩
              refine ⟨_, rfl, ?_⟩
              have n0_ := Aside0.mk (Kd.R_elder' (by (with_reducible repeat (first | apply Kd.R_alloc | apply Kd.R_drewN | apply Kd.R_drew )); exact HO_769001.out) (Kd.R_base ho0) hb)
              have n1_ := Aside0.mk (Kd.R_elder' (by (with_reducible repeat (first | apply Kd.R_alloc | apply Kd.R_drewN | apply Kd.R_drew )); exact HO_769002.out) (Kd.R_base ho1) hb)
              have n2_ := Aside0.mk (Kd.R_lower (Kd.R_new' ho0 (Kd.R_lt (by (with_reducible repeat (first | apply Kd.R_alloc | apply Kd.R_drewN | apply Kd.R_drew )); exact HO_769001.out))) (keep_size (w := w) (g := g) (row := none) (by repeat ((with_reducible exact HK.out)))))
              have n3_ := Aside0.mk (Kd.R_lower (Kd.R_new' ho1 (Kd.R_lt (by (with_reducible repeat (first | apply Kd.R_alloc | apply Kd.R_drewN | apply Kd.R_drew )); exact HO_769002.out))) (keep_size (w := w) (g := g) (row := none) (by repeat ((with_reducible exact HK.out)))))
              have n4_ := Aside0.mk (blk_below (g := gb757) (o := .cells #[.int .i64 0, .slice none 0 0, .slice none 0 0] 25 (0, 0)) (by (with_reducible repeat (first | refine blk_drewN ?_ _ | refine blk_drew ?_ | refine blk_alloc ?_ _ )); exact BK757.out) hb)
              have n5_ := Aside0.mk (blk_below (g := gb768) (o := .cells #[.int .i64 x769000_1, .slice Ao49 x769001_1.length co49, .slice Ao50 x769002_1.length co50] 25 (0, 0)) (by (with_reducible repeat (first | refine blk_drewN ?_ _ | refine blk_drew ?_ | refine blk_alloc ?_ _ )); exact BK768.out) hb)
              have n6_ := Aside0.mk (IsS73.below (by repeat ((with_reducible exact HI0.out))) hb)
              have n7_ := Aside0.mk (KeepBut.trans (by repeat ((with_reducible exact HK.out))) (KeepBut.of_below hb g none) (.inl rfl))
              have n8_ := Aside0.mk (below_step (by repeat ((with_reducible exact HB.out))) hb)
              clear HO_769001
              clear HO_769002
              clear BK757
              clear BK768
              clear HI0
              clear HK
              clear HB
              have HO_769001 := n0_
              have HO_769002 := n1_
              have HO800 := n2_
              have HO803 := n3_
              have BK757 := n4_
              have BK768 := n5_
              have HI0 := n6_
              have HK := n7_
              have HB := n8_
              clear n0_ n1_ n2_ n3_ n4_ n5_ n6_ n7_ n8_
              (try clear hb)
              (try clear hb2)
              (try clear hk)
              (try clear hi)
              (try clear ho0)
              (try clear ho1)
              obtain ⟨Ao53, co53, eo53⟩ := Kd.R_slice HO800.out
              (subst eo53)
              obtain ⟨Ao55, co55, eo55⟩ := Kd.R_slice HO803.out
              (subst eo55)
              refine hK.out _ _ ⟨(blk_cell BK768.out 0).trans rfl, (blk_cell BK768.out 1).trans rfl, (blk_cell BK768.out 2).trans rfl⟩ (fun hHeld => ?_)
              clear hK K
              refine norm_ (a' := ?_) ?_ ?_
              rotate_left
              · show Act.put _ (some 48) _ = _
                simp only [Act.put, List.setIfInBounds_toArray, List.set_cons_zero, List.set_cons_succ, i64_w, i32_w]
                rfl
              refine pure_ (i := 5) (N := some 43) (v := ?_) (a' := ?_) #[true, true, true, true, true, true, false, false, false] rfl rfl (any_of HT_.out (by kernel_rfl)) (fun _ _ _ h => h) (Or.inl ⟨by rfl, ?_⟩) ?_ ?_
              rotate_left
              · intro w'
                go_simp
                with_reducible rfl
              rotate_left
              · simp only [Act.put, List.setIfInBounds_toArray, List.set_cons_zero, List.set_cons_succ, i64_w, i32_w]
                rfl
              refine pure_ (i := 6) (N := some 49) (v := ?_) (a' := ?_) #[true, true, true, true, true, true, true, false, false] rfl rfl (any_of HT_.out (by kernel_rfl)) (fun _ _ _ h => h) (Or.inl ⟨by rfl, ?_⟩) ?_ ?_
              rotate_left
              · intro w'
                go_simp
                with_reducible rfl
              rotate_left
              · simp only [Act.put, List.setIfInBounds_toArray, List.set_cons_zero, List.set_cons_succ, i64_w, i32_w]
                rfl
              refine pure_ (i := 7) (N := some 50) (v := ?_) (a' := ?_) #[true, true, true, true, true, true, true, true, false] rfl rfl (any_of HT_.out (by kernel_rfl)) (fun _ _ _ h => h) (Or.inl ⟨by rfl, ?_⟩) ?_ ?_
              rotate_left
              · intro w'
                go_simp
                with_reducible rfl
              rotate_left
              · simp only [Act.put, List.setIfInBounds_toArray, List.set_cons_zero, List.set_cons_succ, i64_w, i32_w]
                rfl
              refine last_ (i := 8) (N := none) #[true, true, true, true, true, true, true, true, true] rfl rfl (one_of HT_.out (by kernel_rfl)) (by decide) (fun K hK => ?_)
              have hs52 : w51.cell? ⟨gb768, 0, none⟩ = some (.int .i64 x769000_1) := (blk_cell BK768.out 0).trans rfl
              have hfs52 := blk_frozen BK768.out 0
              have hns52_0 := NB757_768.out
              have hms52_0 := NB768_757.out
              have hs54 : w51.cell? ⟨gb768, 1, none⟩ = some (.slice Ao49 x769001_1.length co49) := (blk_cell BK768.out 1).trans rfl
              have hfs54 := blk_frozen BK768.out 1
              have hns54_0 := NB757_768.out
              have hms54_0 := NB768_757.out
              have hs56 : w51.cell? ⟨gb768, 2, none⟩ = some (.slice Ao50 x769002_1.length co50) := (blk_cell BK768.out 2).trans rfl
              have hfs56 := blk_frozen BK768.out 2
              have hns56_0 := NB757_768.out
              have hms56_0 := NB768_757.out
              refine skip_ (w1 := ?_) (by rfl) rfl ?_ ?_
              rotate_left
              · go_simp
                rfl
              refine hK.out _ _ ?_
              clear hK K
              refine done_ (done_of HT_.out (by kernel_rfl)) ?_
              go_wp2
              go_roundg k1
              case measure => have := HK1.out; omega
              case rel => exact ⟨(wrap64 (x4_1 + 1)), (t795), (t796), (t797), (t798), (t801), (.slice Ao53 t798.length co53), (.slice Ao55 t801.length co55), (by rfl), H', ⟨by have := HK1.out; omega⟩, ⟨by (with_reducible repeat (first | apply Kd.R_alloc | apply Kd.R_drewN | apply Kd.R_drew )); exact Kd.R_mono (Kd.R_far (p := ⟨gb768, 2, none⟩) (Kd.R_far (p := ⟨gb768, 1, none⟩) (Kd.R_far (p := ⟨gb768, 0, none⟩) (Kd.R_types HO800.out BK768.out (by decide)) (fun _ hk => hk.2) (.int .i64 t797)) (fun _ hk => hk.2) (.slice Ao53 t798.length co53)) (fun _ hk => hk.2) (.slice Ao55 t801.length co55)) (fun _ hk => trivial)⟩, ⟨by (with_reducible repeat (first | apply Kd.R_alloc | apply Kd.R_drewN | apply Kd.R_drew )); exact Kd.R_mono (Kd.R_far (p := ⟨gb768, 2, none⟩) (Kd.R_far (p := ⟨gb768, 1, none⟩) (Kd.R_far (p := ⟨gb768, 0, none⟩) (Kd.R_types HO803.out BK768.out (by decide)) (fun _ hk => hk.2) (.int .i64 t797)) (fun _ hk => hk.2) (.slice Ao53 t798.length co53)) (fun _ hk => hk.2) (.slice Ao55 t801.length co55)) (fun _ hk => trivial)⟩, ⟨by (with_reducible repeat (first | refine blk_drewN ?_ _ | refine blk_drew ?_ | refine blk_alloc ?_ _ )); refine blk_far ?_ NB757_768.out _; (with_reducible repeat (first | refine blk_drewN ?_ _ | refine blk_drew ?_ | refine blk_alloc ?_ _ )); refine blk_far ?_ NB757_768.out _; (with_reducible repeat (first | refine blk_drewN ?_ _ | refine blk_drew ?_ | refine blk_alloc ?_ _ )); refine blk_far ?_ NB757_768.out _; (with_reducible repeat (first | refine blk_drewN ?_ _ | refine blk_drew ?_ | refine blk_alloc ?_ _ )); exact BK757.out⟩, ⟨by (with_reducible repeat (first | refine blk_drewN ?_ _ | refine blk_drew ?_ | refine blk_alloc ?_ _ )); refine blk_put (cs := #[.int .i64 t797, .slice Ao53 t798.length co53, .slice Ao50 x769002_1.length co50]) ?_ 2 _ rfl; (with_reducible repeat (first | refine blk_drewN ?_ _ | refine blk_drew ?_ | refine blk_alloc ?_ _ )); refine blk_put (cs := #[.int .i64 t797, .slice Ao49 x769001_1.length co49, .slice Ao50 x769002_1.length co50]) ?_ 1 _ rfl; (with_reducible repeat (first | refine blk_drewN ?_ _ | refine blk_drew ?_ | refine blk_alloc ?_ _ )); refine blk_put (cs := #[.int .i64 x769000_1, .slice Ao49 x769001_1.length co49, .slice Ao50 x769002_1.length co50]) ?_ 0 _ rfl; (with_reducible repeat (first | refine blk_drewN ?_ _ | refine blk_drew ?_ | refine blk_alloc ?_ _ )); exact BK768.out⟩, ⟨by repeat ((with_reducible first | exact HI0.out | refine IsS73.far ?_ NB0_768.out _))⟩, ⟨by repeat ((with_reducible first | exact HK.out | refine keep_far ?_ GW768.out _))⟩, ⟨by repeat ((with_reducible first | exact HB.out | refine below_set ?_ GE768.out))⟩⟩
            · rw [if_neg c44] at H
              have c44b0 : (t775 == 2) = false := beq_eq_false_iff_ne.mpr c44
              have c44b1 : (t775 != 2) = true := bne_iff_ne.mpr c44
              by_cases c57 : t775 = 3
              · rw [if_pos c57] at H
                have c57b0 : (t775 == 3) = true := beq_iff_eq.mpr c57
                have c57b1 : (t775 != 3) = false := bne_eq_false_iff_eq.mpr c57
                clear c57
                replace H := Option.bind_eq_some_iff.mp H
                obtain ⟨⟨t805, t806, t809, t812⟩, A580, H⟩ := H
                replace H : (spec_l08Epochs.l0 k1 (wrap64 (x4_1 + 1)) s0_0 t776 t777 t805 t806 t809) = some (r1, r2, r3, r4, r5) := H
                have A58 := Aside0.mk A580
                clear A580
                have H' := Aside0.mk H
                clear H
                have hnb59 := NB768_757.out
                have hnc59 := NB757_768.out
                have hnb60 := NB768_0.out
                have hnc60 := NB0_768.out
                have hcz61_0 : w21.cell? ⟨gb768, 0, none⟩ = some (.int .i64 x769000_1) := (blk_cell BK768.out 0).trans rfl
                have hcz61_1 : w21.cell? ⟨gb768, 1, none⟩ = some (u769001) := (blk_cell BK768.out 1).trans rfl
                have hcz61_2 : w21.cell? ⟨gb768, 2, none⟩ = some (u769002) := (blk_cell BK768.out 2).trans rfl
                have hfz61_0 := blk_frozen BK768.out 0
                have hfz61_1 := blk_frozen BK768.out 1
                have hfz61_2 := blk_frozen BK768.out 2
                obtain ⟨Ao62, co62, eo62⟩ := Kd.R_slice HO_769001.out
                subst eo62
                obtain ⟨Ao63, co63, eo63⟩ := Kd.R_slice HO_769002.out
                subst eo63
                go_wp2_with (((with_reducible refine gate_callee (f := 31) rfl ?_); refine goesL_ (some 55) rfl rfl Try.func31 (by kernel_rfl) rfl #[.agg #[.int .i64 x769000_1, .slice Ao62 x769001_1.length co62, .slice Ao63 x769002_1.length co63]] rfl (by (try simp only [List.map_toArray, List.map_cons, List.map_nil]); rfl) ?_; (with_reducible refine (spec_AdvanceEpoch.calls k1 x769000_1 _ _ x769001_1 _ _ x769002_1 t805 t806 t809 t812 _ ?side1 ?side2 ?side3 ?side4 A58.out).mono ?_); (case side1 => repeat (exact (Kd.R_reads' HO_769001.out).2.2)); (case side2 => exact (Kd.R_reads' HO_769001.out).2.1); (case side3 => repeat (exact (Kd.R_reads' HO_769002.out).2.2)); (case side4 => exact (Kd.R_reads' HO_769002.out).2.1); rintro e w64 ⟨v807, v810, rfl, ho0, ho1, hb⟩; refine ⟨_, rfl, ?_⟩; have n0_ := Aside0.mk (Kd.R_elder' (by (with_reducible repeat (first | apply Kd.R_alloc | apply Kd.R_drewN | apply Kd.R_drew )); exact HO_769001.out) (Kd.R_base ho0) hb); have n1_ := Aside0.mk (Kd.R_elder' (by (with_reducible repeat (first | apply Kd.R_alloc | apply Kd.R_drewN | apply Kd.R_drew )); exact HO_769002.out) (Kd.R_base ho1) hb); have n2_ := Aside0.mk (Kd.R_lower (Kd.R_new' ho0 (Kd.R_lt (by (with_reducible repeat (first | apply Kd.R_alloc | apply Kd.R_drewN | apply Kd.R_drew )); exact HO_769001.out))) (keep_size (w := w) (g := g) (row := none) (by repeat ((with_reducible exact HK.out))))); have n3_ := Aside0.mk (Kd.R_lower (Kd.R_new' ho1 (Kd.R_lt (by (with_reducible repeat (first | apply Kd.R_alloc | apply Kd.R_drewN | apply Kd.R_drew )); exact HO_769002.out))) (keep_size (w := w) (g := g) (row := none) (by repeat ((with_reducible exact HK.out))))); have n4_ := Aside0.mk (blk_below (g := gb757) (o := .cells #[.int .i64 0, .slice none 0 0, .slice none 0 0] 25 (0, 0)) (by (with_reducible repeat (first | refine blk_drewN ?_ _ | refine blk_drew ?_ | refine blk_alloc ?_ _ )); exact BK757.out) hb); have n5_ := Aside0.mk (blk_below (g := gb768) (o := .cells #[.int .i64 x769000_1, .slice Ao62 x769001_1.length co62, .slice Ao63 x769002_1.length co63] 25 (0, 0)) (by (with_reducible repeat (first | refine blk_drewN ?_ _ | refine blk_drew ?_ | refine blk_alloc ?_ _ )); exact BK768.out) hb); have n6_ := Aside0.mk (IsS73.below (by repeat ((with_reducible exact HI0.out))) hb); have n7_ := Aside0.mk (KeepBut.trans (by repeat ((with_reducible exact HK.out))) (KeepBut.of_below hb g none) (.inl rfl)); have n8_ := Aside0.mk (below_step (by repeat ((with_reducible exact HB.out))) hb); clear HO_769001; clear HO_769002; clear BK757; clear BK768; clear HI0; clear HK; clear HB; have HO_769001 := n0_; have HO_769002 := n1_; have HO808 := n2_; have HO811 := n3_; have BK757 := n4_; have BK768 := n5_; have HI0 := n6_; have HK := n7_; have HB := n8_; clear n0_ n1_ n2_ n3_ n4_ n5_ n6_ n7_ n8_; (try clear hb); (try clear hb2); (try clear hk); (try clear hi); (try clear ho0); (try clear ho1); have hcz65_0 : w64.cell? ⟨gb768, 0, none⟩ = some (.int .i64 x769000_1) := (blk_cell BK768.out 0).trans rfl; have hcz65_1 : w64.cell? ⟨gb768, 1, none⟩ = some (.slice Ao62 x769001_1.length co62) := (blk_cell BK768.out 1).trans rfl; have hcz65_2 : w64.cell? ⟨gb768, 2, none⟩ = some (.slice Ao63 x769002_1.length co63) := (blk_cell BK768.out 2).trans rfl; have hfz65_0 := blk_frozen BK768.out 0; have hfz65_1 := blk_frozen BK768.out 1; have hfz65_2 := blk_frozen BK768.out 2; obtain ⟨Ao66, co66, eo66⟩ := Kd.R_slice HO808.out; subst eo66; obtain ⟨Ao67, co67, eo67⟩ := Kd.R_slice HO811.out; subst eo67))
                go_roundg k1
                case measure => have := HK1.out; omega
                case rel => exact ⟨(wrap64 (x4_1 + 1)), (t776), (t777), (t805), (t806), (t809), (.slice Ao66 t806.length co66), (.slice Ao67 t809.length co67), (by rfl), H', ⟨by have := HK1.out; omega⟩, ⟨by (with_reducible repeat (first | apply Kd.R_alloc | apply Kd.R_drewN | apply Kd.R_drew )); exact Kd.R_mono (Kd.R_far (p := ⟨gb768, 2, none⟩) (Kd.R_far (p := ⟨gb768, 1, none⟩) (Kd.R_far (p := ⟨gb768, 0, none⟩) (Kd.R_types HO808.out BK768.out (by decide)) (fun _ hk => hk.2) (.int .i64 t805)) (fun _ hk => hk.2) (.slice Ao66 t806.length co66)) (fun _ hk => hk.2) (.slice Ao67 t809.length co67)) (fun _ hk => trivial)⟩, ⟨by (with_reducible repeat (first | apply Kd.R_alloc | apply Kd.R_drewN | apply Kd.R_drew )); exact Kd.R_mono (Kd.R_far (p := ⟨gb768, 2, none⟩) (Kd.R_far (p := ⟨gb768, 1, none⟩) (Kd.R_far (p := ⟨gb768, 0, none⟩) (Kd.R_types HO811.out BK768.out (by decide)) (fun _ hk => hk.2) (.int .i64 t805)) (fun _ hk => hk.2) (.slice Ao66 t806.length co66)) (fun _ hk => hk.2) (.slice Ao67 t809.length co67)) (fun _ hk => trivial)⟩, ⟨by (with_reducible repeat (first | refine blk_drewN ?_ _ | refine blk_drew ?_ | refine blk_alloc ?_ _ )); refine blk_far ?_ NB757_768.out _; (with_reducible repeat (first | refine blk_drewN ?_ _ | refine blk_drew ?_ | refine blk_alloc ?_ _ )); refine blk_far ?_ NB757_768.out _; (with_reducible repeat (first | refine blk_drewN ?_ _ | refine blk_drew ?_ | refine blk_alloc ?_ _ )); refine blk_far ?_ NB757_768.out _; (with_reducible repeat (first | refine blk_drewN ?_ _ | refine blk_drew ?_ | refine blk_alloc ?_ _ )); exact BK757.out⟩, ⟨by (with_reducible repeat (first | refine blk_drewN ?_ _ | refine blk_drew ?_ | refine blk_alloc ?_ _ )); refine blk_put (cs := #[.int .i64 t805, .slice Ao66 t806.length co66, .slice Ao63 x769002_1.length co63]) ?_ 2 _ rfl; (with_reducible repeat (first | refine blk_drewN ?_ _ | refine blk_drew ?_ | refine blk_alloc ?_ _ )); refine blk_put (cs := #[.int .i64 t805, .slice Ao62 x769001_1.length co62, .slice Ao63 x769002_1.length co63]) ?_ 1 _ rfl; (with_reducible repeat (first | refine blk_drewN ?_ _ | refine blk_drew ?_ | refine blk_alloc ?_ _ )); refine blk_put (cs := #[.int .i64 x769000_1, .slice Ao62 x769001_1.length co62, .slice Ao63 x769002_1.length co63]) ?_ 0 _ rfl; (with_reducible repeat (first | refine blk_drewN ?_ _ | refine blk_drew ?_ | refine blk_alloc ?_ _ )); exact BK768.out⟩, ⟨by repeat ((with_reducible first | exact HI0.out | refine IsS73.far ?_ NB0_768.out _))⟩, ⟨by repeat ((with_reducible first | exact HK.out | refine keep_far ?_ GW768.out _))⟩, ⟨by repeat ((with_reducible first | exact HB.out | refine below_set ?_ GE768.out))⟩⟩
              · rw [if_neg c57] at H
                have c57b0 : (t775 == 3) = false := beq_eq_false_iff_ne.mpr c57
                have c57b1 : (t775 != 3) = true := bne_iff_ne.mpr c57
                replace H := Option.bind_eq_some_iff.mp H
                obtain ⟨⟨t813, t814, t817, t820⟩, A680, H⟩ := H
                replace H : (spec_l08Epochs.l0 k1 (wrap64 (x4_1 + 1)) s0_0 t776 t777 t813 t814 t817) = some (r1, r2, r3, r4, r5) := H
                have A68 := Aside0.mk A680
                clear A680
                have H' := Aside0.mk H
                clear H
                have hnb69 := NB768_757.out
                have hnc69 := NB757_768.out
                have hnb70 := NB768_0.out
                have hnc70 := NB0_768.out
                have hcz71_0 : w21.cell? ⟨gb768, 0, none⟩ = some (.int .i64 x769000_1) := (blk_cell BK768.out 0).trans rfl
                have hcz71_1 : w21.cell? ⟨gb768, 1, none⟩ = some (u769001) := (blk_cell BK768.out 1).trans rfl
                have hcz71_2 : w21.cell? ⟨gb768, 2, none⟩ = some (u769002) := (blk_cell BK768.out 2).trans rfl
                have hfz71_0 := blk_frozen BK768.out 0
                have hfz71_1 := blk_frozen BK768.out 1
                have hfz71_2 := blk_frozen BK768.out 2
                obtain ⟨Ao72, co72, eo72⟩ := Kd.R_slice HO_769001.out
                subst eo72
                obtain ⟨Ao73, co73, eo73⟩ := Kd.R_slice HO_769002.out
                subst eo73
                go_wp2_with (((with_reducible refine gate_callee (f := 26) rfl ?_); refine goesL_ (some 22) rfl rfl Try.func26 (by kernel_rfl) rfl #[.agg #[.int .i64 x769000_1, .slice Ao72 x769001_1.length co72, .slice Ao73 x769002_1.length co73]] rfl (by (try simp only [List.map_toArray, List.map_cons, List.map_nil]); rfl) ?_; (with_reducible refine (spec_FreeNodes.calls k1 x769000_1 _ _ x769001_1 _ _ x769002_1 t813 t814 t817 t820 _ ?side1 ?side2 ?side3 ?side4 A68.out).mono ?_); (case side1 => repeat (exact (Kd.R_reads' HO_769001.out).2.2)); (case side2 => exact (Kd.R_reads' HO_769001.out).2.1); (case side3 => repeat (exact (Kd.R_reads' HO_769002.out).2.2)); (case side4 => exact (Kd.R_reads' HO_769002.out).2.1); rintro e w74 ⟨v815, v818, v821, rfl, ho0, ho1, ho2, hb⟩; refine ⟨_, rfl, ?_⟩; have n0_ := Aside0.mk (Kd.R_mono (Kd.R_told (Kd.R_told (Kd.R_old (by (with_reducible repeat (first | apply Kd.R_alloc | apply Kd.R_drewN | apply Kd.R_drew )); exact HO_769001.out) hb) (Kd.R_base ho0)) (Kd.R_base ho2)) (fun _ h_ => h_.1)); have n1_ := Aside0.mk (Kd.R_elder' (by (with_reducible repeat (first | apply Kd.R_alloc | apply Kd.R_drewN | apply Kd.R_drew )); exact HO_769002.out) (Kd.R_base ho1) hb); have n2_ := Aside0.mk (Kd.R_lower (Kd.R_new' ho0 (Kd.R_lt (by (with_reducible repeat (first | apply Kd.R_alloc | apply Kd.R_drewN | apply Kd.R_drew )); exact HO_769001.out))) (keep_size (w := w) (g := g) (row := none) (by repeat ((with_reducible exact HK.out))))); have n3_ := Aside0.mk (Kd.R_lower (Kd.R_new' ho1 (Kd.R_lt (by (with_reducible repeat (first | apply Kd.R_alloc | apply Kd.R_drewN | apply Kd.R_drew )); exact HO_769002.out))) (keep_size (w := w) (g := g) (row := none) (by repeat ((with_reducible exact HK.out))))); have n4_ := Aside0.mk (Kd.R_lower (Kd.R_new' ho2 (Kd.R_lt (by (with_reducible repeat (first | apply Kd.R_alloc | apply Kd.R_drewN | apply Kd.R_drew )); exact HO_769001.out))) (keep_size (w := w) (g := g) (row := none) (by repeat ((with_reducible exact HK.out))))); have n5_ := Aside0.mk (blk_below (g := gb757) (o := .cells #[.int .i64 0, .slice none 0 0, .slice none 0 0] 25 (0, 0)) (by (with_reducible repeat (first | refine blk_drewN ?_ _ | refine blk_drew ?_ | refine blk_alloc ?_ _ )); exact BK757.out) hb); have n6_ := Aside0.mk (blk_below (g := gb768) (o := .cells #[.int .i64 x769000_1, .slice Ao72 x769001_1.length co72, .slice Ao73 x769002_1.length co73] 25 (0, 0)) (by (with_reducible repeat (first | refine blk_drewN ?_ _ | refine blk_drew ?_ | refine blk_alloc ?_ _ )); exact BK768.out) hb); have n7_ := Aside0.mk (IsS73.below (by repeat ((with_reducible exact HI0.out))) hb); have n8_ := Aside0.mk (KeepBut.trans (by repeat ((with_reducible exact HK.out))) (KeepBut.of_below hb g none) (.inl rfl)); have n9_ := Aside0.mk (below_step (by repeat ((with_reducible exact HB.out))) hb); clear HO_769001; clear HO_769002; clear BK757; clear BK768; clear HI0; clear HK; clear HB; have HO_769001 := n0_; have HO_769002 := n1_; have HO816 := n2_; have HO819 := n3_; have HO822 := n4_; have BK757 := n5_; have BK768 := n6_; have HI0 := n7_; have HK := n8_; have HB := n9_; clear n0_ n1_ n2_ n3_ n4_ n5_ n6_ n7_ n8_ n9_; (try clear hb); (try clear hb2); (try clear hk); (try clear hi); (try clear ho0); (try clear ho1); (try clear ho2); have hcz75_0 : w74.cell? ⟨gb768, 0, none⟩ = some (.int .i64 x769000_1) := (blk_cell BK768.out 0).trans rfl; have hcz75_1 : w74.cell? ⟨gb768, 1, none⟩ = some (.slice Ao72 x769001_1.length co72) := (blk_cell BK768.out 1).trans rfl; have hcz75_2 : w74.cell? ⟨gb768, 2, none⟩ = some (.slice Ao73 x769002_1.length co73) := (blk_cell BK768.out 2).trans rfl; have hfz75_0 := blk_frozen BK768.out 0; have hfz75_1 := blk_frozen BK768.out 1; have hfz75_2 := blk_frozen BK768.out 2; obtain ⟨Ao76, co76, eo76⟩ := Kd.R_slice HO816.out; subst eo76; obtain ⟨Ao77, co77, eo77⟩ := Kd.R_slice HO819.out; subst eo77))
                go_roundg k1
                case measure => have := HK1.out; omega
                case rel => exact ⟨(wrap64 (x4_1 + 1)), (t776), (t777), (t813), (t814), (t817), (.slice Ao76 t814.length co76), (.slice Ao77 t817.length co77), (by rfl), H', ⟨by have := HK1.out; omega⟩, ⟨by (with_reducible repeat (first | apply Kd.R_alloc | apply Kd.R_drewN | apply Kd.R_drew )); exact Kd.R_mono (Kd.R_far (p := ⟨gb768, 2, none⟩) (Kd.R_far (p := ⟨gb768, 1, none⟩) (Kd.R_far (p := ⟨gb768, 0, none⟩) (Kd.R_types HO816.out BK768.out (by decide)) (fun _ hk => hk.2) (.int .i64 t813)) (fun _ hk => hk.2) (.slice Ao76 t814.length co76)) (fun _ hk => hk.2) (.slice Ao77 t817.length co77)) (fun _ hk => trivial)⟩, ⟨by (with_reducible repeat (first | apply Kd.R_alloc | apply Kd.R_drewN | apply Kd.R_drew )); exact Kd.R_mono (Kd.R_far (p := ⟨gb768, 2, none⟩) (Kd.R_far (p := ⟨gb768, 1, none⟩) (Kd.R_far (p := ⟨gb768, 0, none⟩) (Kd.R_types HO819.out BK768.out (by decide)) (fun _ hk => hk.2) (.int .i64 t813)) (fun _ hk => hk.2) (.slice Ao76 t814.length co76)) (fun _ hk => hk.2) (.slice Ao77 t817.length co77)) (fun _ hk => trivial)⟩, ⟨by (with_reducible repeat (first | refine blk_drewN ?_ _ | refine blk_drew ?_ | refine blk_alloc ?_ _ )); refine blk_far ?_ NB757_768.out _; (with_reducible repeat (first | refine blk_drewN ?_ _ | refine blk_drew ?_ | refine blk_alloc ?_ _ )); refine blk_far ?_ NB757_768.out _; (with_reducible repeat (first | refine blk_drewN ?_ _ | refine blk_drew ?_ | refine blk_alloc ?_ _ )); refine blk_far ?_ NB757_768.out _; (with_reducible repeat (first | refine blk_drewN ?_ _ | refine blk_drew ?_ | refine blk_alloc ?_ _ )); exact BK757.out⟩, ⟨by (with_reducible repeat (first | refine blk_drewN ?_ _ | refine blk_drew ?_ | refine blk_alloc ?_ _ )); refine blk_put (cs := #[.int .i64 t813, .slice Ao76 t814.length co76, .slice Ao73 x769002_1.length co73]) ?_ 2 _ rfl; (with_reducible repeat (first | refine blk_drewN ?_ _ | refine blk_drew ?_ | refine blk_alloc ?_ _ )); refine blk_put (cs := #[.int .i64 t813, .slice Ao72 x769001_1.length co72, .slice Ao73 x769002_1.length co73]) ?_ 1 _ rfl; (with_reducible repeat (first | refine blk_drewN ?_ _ | refine blk_drew ?_ | refine blk_alloc ?_ _ )); refine blk_put (cs := #[.int .i64 x769000_1, .slice Ao72 x769001_1.length co72, .slice Ao73 x769002_1.length co73]) ?_ 0 _ rfl; (with_reducible repeat (first | refine blk_drewN ?_ _ | refine blk_drew ?_ | refine blk_alloc ?_ _ )); exact BK768.out⟩, ⟨by repeat ((with_reducible first | exact HI0.out | refine IsS73.far ?_ NB0_768.out _))⟩, ⟨by repeat ((with_reducible first | exact HK.out | refine keep_far ?_ GW768.out _))⟩, ⟨by repeat ((with_reducible first | exact HB.out | refine below_set ?_ GE768.out))⟩⟩
      · rw [if_neg c16] at H
        have c16b0 : decide (x4_1 < t769) = false := decide_eq_false c16
        clear c16
        (rw [c16b0])
        simp only [Option.some.injEq, Prod.mk.injEq] at H
        obtain ⟨rfl, rfl, rfl, rfl, rfl⟩ := H
        have hnb78 := NB768_757.out
        have hnc78 := NB757_768.out
        have hnb79 := NB768_0.out
        have hnc79 := NB0_768.out
        have hcz80_0 : w15.cell? ⟨gb768, 0, none⟩ = some (.int .i64 x769000_1) := (blk_cell BK768.out 0).trans rfl
        have hcz80_1 : w15.cell? ⟨gb768, 1, none⟩ = some (u769001) := (blk_cell BK768.out 1).trans rfl
        have hcz80_2 : w15.cell? ⟨gb768, 2, none⟩ = some (u769002) := (blk_cell BK768.out 2).trans rfl
        have hfz80_0 := blk_frozen BK768.out 0
        have hfz80_1 := blk_frozen BK768.out 1
        have hfz80_2 := blk_frozen BK768.out 2
        have hnb81 := NB757_0.out
        have hnc81 := NB0_757.out
        have hcz82_0 : w15.cell? ⟨gb757, 0, none⟩ = some (.int .i64 0) := (blk_cell BK757.out 0).trans rfl
        have hcz82_1 : w15.cell? ⟨gb757, 1, none⟩ = some (.slice none 0 0) := (blk_cell BK757.out 1).trans rfl
        have hcz82_2 : w15.cell? ⟨gb757, 2, none⟩ = some (.slice none 0 0) := (blk_cell BK757.out 2).trans rfl
        have hfz82_0 := blk_frozen BK757.out 0
        have hfz82_1 := blk_frozen BK757.out 1
        have hfz82_2 := blk_frozen BK757.out 2
        obtain ⟨Ao83, co83, eo83⟩ := Kd.R_slice HO_769001.out
        subst eo83
        obtain ⟨Ao84, co84, eo84⟩ := Kd.R_slice HO_769002.out
        subst eo84
        go_wp2
        refine bodyPost_ret (results_cell_row rfl _ _ gb757 25 #[.int .i64 x769000_1, .slice Ao83 x769001_1.length co83, .slice Ao84 x769002_1.length co84] (0, 0) _ rfl (by (with_reducible repeat (first | refine blk_drewN ?_ _ | refine blk_drew ?_ | refine blk_alloc ?_ _ )); refine blk_put (cs := #[.int .i64 x769000_1, .slice Ao83 x769001_1.length co83, .slice none 0 0]) ?_ 2 _ rfl; (with_reducible repeat (first | refine blk_drewN ?_ _ | refine blk_drew ?_ | refine blk_alloc ?_ _ )); refine blk_put (cs := #[.int .i64 x769000_1, .slice none 0 0, .slice none 0 0]) ?_ 1 _ rfl; (with_reducible repeat (first | refine blk_drewN ?_ _ | refine blk_drew ?_ | refine blk_alloc ?_ _ )); refine blk_put (cs := #[.int .i64 0, .slice none 0 0, .slice none 0 0]) ?_ 0 _ rfl; (with_reducible repeat (first | refine blk_drewN ?_ _ | refine blk_drew ?_ | refine blk_alloc ?_ _ )); exact BK757.out) Try.underlying25 rfl (by kernel_rfl)) rfl ?_
        exact ⟨_, _, by rfl, by (with_reducible repeat (first | apply Kd.R_alloc | apply Kd.R_drewN | apply Kd.R_drew )); exact Kd.R_mono (Kd.R_far (p := ⟨gb757, 2, none⟩) (Kd.R_far (p := ⟨gb757, 1, none⟩) (Kd.R_far (p := ⟨gb757, 0, none⟩) (Kd.R_types HO_769001.out BK757.out (by decide)) (fun _ hk => hk.2) (.int .i64 x769000_1)) (fun _ hk => hk.2) (.slice Ao83 x769001_1.length co83)) (fun _ hk => hk.2) (.slice Ao84 x769002_1.length co84)) (fun _ hk => trivial), by (with_reducible repeat (first | apply Kd.R_alloc | apply Kd.R_drewN | apply Kd.R_drew )); exact Kd.R_mono (Kd.R_far (p := ⟨gb757, 2, none⟩) (Kd.R_far (p := ⟨gb757, 1, none⟩) (Kd.R_far (p := ⟨gb757, 0, none⟩) (Kd.R_types HO_769002.out BK757.out (by decide)) (fun _ hk => hk.2) (.int .i64 x769000_1)) (fun _ hk => hk.2) (.slice Ao83 x769001_1.length co83)) (fun _ hk => hk.2) (.slice Ao84 x769002_1.length co84)) (fun _ hk => trivial), by repeat ((with_reducible first | exact HI0.out | refine IsS73.far ?_ NB0_757.out _)), by repeat ((with_reducible first | exact HB.out | refine below_set ?_ GE757.out)), by repeat ((with_reducible first | exact HK.out | refine keep_far ?_ GW757.out _))⟩

/-! ### spec_l01New: function 59 -/
def spec_l01New.l0 : Nat → List Int → Int → Int → Option (List Int × Int × Int)
  | 0, _, _, _ => none
  | k + 1, x0, x3, x4 => if x4 < (x0.length : Int) then (if x4 < 4000 then (if 0 ≤ x4 then (spec_l01New.l0 k x0 (Go.bits .and .i64 (wrap64 ((wrap64 ((wrap64 (x3 * 131)) + (wrap64 (rd x0 x4)))) + 7)) 1073741823) (wrap64 (x4 + 1))) else (none)) else (some (x0, 0, x3))) else (some (x0, 0, x3))
def spec_l01New.f (k : Nat) (l0 : List Int) : Option (List Int × Int × Int) := spec_l01New.l0 k l0 (wrap64 (34901 + (l0.length : Int))) 0
theorem spec_l01New.mono_l : ∀ k, (∀ y0 y1 y2, LeO (spec_l01New.l0 k y0 y1 y2) (spec_l01New.l0 (k + 1) y0 y1 y2))
  | 0 => fun _ _ _ r h => by simp [spec_l01New.l0] at h
  | k + 1 => by
    have ih0 := spec_l01New.mono_l k
    · intro y0 y1 y2
      unfold spec_l01New.l0
      repeat' first | (with_reducible exact ih0 _ _ _) | (with_reducible exact LeO.refl _) | (with_reducible refine LeO.ite ?_ ?_)
theorem spec_l01New.mono : ∀ a0 k, LeO (spec_l01New.f k a0) (spec_l01New.f (k + 1) a0) := by
  intro a0 k
  have ih0 := spec_l01New.mono_l k
  unfold spec_l01New.f
  repeat' (with_reducible exact ih0 _ _ _)
set_option maxHeartbeats 8000000 in
set_option maxRecDepth 100000 in
theorem spec_l01New.calls (k : Nat) (A0 : Option Addr) (c0 : Nat) (l0 : List Int) (r1 : List Int) (r2 : Int) (r3 : Int) (w0 w : World) (hB : Below w0.heap.size w0 w) (hr0 : Kd.C (Kd.int .u8) w0 A0 l0.length l0) (hc0 : l0.length ≤ c0) (h : spec_l01New.f k l0 = some (r1, r2, r3)) :
    Calls Try.prog 59 #[.slice A0 l0.length c0] w fun e w' => ∃ g_ : Nat, e = .returned (.pointer (some ⟨g_, 0, none⟩)) ∧ IsS73 w0 w' g_ r1 r2 r3 ∧ Below w0.heap.size w0 w' ∧ Below w.heap.size w w' := by
  have hu73 := Try.underlying73
  have HR0 := Aside0.mk hr0
  have HC0 := Aside0.mk hc0
  clear hr0 hc0
  have HBW := Aside0.mk (Below.refl w.heap.size w)
  have HW0 := Aside0.mk hB.size
  have HB := Aside0.mk hB
  clear hB
  have H : (spec_l01New.l0 k l0 (wrap64 (34901 + (l0.length : Int))) 0) = some (r1, r2, r3) := h
  clear h
  have H' := Aside0.mk H
  clear H
  go_enter Try.func59, Try.ntmps59
  go_wp2
  go_loopg [3, 4] k (fun kq v3 v4 w' => ∃ (x3_1 : Int) (x4_1 : Int), v3 = .int .i64 x3_1 ∧ v4 = .int .i64 x4_1 ∧ Aside0 (spec_l01New.l0 kq l0 x3_1 x4_1 = some (r1, r2, r3)) ∧ Aside0 (kq ≤ k) ∧ Aside0 (Below w0.heap.size w0 w') ∧ Aside0 (Below w.heap.size w w'))
  case atStart => exact ⟨(wrap64 (34901 + (l0.length : Int))), (0), (by rfl), (by rfl), H', ⟨Nat.le_refl _⟩, ⟨by repeat ((with_reducible exact HB.out))⟩, ⟨by repeat ((with_reducible exact HBW.out))⟩⟩
  case round =>
    clear H'
    obtain ⟨x3_1, x4_1, rfl, rfl, HA, HK1, HB, HBW⟩ := hrel
    cases gk with
    | zero => exact absurd HA.out (by simp [spec_l01New.l0])
    | succ k1 =>
      have H := HA.out
      clear HA
      simp only [spec_l01New.l0] at H
      by_cases c2 : x4_1 < (l0.length : Int)
      · rw [if_pos c2] at H
        have c2b0 : decide (x4_1 < (l0.length : Int)) = true := decide_eq_true c2
        clear c2
        by_cases c3 : x4_1 < 4000
        · rw [if_pos c3] at H
          have c3b0 : decide (x4_1 < 4000) = true := decide_eq_true c3
          clear c3
          by_cases c4 : 0 ≤ x4_1
          · rw [if_pos c4] at H
            have c4b0 : decide (0 ≤ x4_1) = true := decide_eq_true c4
            clear c4
            have H' := Aside0.mk H
            clear H
            have p823 : 0 ≤ (x4_1 : Int) := of_decide_eq_true (by (with_reducible assumption))
            have q823 : x4_1 < (l0.length : Int) := of_decide_eq_true (by (with_reducible assumption))
            obtain ⟨ad823, e823, hx823_0⟩ := Kd.at_int HR0.out x4_1 p823 q823
            cases e823
            replace hx823_0 := pw_cell_below HB.out hx823_0
            replace p823 := eq_true p823
            replace q823 := eq_true q823
            go_wp2
            go_roundg k1
            case measure => have := HK1.out; omega
            case rel => exact ⟨(Go.bits .and .i64 (wrap64 ((wrap64 ((wrap64 (x3_1 * 131)) + (wrap64 (rd l0 x4_1)))) + 7)) 1073741823), (wrap64 (x4_1 + 1)), (by rfl), (by rfl), H', ⟨by have := HK1.out; omega⟩, ⟨by repeat ((with_reducible exact HB.out))⟩, ⟨by repeat ((with_reducible exact HBW.out))⟩⟩
          · rw [if_neg c4] at H
            exact absurd H (by simp)
        · rw [if_neg c3] at H
          have c3b0 : decide (x4_1 < 4000) = false := decide_eq_false c3
          clear c3
          simp only [Option.some.injEq, Prod.mk.injEq] at H
          obtain ⟨rfl, rfl, rfl⟩ := H
          go_wp2_with (((with_reducible refine gate_dst (N := 31) rfl ?_); refine box_event ?hg (N := 31) ?hd (cs := #[.slice A0 l0.length c0, .int .i64 0, .int .i64 x3_1]) (t := 73) ?hr ?_; (case hd => rfl); (case hg => rfl); (case hr => (go_simp; done)); intro gb824 hg w5 hbox hb; have n0_ := Aside0.mk (below_step HBW.out hb); have n1_ := Aside0.mk (below_step (by repeat ((with_reducible exact HB.out))) hb); have n2_ := Aside0.mk (hbox); have n3_ := Aside0.mk ((by rw [hg]; exact (below_size (by repeat ((with_reducible exact HBW.out)))) : w.heap.size ≤ gb824)); have n4_ := Aside0.mk ((Nat.le_trans HW0.out (by rw [hg]; exact (below_size (by repeat ((with_reducible exact HBW.out)))) : w.heap.size ≤ gb824) : w0.heap.size ≤ gb824)); clear HBW; clear HB; have HBW := n0_; have HB := n1_; have BK824 := n2_; have GW824 := n3_; have GE824 := n4_; clear n0_ n1_ n2_ n3_ n4_; clear hb hbox hg))
          go_ret
          exact ⟨_, rfl, (show IsS73 w0 _ gb824 l0 0 x3_1 from ⟨_, _, by (with_reducible repeat (first | refine blk_drewN ?_ _ | refine blk_drew ?_ | refine blk_alloc ?_ _ )); exact BK824.out, GE824.out, HR0.out⟩), by repeat ((with_reducible exact HB.out)), by repeat ((with_reducible exact HBW.out))⟩
      · rw [if_neg c2] at H
        have c2b0 : decide (x4_1 < (l0.length : Int)) = false := decide_eq_false c2
        clear c2
        simp only [Option.some.injEq, Prod.mk.injEq] at H
        obtain ⟨rfl, rfl, rfl⟩ := H
        go_wp2_with (((with_reducible refine gate_dst (N := 31) rfl ?_); refine box_event ?hg (N := 31) ?hd (cs := #[.slice A0 l0.length c0, .int .i64 0, .int .i64 x3_1]) (t := 73) ?hr ?_; (case hd => rfl); (case hg => rfl); (case hr => (go_simp; done)); intro gb825 hg w6 hbox hb; have n0_ := Aside0.mk (below_step HBW.out hb); have n1_ := Aside0.mk (below_step (by repeat ((with_reducible exact HB.out))) hb); have n2_ := Aside0.mk (hbox); have n3_ := Aside0.mk ((by rw [hg]; exact (below_size (by repeat ((with_reducible exact HBW.out)))) : w.heap.size ≤ gb825)); have n4_ := Aside0.mk ((Nat.le_trans HW0.out (by rw [hg]; exact (below_size (by repeat ((with_reducible exact HBW.out)))) : w.heap.size ≤ gb825) : w0.heap.size ≤ gb825)); clear HBW; clear HB; have HBW := n0_; have HB := n1_; have BK825 := n2_; have GW825 := n3_; have GE825 := n4_; clear n0_ n1_ n2_ n3_ n4_; clear hb hbox hg))
        go_ret
        exact ⟨_, rfl, (show IsS73 w0 _ gb825 l0 0 x3_1 from ⟨_, _, by (with_reducible repeat (first | refine blk_drewN ?_ _ | refine blk_drew ?_ | refine blk_alloc ?_ _ )); exact BK825.out, GE825.out, HR0.out⟩), by repeat ((with_reducible exact HB.out)), by repeat ((with_reducible exact HBW.out))⟩

/-! ### spec_DrawEpochs: function 36 -/
def spec_DrawEpochs.f (k : Nat) (l0 : List Int) : Option (Int × List Int × (List (S57))) := (spec_l01New.f k l0).bind fun bt827 => ((spec_l08Epochs.f k bt827.1 bt827.2.1 bt827.2.2).bind fun bt831 => (some (bt831.1, bt831.2.1, bt831.2.2.1)))
theorem spec_DrawEpochs.mono : ∀ a0 k, LeO (spec_DrawEpochs.f k a0) (spec_DrawEpochs.f (k + 1) a0) := by
  intro a0 k
  unfold spec_DrawEpochs.f
  repeat' first | (with_reducible exact spec_l01New.mono _ _) | (with_reducible exact spec_l08Epochs.mono _ _ _ _) | (with_reducible exact LeO.refl _) | (with_reducible refine LeO.bind ?_ (fun _ => ?_))
set_option maxHeartbeats 8000000 in
set_option maxRecDepth 100000 in
theorem spec_DrawEpochs.calls (k : Nat) (A0 : Option Addr) (c0 : Nat) (l0 : List Int) (r1 : Int) (r2 : List Int) (r3 : List (S57)) (w : World) (hr0 : Kd.C (Kd.int .u8) w A0 l0.length l0) (hc0 : l0.length ≤ c0) (h : spec_DrawEpochs.f k l0 = some (r1, r2, r3)) :
    Calls Try.prog 36 #[.slice A0 l0.length c0] w fun e w' => ∃ v1_ v2_ : Value, e = .returned (.agg #[.int .i64 r1, v1_, v2_]) ∧ Kd.R (Kd.int .i64) 3 w' w.heap.size (fun _ => True) v1_ r2 ∧ Kd.R k57 57 w' w.heap.size (fun _ => True) v2_ r3 ∧ Below w.heap.size w w' := by
  have hu25 := Try.underlying25
  have HR0 := Aside0.mk hr0
  have HC0 := Aside0.mk hc0
  clear hr0 hc0
  have HB := Aside0.mk (Below.refl w.heap.size w)
  have H : ((spec_l01New.f k l0).bind fun bt827 => ((spec_l08Epochs.f k bt827.1 bt827.2.1 bt827.2.2).bind fun bt831 => (some (bt831.1, bt831.2.1, bt831.2.2.1)))) = some (r1, r2, r3) := h
  clear h
  replace H := Option.bind_eq_some_iff.mp H
  obtain ⟨⟨t827, t828, t829⟩, A20, H⟩ := H
  replace H : ((spec_l08Epochs.f k t827 t828 t829).bind fun bt831 => (some (bt831.1, bt831.2.1, bt831.2.2.1))) = some (r1, r2, r3) := H
  have A2 := Aside0.mk A20
  clear A20
  replace H := Option.bind_eq_some_iff.mp H
  obtain ⟨⟨t831, t832, t835, t838, t839⟩, A30, H⟩ := H
  replace H : (some (t831, t832, t835)) = some (r1, r2, r3) := H
  have A3 := Aside0.mk A30
  clear A30
  simp only [Option.some.injEq, Prod.mk.injEq] at H
  obtain ⟨rfl, rfl, rfl⟩ := H
  go_enter Try.func36, Try.ntmps36
  go_wp2_with (first | ((with_reducible refine gate_dst (N := 2) rfl ?_); refine box_event ?hg (N := 2) ?hd (cs := #[.int .i64 0, .slice none 0 0, .slice none 0 0]) (t := 25) ?hr ?_; (case hd => rfl); (case hg => rfl); (case hr => (go_simp; done)); intro gb826 hg w4 hbox hb; have n0_ := Aside0.mk (below_step (by repeat ((with_reducible exact HB.out))) hb); have n1_ := Aside0.mk (hbox); have n2_ := Aside0.mk ((by rw [hg]; exact (below_size (by repeat ((with_reducible exact HB.out)))) : w.heap.size ≤ gb826)); have n3_ := Aside0.mk ((by rw [hg]; exact (below_size (by repeat ((with_reducible exact HB.out)))) : w.heap.size ≤ gb826)); clear HB; have HB := n0_; have BK826 := n1_; have GW826 := n2_; have GE826 := n3_; clear n0_ n1_ n2_ n3_; clear hb hbox hg) | ((with_reducible refine gate_callee (f := 59) rfl ?_); refine goesL_ (some 4) rfl rfl Try.func59 (by kernel_rfl) rfl #[.slice A0 l0.length c0] rfl (by (try simp only [List.map_toArray, List.map_cons, List.map_nil]); rfl) ?_; (with_reducible refine (spec_l01New.calls k _ _ l0 t827 t828 t829 w _ ?side1 ?side2 ?side3 A2.out).mono ?_); (case side1 => repeat ((with_reducible exact HB.out))); (case side2 => exact HR0.out); (case side3 => exact HC0.out); rintro e w5 ⟨g830, rfl, hi, hb, hb2⟩; refine ⟨_, rfl, ?_⟩; have n0_ := Aside0.mk (blk_below (g := gb826) (o := .cells #[.int .i64 0, .slice none 0 0, .slice none 0 0] 25 (0, 0)) (by (with_reducible repeat (first | refine blk_drewN ?_ _ | refine blk_drew ?_ | refine blk_alloc ?_ _ )); exact BK826.out) hb2); have n1_ := Aside0.mk (hb); have n2_ := Aside0.mk (hi); have n3_ := Aside0.mk (IsS73.ne_blk hi (blk_below (g := gb826) (o := .cells #[.int .i64 0, .slice none 0 0, .slice none 0 0] 25 (0, 0)) (by (with_reducible repeat (first | refine blk_drewN ?_ _ | refine blk_drew ?_ | refine blk_alloc ?_ _ )); exact BK826.out) hb2) (by decide)); have n4_ := Aside0.mk (Ne.symm (IsS73.ne_blk hi (blk_below (g := gb826) (o := .cells #[.int .i64 0, .slice none 0 0, .slice none 0 0] 25 (0, 0)) (by (with_reducible repeat (first | refine blk_drewN ?_ _ | refine blk_drew ?_ | refine blk_alloc ?_ _ )); exact BK826.out) hb2) (by decide))); clear BK826; clear HB; have BK826 := n0_; have HB := n1_; have HI830 := n2_; have NB830_826 := n3_; have NB826_830 := n4_; clear n0_ n1_ n2_ n3_ n4_; (try clear hb); (try clear hb2); (try clear hk); (try clear hi)) | ((with_reducible refine gate_callee (f := 58) rfl ?_); refine goesL_ (some 5) rfl rfl Try.func58 (by kernel_rfl) rfl #[.pointer (some ⟨g830, 0, none⟩)] rfl (by (try simp only [List.map_toArray, List.map_cons, List.map_nil]); rfl) ?_; (with_reducible refine (spec_l08Epochs.calls k g830 t827 t828 t829 t831 t832 t835 t838 t839 w _ ?side1 ?side2 A3.out).mono ?_); (case side1 => repeat ((with_reducible exact HI830.out))); (case side2 => repeat ((with_reducible exact HB.out))); rintro e w6 ⟨v833, v836, rfl, ho0, ho1, hi, hb, hk⟩; refine ⟨_, rfl, ?_⟩; have n0_ := Aside0.mk (KeepBut.blk hk (g' := gb826) (o := .cells #[.int .i64 0, .slice none 0 0, .slice none 0 0] 25 (0, 0)) (by (with_reducible repeat (first | refine blk_drewN ?_ _ | refine blk_drew ?_ | refine blk_alloc ?_ _ )); exact BK826.out) NB826_830.out (by simp)); have n1_ := Aside0.mk (Kd.R_lower ho0 (below_size (by repeat ((with_reducible exact HB.out))))); have n2_ := Aside0.mk (Kd.R_lower ho1 (below_size (by repeat ((with_reducible exact HB.out))))); have n3_ := Aside0.mk (hb); have n4_ := Aside0.mk (hi); clear BK826; clear HB; clear HI830; have BK826 := n0_; have HO834 := n1_; have HO837 := n2_; have HB := n3_; have HI830 := n4_; clear n0_ n1_ n2_ n3_ n4_; (try clear hb); (try clear hb2); (try clear hk); (try clear hi); (try clear ho0); (try clear ho1); have hnb7 := NB826_830.out; have hnc7 := NB830_826.out; have hcz8_0 : w6.cell? ⟨gb826, 0, none⟩ = some (.int .i64 0) := (blk_cell BK826.out 0).trans rfl; have hcz8_1 : w6.cell? ⟨gb826, 1, none⟩ = some (.slice none 0 0) := (blk_cell BK826.out 1).trans rfl; have hcz8_2 : w6.cell? ⟨gb826, 2, none⟩ = some (.slice none 0 0) := (blk_cell BK826.out 2).trans rfl; have hfz8_0 := blk_frozen BK826.out 0; have hfz8_1 := blk_frozen BK826.out 1; have hfz8_2 := blk_frozen BK826.out 2; obtain ⟨Ao9, co9, eo9⟩ := Kd.R_slice HO834.out; subst eo9; obtain ⟨Ao10, co10, eo10⟩ := Kd.R_slice HO837.out; subst eo10))
  refine bodyPost_ret (results_cell_row rfl _ _ gb826 25 #[.int .i64 t831, .slice Ao9 t832.length co9, .slice Ao10 t835.length co10] (0, 0) _ rfl (by (with_reducible repeat (first | refine blk_drewN ?_ _ | refine blk_drew ?_ | refine blk_alloc ?_ _ )); refine blk_put (cs := #[.int .i64 t831, .slice Ao9 t832.length co9, .slice none 0 0]) ?_ 2 _ rfl; (with_reducible repeat (first | refine blk_drewN ?_ _ | refine blk_drew ?_ | refine blk_alloc ?_ _ )); refine blk_put (cs := #[.int .i64 t831, .slice none 0 0, .slice none 0 0]) ?_ 1 _ rfl; (with_reducible repeat (first | refine blk_drewN ?_ _ | refine blk_drew ?_ | refine blk_alloc ?_ _ )); refine blk_put (cs := #[.int .i64 0, .slice none 0 0, .slice none 0 0]) ?_ 0 _ rfl; (with_reducible repeat (first | refine blk_drewN ?_ _ | refine blk_drew ?_ | refine blk_alloc ?_ _ )); exact BK826.out) Try.underlying25 rfl (by kernel_rfl)) rfl ?_
  exact ⟨_, _, by rfl, by (with_reducible repeat (first | apply Kd.R_alloc | apply Kd.R_drewN | apply Kd.R_drew )); exact Kd.R_mono (Kd.R_far (p := ⟨gb826, 2, none⟩) (Kd.R_far (p := ⟨gb826, 1, none⟩) (Kd.R_far (p := ⟨gb826, 0, none⟩) (Kd.R_types HO834.out BK826.out (by decide)) (fun _ hk => hk.2) (.int .i64 t831)) (fun _ hk => hk.2) (.slice Ao9 t832.length co9)) (fun _ hk => hk.2) (.slice Ao10 t835.length co10)) (fun _ hk => trivial), by (with_reducible repeat (first | apply Kd.R_alloc | apply Kd.R_drewN | apply Kd.R_drew )); exact Kd.R_mono (Kd.R_far (p := ⟨gb826, 2, none⟩) (Kd.R_far (p := ⟨gb826, 1, none⟩) (Kd.R_far (p := ⟨gb826, 0, none⟩) (Kd.R_types HO837.out BK826.out (by decide)) (fun _ hk => hk.2) (.int .i64 t831)) (fun _ hk => hk.2) (.slice Ao9 t832.length co9)) (fun _ hk => hk.2) (.slice Ao10 t835.length co10)) (fun _ hk => trivial), by repeat ((with_reducible first | exact HB.out | refine below_set ?_ GE826.out))⟩

/-! ### laws_FnAllFree: function 11 -/
mutual
def laws_FnAllFree.l0 : Nat → Int → Int → List Int → List (S57) → Option (Bool)
  | 0, _, _, _, _ => none
  | k + 1, x4, x894000, x894001, x894002 => if x4 < (x894001.length : Int) then ((impl_UnpinLook.f k x894000 x894001 x894002 x4).bind fun bt894 => (laws_FnAllFree.l0 k (wrap64 (x4 + 1)) bt894.1 bt894.2.1 bt894.2.2.1)) else (laws_FnAllFree.l1 k (x894002.length : Int) 0 x894000 x894001 x894002)
def laws_FnAllFree.l1 : Nat → Int → Int → Int → List Int → List (S57) → Option (Bool)
  | 0, _, _, _, _, _ => none
  | k + 1, x5, x6, x894000, x894001, x894002 => if x6 < 2 then ((impl_AdvanceEpoch.f k x894000 x894001 x894002).bind fun bt902 => (if bt902.2.2.2 = true then (laws_FnAllFree.l1 k x5 (wrap64 (x6 + 1)) bt902.1 bt902.2.1 bt902.2.2.1) else (none))) else ((impl_FreeNodes.f k x894000 x894001 x894002).bind fun bt911 => (if (bt911.2.2.2.length : Int) = x5 then (if (bt911.2.2.1.length : Int) = 0 then ((impl_EpochsOk.f k bt911.1 bt911.2.1 bt911.2.2.1).bind fun t922 => (some t922)) else (none)) else (none)))
end
def laws_FnAllFree.f (k : Nat) (l0 : List Int) : Option (Bool) := (laws_big.f l0).bind fun t885 => (if t885 = true then (some true) else ((spec_DrawEpochs.f k l0).bind fun bt886 => (laws_FnAllFree.l0 k 0 bt886.1 bt886.2.1 bt886.2.2)))
theorem laws_FnAllFree.mono_l : ∀ k, (∀ y0 y1 y2 y3, LeO (laws_FnAllFree.l0 k y0 y1 y2 y3) (laws_FnAllFree.l0 (k + 1) y0 y1 y2 y3)) ∧ (∀ y0 y1 y2 y3 y4, LeO (laws_FnAllFree.l1 k y0 y1 y2 y3 y4) (laws_FnAllFree.l1 (k + 1) y0 y1 y2 y3 y4))
  | 0 => ⟨fun _ _ _ _ r h => by simp [laws_FnAllFree.l0] at h, fun _ _ _ _ _ r h => by simp [laws_FnAllFree.l1] at h⟩
  | k + 1 => by
    obtain ⟨ih0, ih1⟩ := laws_FnAllFree.mono_l k
    refine ⟨?_, ?_⟩
    · intro y0 y1 y2 y3
      unfold laws_FnAllFree.l0
      repeat' first | (with_reducible exact ih0 _ _ _ _) | (with_reducible exact ih1 _ _ _ _ _) | (with_reducible exact impl_UnpinLook.mono _ _ _ _ _) | (with_reducible refine LeO.ite ?_ ?_) | (with_reducible refine LeO.bind ?_ (fun _ => ?_))
    · intro y0 y1 y2 y3 y4
      unfold laws_FnAllFree.l1
      repeat' first | (with_reducible exact ih1 _ _ _ _ _) | (with_reducible exact impl_AdvanceEpoch.mono _ _ _ _) | (with_reducible exact impl_EpochsOk.mono _ _ _ _) | (with_reducible exact impl_FreeNodes.mono _ _ _ _) | (with_reducible exact LeO.refl _) | (with_reducible refine LeO.ite ?_ ?_) | (with_reducible refine LeO.bind ?_ (fun _ => ?_))
theorem laws_FnAllFree.mono : ∀ a0 k, LeO (laws_FnAllFree.f k a0) (laws_FnAllFree.f (k + 1) a0) := by
  intro a0 k
  obtain ⟨ih0, ih1⟩ := laws_FnAllFree.mono_l k
  unfold laws_FnAllFree.f
  repeat' first | (with_reducible exact ih0 _ _ _ _) | (with_reducible exact spec_DrawEpochs.mono _ _) | (with_reducible exact LeO.refl _) | (with_reducible refine LeO.ite ?_ ?_) | (with_reducible refine LeO.bind ?_ (fun _ => ?_))
set_option maxHeartbeats 8000000 in
set_option maxRecDepth 100000 in
theorem laws_FnAllFree.calls (k : Nat) (A0 : Option Addr) (c0 : Nat) (l0 : List Int) (r : Bool) (w : World) (hr0 : Kd.C (Kd.int .u8) w A0 l0.length l0) (hc0 : l0.length ≤ c0) (h : laws_FnAllFree.f k l0 = some r) :
    Calls Try.prog 11 #[.slice A0 l0.length c0] w fun e w' => e = .returned (.bool r) ∧ Below w.heap.size w w' := by
  have hu25 := Try.underlying25
  have HR0 := Aside0.mk hr0
  have HC0 := Aside0.mk hc0
  clear hr0 hc0
  have HB := Aside0.mk (Below.refl w.heap.size w)
  have H : ((laws_big.f l0).bind fun t885 => (if t885 = true then (some true) else ((spec_DrawEpochs.f k l0).bind fun bt886 => (laws_FnAllFree.l0 k 0 bt886.1 bt886.2.1 bt886.2.2)))) = some r := h
  clear h
  replace H := Option.bind_eq_some_iff.mp H
  obtain ⟨t885, A20, H⟩ := H
  replace H : (if t885 = true then (some true) else ((spec_DrawEpochs.f k l0).bind fun bt886 => (laws_FnAllFree.l0 k 0 bt886.1 bt886.2.1 bt886.2.2))) = some r := H
  have A2 := Aside0.mk A20
  clear A20
  have HS3 := Aside0.mk H
  clear H
  go_enter Try.func11, Try.ntmps11
  go_upto_if 12 with (((with_reducible refine gate_callee (f := 35) rfl ?_); refine goesL_ (some 12) rfl rfl Try.func35 (by kernel_rfl) rfl #[.slice A0 l0.length c0] rfl (by (try simp only [List.map_toArray, List.map_cons, List.map_nil]); rfl) ?_; (with_reducible refine (laws_big.calls _ _ l0 t885 _ ?side1 ?side2 A2.out).mono ?_); (case side1 => repeat (exact HR0.out)); (case side2 => exact HC0.out); rintro e w' ⟨rfl, rfl⟩; refine ⟨_, rfl, ?_⟩))
  (try simp only [Act.put, List.setIfInBounds_toArray, List.set_cons_zero, List.set_cons_succ])
  have H := HS3.out
  clear HS3
  by_cases c4 : t885 = true
  · subst c4
    have H1 : (some true) = some r := by rw [if_pos rfl] at H; exact H
    clear H
    have H := H1
    clear H1
    obtain rfl := Option.some.inj H
    go_wp2
    go_ret
    exact ⟨by rfl, by repeat ((with_reducible exact HB.out))⟩
  · replace c4 := Bool.eq_false_iff.mpr c4
    subst c4
    have H1 : ((spec_DrawEpochs.f k l0).bind fun bt886 => (laws_FnAllFree.l0 k 0 bt886.1 bt886.2.1 bt886.2.2)) = some r := by rw [if_neg (show ¬ (false = true) by decide)] at H; exact H
    clear H
    have H := H1
    clear H1
    replace H := Option.bind_eq_some_iff.mp H
    obtain ⟨⟨t886, t887, t890⟩, A50, H⟩ := H
    replace H : (laws_FnAllFree.l0 k 0 t886 t887 t890) = some r := H
    have A5 := Aside0.mk A50
    clear A50
    have H' := Aside0.mk H
    clear H
    go_wp2_with (first | ((with_reducible refine gate_callee (f := 36) rfl ?_); refine goesL_ (some 14) rfl rfl Try.func36 (by kernel_rfl) rfl #[.slice A0 l0.length c0] rfl (by (try simp only [List.map_toArray, List.map_cons, List.map_nil]); rfl) ?_; (with_reducible refine (spec_DrawEpochs.calls k _ _ l0 t886 t887 t890 _ ?side1 ?side2 A5.out).mono ?_); (case side1 => repeat (exact (Kd.C_below HR0.out HB.out))); (case side2 => exact HC0.out); rintro e w6 ⟨v888, v891, rfl, ho0, ho1, hb⟩; refine ⟨_, rfl, ?_⟩; have n0_ := Aside0.mk (Kd.R_lower ho0 (below_size (by repeat ((with_reducible exact HB.out))))); have n1_ := Aside0.mk (Kd.R_lower ho1 (below_size (by repeat ((with_reducible exact HB.out))))); have n2_ := Aside0.mk (below_step (by repeat ((with_reducible exact HB.out))) hb); clear HB; have HO889 := n0_; have HO892 := n1_; have HB := n2_; clear n0_ n1_ n2_; (try clear hb); (try clear hb2); (try clear hk); (try clear hi); (try clear ho0); (try clear ho1)) | ((with_reducible refine gate_dst (N := 3) rfl ?_); (try (refine gate_guard (by rfl) ?_; dsimp only)); refine box_event ?hg (N := 3) ?hd (cs := #[.int .i64 0, .slice none 0 0, .slice none 0 0]) (t := 25) ?hr ?_; (case hd => rfl); (case hg => rfl); (case hr => (go_simp; done)); intro gb893 hg w7 hbox hb; have n0_ := Aside0.mk (Kd.R_below (by (with_reducible repeat (first | apply Kd.R_alloc | apply Kd.R_drewN | apply Kd.R_drew )); exact HO889.out) hb); have n1_ := Aside0.mk (Kd.R_below (by (with_reducible repeat (first | apply Kd.R_alloc | apply Kd.R_drewN | apply Kd.R_drew )); exact HO892.out) hb); have n2_ := Aside0.mk (below_step (by repeat ((with_reducible exact HB.out))) hb); have n3_ := Aside0.mk (hbox); have n4_ := Aside0.mk ((by rw [hg]; exact (below_size (by repeat ((with_reducible exact HB.out)))) : w.heap.size ≤ gb893)); have n5_ := Aside0.mk ((by rw [hg]; exact (below_size (by repeat ((with_reducible exact HB.out)))) : w.heap.size ≤ gb893)); clear HO889; clear HO892; clear HB; have HO889 := n0_; have HO892 := n1_; have HB := n2_; have BK893 := n3_; have GW893 := n4_; have GE893 := n5_; clear n0_ n1_ n2_ n3_ n4_ n5_; clear hb hbox hg; have hcz8_0 : w7.cell? ⟨gb893, 0, none⟩ = some (.int .i64 0) := (blk_cell BK893.out 0).trans rfl; have hcz8_1 : w7.cell? ⟨gb893, 1, none⟩ = some (.slice none 0 0) := (blk_cell BK893.out 1).trans rfl; have hcz8_2 : w7.cell? ⟨gb893, 2, none⟩ = some (.slice none 0 0) := (blk_cell BK893.out 2).trans rfl; have hfz8_0 := blk_frozen BK893.out 0; have hfz8_1 := blk_frozen BK893.out 1; have hfz8_2 := blk_frozen BK893.out 2; obtain ⟨Ao9, co9, eo9⟩ := Kd.R_slice HO889.out; subst eo9; obtain ⟨Ao10, co10, eo10⟩ := Kd.R_slice HO892.out; subst eo10))
    go_loopg [4] k (fun kq v4 w' => ∃ (x4_1 : Int) (x894000_1 : Int) (x894001_1 : List Int) (x894002_1 : List (S57)) (u894001 : Value) (u894002 : Value), v4 = .int .i64 x4_1 ∧ Aside0 (laws_FnAllFree.l0 kq x4_1 x894000_1 x894001_1 x894002_1 = some r) ∧ Aside0 (kq ≤ k) ∧ Aside0 (Kd.R (Kd.int .i64) 3 w' w.heap.size (fun _ => True) u894001 x894001_1) ∧ Aside0 (Kd.R k57 57 w' w.heap.size (fun _ => True) u894002 x894002_1) ∧ Aside0 (w'.heap[gb893]? = some (.cells #[.int .i64 x894000_1, u894001, u894002] 25 (0, 0))) ∧ Aside0 (Below w.heap.size w w'))
    case atStart => exact ⟨(0), (t886), (t887), (t890), (.slice Ao9 t887.length co9), (.slice Ao10 t890.length co10), (by rfl), H', ⟨Nat.le_refl _⟩, ⟨by (with_reducible repeat (first | apply Kd.R_alloc | apply Kd.R_drewN | apply Kd.R_drew )); exact Kd.R_mono (Kd.R_far (p := ⟨gb893, 2, none⟩) (Kd.R_far (p := ⟨gb893, 1, none⟩) (Kd.R_far (p := ⟨gb893, 0, none⟩) (Kd.R_types HO889.out BK893.out (by decide)) (fun _ hk => hk.2) (.int .i64 t886)) (fun _ hk => hk.2) (.slice Ao9 t887.length co9)) (fun _ hk => hk.2) (.slice Ao10 t890.length co10)) (fun _ hk => trivial)⟩, ⟨by (with_reducible repeat (first | apply Kd.R_alloc | apply Kd.R_drewN | apply Kd.R_drew )); exact Kd.R_mono (Kd.R_far (p := ⟨gb893, 2, none⟩) (Kd.R_far (p := ⟨gb893, 1, none⟩) (Kd.R_far (p := ⟨gb893, 0, none⟩) (Kd.R_types HO892.out BK893.out (by decide)) (fun _ hk => hk.2) (.int .i64 t886)) (fun _ hk => hk.2) (.slice Ao9 t887.length co9)) (fun _ hk => hk.2) (.slice Ao10 t890.length co10)) (fun _ hk => trivial)⟩, ⟨by (with_reducible repeat (first | refine blk_drewN ?_ _ | refine blk_drew ?_ | refine blk_alloc ?_ _ )); refine blk_put (cs := #[.int .i64 t886, .slice Ao9 t887.length co9, .slice none 0 0]) ?_ 2 _ rfl; (with_reducible repeat (first | refine blk_drewN ?_ _ | refine blk_drew ?_ | refine blk_alloc ?_ _ )); refine blk_put (cs := #[.int .i64 t886, .slice none 0 0, .slice none 0 0]) ?_ 1 _ rfl; (with_reducible repeat (first | refine blk_drewN ?_ _ | refine blk_drew ?_ | refine blk_alloc ?_ _ )); refine blk_put (cs := #[.int .i64 0, .slice none 0 0, .slice none 0 0]) ?_ 0 _ rfl; (with_reducible repeat (first | refine blk_drewN ?_ _ | refine blk_drew ?_ | refine blk_alloc ?_ _ )); exact BK893.out⟩, ⟨by repeat ((with_reducible first | exact HB.out | refine below_set ?_ GE893.out))⟩⟩
    case round =>
      clear H'
      clear hcz8_0
      clear hcz8_1
      clear hcz8_2
      clear hfz8_0
      clear hfz8_1
      clear hfz8_2
      obtain ⟨x4_1, x894000_1, x894001_1, x894002_1, u894001, u894002, rfl, HA, HK1, HO_894001, HO_894002, BK893, HB⟩ := hrel
      cases gk with
      | zero => exact absurd HA.out (by simp [laws_FnAllFree.l0])
      | succ k1 =>
        have H := HA.out
        clear HA
        simp only [laws_FnAllFree.l0] at H
        by_cases c11 : x4_1 < (x894001_1.length : Int)
        · rw [if_pos c11] at H
          have c11b0 : decide (x4_1 < (x894001_1.length : Int)) = true := decide_eq_true c11
          clear c11
          (skip)
          replace H := Option.bind_eq_some_iff.mp H
          obtain ⟨⟨t894, t895, t898, t901⟩, A120, H⟩ := H
          replace H : (laws_FnAllFree.l0 k1 (wrap64 (x4_1 + 1)) t894 t895 t898) = some r := H
          have A12 := Aside0.mk A120
          clear A120
          have H' := Aside0.mk H
          clear H
          have hcz13_0 : wr.cell? ⟨gb893, 0, none⟩ = some (.int .i64 x894000_1) := (blk_cell BK893.out 0).trans rfl
          have hcz13_1 : wr.cell? ⟨gb893, 1, none⟩ = some (u894001) := (blk_cell BK893.out 1).trans rfl
          have hcz13_2 : wr.cell? ⟨gb893, 2, none⟩ = some (u894002) := (blk_cell BK893.out 2).trans rfl
          have hfz13_0 := blk_frozen BK893.out 0
          have hfz13_1 := blk_frozen BK893.out 1
          have hfz13_2 := blk_frozen BK893.out 2
          obtain ⟨Ao14, co14, eo14⟩ := Kd.R_slice HO_894001.out
          subst eo14
          obtain ⟨Ao15, co15, eo15⟩ := Kd.R_slice HO_894002.out
          subst eo15
          go_wp2_with (((with_reducible refine gate_callee (f := 25) rfl ?_); refine goesL_ (some 25) rfl rfl Try.func25 (by kernel_rfl) rfl #[.agg #[.int .i64 x894000_1, .slice Ao14 x894001_1.length co14, .slice Ao15 x894002_1.length co15], .int .i64 x4_1] rfl (by (try simp only [List.map_toArray, List.map_cons, List.map_nil]); rfl) ?_; (with_reducible refine (impl_UnpinLook.calls k1 x894000_1 _ _ x894001_1 _ _ x894002_1 x4_1 t894 t895 t898 t901 _ ?side1 ?side2 ?side3 ?side4 A12.out).mono ?_); (case side1 => repeat (exact (Kd.R_reads' HO_894001.out).2.2)); (case side2 => exact (Kd.R_reads' HO_894001.out).2.1); (case side3 => repeat (exact (Kd.R_reads' HO_894002.out).2.2)); (case side4 => exact (Kd.R_reads' HO_894002.out).2.1); rintro e w16 ⟨v896, v899, rfl, ho0, ho1, hb⟩; refine ⟨_, rfl, ?_⟩; have n0_ := Aside0.mk (Kd.R_elder' (by (with_reducible repeat (first | apply Kd.R_alloc | apply Kd.R_drewN | apply Kd.R_drew )); exact HO_894001.out) (Kd.R_base ho0) hb); have n1_ := Aside0.mk (Kd.R_elder' (by (with_reducible repeat (first | apply Kd.R_alloc | apply Kd.R_drewN | apply Kd.R_drew )); exact HO_894002.out) (Kd.R_base ho1) hb); have n2_ := Aside0.mk (Kd.R_lower (Kd.R_new' ho0 (Kd.R_lt (by (with_reducible repeat (first | apply Kd.R_alloc | apply Kd.R_drewN | apply Kd.R_drew )); exact HO_894001.out))) (below_size (by repeat ((with_reducible exact HB.out))))); have n3_ := Aside0.mk (Kd.R_lower (Kd.R_new' ho1 (Kd.R_lt (by (with_reducible repeat (first | apply Kd.R_alloc | apply Kd.R_drewN | apply Kd.R_drew )); exact HO_894002.out))) (below_size (by repeat ((with_reducible exact HB.out))))); have n4_ := Aside0.mk (blk_below (g := gb893) (o := .cells #[.int .i64 x894000_1, .slice Ao14 x894001_1.length co14, .slice Ao15 x894002_1.length co15] 25 (0, 0)) (by (with_reducible repeat (first | refine blk_drewN ?_ _ | refine blk_drew ?_ | refine blk_alloc ?_ _ )); exact BK893.out) hb); have n5_ := Aside0.mk (below_step (by repeat ((with_reducible exact HB.out))) hb); clear HO_894001; clear HO_894002; clear BK893; clear HB; have HO_894001 := n0_; have HO_894002 := n1_; have HO897 := n2_; have HO900 := n3_; have BK893 := n4_; have HB := n5_; clear n0_ n1_ n2_ n3_ n4_ n5_; (try clear hb); (try clear hb2); (try clear hk); (try clear hi); (try clear ho0); (try clear ho1); have hcz17_0 : w16.cell? ⟨gb893, 0, none⟩ = some (.int .i64 x894000_1) := (blk_cell BK893.out 0).trans rfl; have hcz17_1 : w16.cell? ⟨gb893, 1, none⟩ = some (.slice Ao14 x894001_1.length co14) := (blk_cell BK893.out 1).trans rfl; have hcz17_2 : w16.cell? ⟨gb893, 2, none⟩ = some (.slice Ao15 x894002_1.length co15) := (blk_cell BK893.out 2).trans rfl; have hfz17_0 := blk_frozen BK893.out 0; have hfz17_1 := blk_frozen BK893.out 1; have hfz17_2 := blk_frozen BK893.out 2; obtain ⟨Ao18, co18, eo18⟩ := Kd.R_slice HO897.out; subst eo18; obtain ⟨Ao19, co19, eo19⟩ := Kd.R_slice HO900.out; subst eo19))
          go_roundg k1
          case measure => have := HK1.out; omega
          case rel => exact ⟨(wrap64 (x4_1 + 1)), (t894), (t895), (t898), (.slice Ao18 t895.length co18), (.slice Ao19 t898.length co19), (by rfl), H', ⟨by have := HK1.out; omega⟩, ⟨by (with_reducible repeat (first | apply Kd.R_alloc | apply Kd.R_drewN | apply Kd.R_drew )); exact Kd.R_mono (Kd.R_far (p := ⟨gb893, 2, none⟩) (Kd.R_far (p := ⟨gb893, 1, none⟩) (Kd.R_far (p := ⟨gb893, 0, none⟩) (Kd.R_types HO897.out BK893.out (by decide)) (fun _ hk => hk.2) (.int .i64 t894)) (fun _ hk => hk.2) (.slice Ao18 t895.length co18)) (fun _ hk => hk.2) (.slice Ao19 t898.length co19)) (fun _ hk => trivial)⟩, ⟨by (with_reducible repeat (first | apply Kd.R_alloc | apply Kd.R_drewN | apply Kd.R_drew )); exact Kd.R_mono (Kd.R_far (p := ⟨gb893, 2, none⟩) (Kd.R_far (p := ⟨gb893, 1, none⟩) (Kd.R_far (p := ⟨gb893, 0, none⟩) (Kd.R_types HO900.out BK893.out (by decide)) (fun _ hk => hk.2) (.int .i64 t894)) (fun _ hk => hk.2) (.slice Ao18 t895.length co18)) (fun _ hk => hk.2) (.slice Ao19 t898.length co19)) (fun _ hk => trivial)⟩, ⟨by (with_reducible repeat (first | refine blk_drewN ?_ _ | refine blk_drew ?_ | refine blk_alloc ?_ _ )); refine blk_put (cs := #[.int .i64 t894, .slice Ao18 t895.length co18, .slice Ao15 x894002_1.length co15]) ?_ 2 _ rfl; (with_reducible repeat (first | refine blk_drewN ?_ _ | refine blk_drew ?_ | refine blk_alloc ?_ _ )); refine blk_put (cs := #[.int .i64 t894, .slice Ao14 x894001_1.length co14, .slice Ao15 x894002_1.length co15]) ?_ 1 _ rfl; (with_reducible repeat (first | refine blk_drewN ?_ _ | refine blk_drew ?_ | refine blk_alloc ?_ _ )); refine blk_put (cs := #[.int .i64 x894000_1, .slice Ao14 x894001_1.length co14, .slice Ao15 x894002_1.length co15]) ?_ 0 _ rfl; (with_reducible repeat (first | refine blk_drewN ?_ _ | refine blk_drew ?_ | refine blk_alloc ?_ _ )); exact BK893.out⟩, ⟨by repeat ((with_reducible first | exact HB.out | refine below_set ?_ GE893.out))⟩⟩
        · rw [if_neg c11] at H
          have c11b0 : decide (x4_1 < (x894001_1.length : Int)) = false := decide_eq_false c11
          clear c11
          (skip)
          have H' := Aside0.mk H
          clear H
          have hcz20_0 : wr.cell? ⟨gb893, 0, none⟩ = some (.int .i64 x894000_1) := (blk_cell BK893.out 0).trans rfl
          have hcz20_1 : wr.cell? ⟨gb893, 1, none⟩ = some (u894001) := (blk_cell BK893.out 1).trans rfl
          have hcz20_2 : wr.cell? ⟨gb893, 2, none⟩ = some (u894002) := (blk_cell BK893.out 2).trans rfl
          have hfz20_0 := blk_frozen BK893.out 0
          have hfz20_1 := blk_frozen BK893.out 1
          have hfz20_2 := blk_frozen BK893.out 2
          obtain ⟨Ao21, co21, eo21⟩ := Kd.R_slice HO_894001.out
          subst eo21
          obtain ⟨Ao22, co22, eo22⟩ := Kd.R_slice HO_894002.out
          subst eo22
          go_wp2
          go_loopg [6] k1 (fun kq v6 w' => ∃ (x6_2 : Int) (x894000_2 : Int) (x894001_2 : List Int) (x894002_2 : List (S57)) (u894001 : Value) (u894002 : Value), v6 = .int .i64 x6_2 ∧ Aside0 (laws_FnAllFree.l1 kq (x894002_1.length : Int) x6_2 x894000_2 x894001_2 x894002_2 = some r) ∧ Aside0 (kq ≤ k1) ∧ Aside0 (Kd.R (Kd.int .i64) 3 w' w.heap.size (fun _ => True) u894001 x894001_2) ∧ Aside0 (Kd.R k57 57 w' w.heap.size (fun _ => True) u894002 x894002_2) ∧ Aside0 (w'.heap[gb893]? = some (.cells #[.int .i64 x894000_2, u894001, u894002] 25 (0, 0))) ∧ Aside0 (Below w.heap.size w w'))
          case atStart => exact ⟨(0), (x894000_1), (x894001_1), (x894002_1), (.slice Ao21 x894001_1.length co21), (.slice Ao22 x894002_1.length co22), (by rfl), H', ⟨Nat.le_refl _⟩, ⟨by (with_reducible repeat (first | apply Kd.R_alloc | apply Kd.R_drewN | apply Kd.R_drew )); exact HO_894001.out⟩, ⟨by (with_reducible repeat (first | apply Kd.R_alloc | apply Kd.R_drewN | apply Kd.R_drew )); exact HO_894002.out⟩, ⟨by (with_reducible repeat (first | refine blk_drewN ?_ _ | refine blk_drew ?_ | refine blk_alloc ?_ _ )); exact BK893.out⟩, ⟨by repeat ((with_reducible exact HB.out))⟩⟩
          case round =>
            clear H'
            clear c11b0
            clear hcz20_0
            clear hcz20_1
            clear hcz20_2
            clear hfz20_0
            clear hfz20_1
            clear hfz20_2
            obtain ⟨x6_2, x894000_2, x894001_2, x894002_2, u894001, u894002, rfl, HA, HK2, HO_894001, HO_894002, BK893, HB⟩ := hrel
            cases gk with
            | zero => exact absurd HA.out (by simp [laws_FnAllFree.l1])
            | succ k2 =>
              have H := HA.out
              clear HA
              simp only [laws_FnAllFree.l1] at H
              by_cases c23 : x6_2 < 2
              · rw [if_pos c23] at H
                have c23b0 : decide (x6_2 < 2) = true := decide_eq_true c23
                clear c23
                replace H := Option.bind_eq_some_iff.mp H
                obtain ⟨⟨t902, t903, t906, t909⟩, A240, H⟩ := H
                replace H : (if t909 = true then (laws_FnAllFree.l1 k2 (x894002_1.length : Int) (wrap64 (x6_2 + 1)) t902 t903 t906) else (none)) = some r := H
                have A24 := Aside0.mk A240
                clear A240
                by_cases c25 : t909 = true
                · subst c25
                  have H1 : (laws_FnAllFree.l1 k2 (x894002_1.length : Int) (wrap64 (x6_2 + 1)) t902 t903 t906) = some r := by rw [if_pos rfl] at H; exact H
                  clear H
                  have H := H1
                  clear H1
                  have H' := Aside0.mk H
                  clear H
                  have hcz26_0 : wr.cell? ⟨gb893, 0, none⟩ = some (.int .i64 x894000_2) := (blk_cell BK893.out 0).trans rfl
                  have hcz26_1 : wr.cell? ⟨gb893, 1, none⟩ = some (u894001) := (blk_cell BK893.out 1).trans rfl
                  have hcz26_2 : wr.cell? ⟨gb893, 2, none⟩ = some (u894002) := (blk_cell BK893.out 2).trans rfl
                  have hfz26_0 := blk_frozen BK893.out 0
                  have hfz26_1 := blk_frozen BK893.out 1
                  have hfz26_2 := blk_frozen BK893.out 2
                  obtain ⟨Ao27, co27, eo27⟩ := Kd.R_slice HO_894001.out
                  subst eo27
                  obtain ⟨Ao28, co28, eo28⟩ := Kd.R_slice HO_894002.out
                  subst eo28
                  go_wp2_with (first | ((with_reducible refine gate_callee (f := 32) rfl ?_); refine goesL_ (some 37) rfl rfl Try.func32 (by kernel_rfl) rfl #[.agg #[.int .i64 x894000_2, .slice Ao27 x894001_2.length co27, .slice Ao28 x894002_2.length co28]] rfl (by (try simp only [List.map_toArray, List.map_cons, List.map_nil]); rfl) ?_; (with_reducible refine (impl_AdvanceEpoch.calls k2 x894000_2 _ _ x894001_2 _ _ x894002_2 t902 t903 t906 true _ ?side1 ?side2 ?side3 ?side4 A24.out).mono ?_); (case side1 => repeat (exact (Kd.R_reads' HO_894001.out).2.2)); (case side2 => exact (Kd.R_reads' HO_894001.out).2.1); (case side3 => repeat (exact (Kd.R_reads' HO_894002.out).2.2)); (case side4 => exact (Kd.R_reads' HO_894002.out).2.1); rintro e w29 ⟨v904, v907, rfl, ho0, ho1, hb⟩; refine ⟨_, rfl, ?_⟩; have n0_ := Aside0.mk (Kd.R_elder' (by (with_reducible repeat (first | apply Kd.R_alloc | apply Kd.R_drewN | apply Kd.R_drew )); exact HO_894001.out) (Kd.R_base ho0) hb); have n1_ := Aside0.mk (Kd.R_elder' (by (with_reducible repeat (first | apply Kd.R_alloc | apply Kd.R_drewN | apply Kd.R_drew )); exact HO_894002.out) (Kd.R_base ho1) hb); have n2_ := Aside0.mk (Kd.R_lower (Kd.R_new' ho0 (Kd.R_lt (by (with_reducible repeat (first | apply Kd.R_alloc | apply Kd.R_drewN | apply Kd.R_drew )); exact HO_894001.out))) (below_size (by repeat ((with_reducible exact HB.out))))); have n3_ := Aside0.mk (Kd.R_lower (Kd.R_new' ho1 (Kd.R_lt (by (with_reducible repeat (first | apply Kd.R_alloc | apply Kd.R_drewN | apply Kd.R_drew )); exact HO_894002.out))) (below_size (by repeat ((with_reducible exact HB.out))))); have n4_ := Aside0.mk (blk_below (g := gb893) (o := .cells #[.int .i64 x894000_2, .slice Ao27 x894001_2.length co27, .slice Ao28 x894002_2.length co28] 25 (0, 0)) (by (with_reducible repeat (first | refine blk_drewN ?_ _ | refine blk_drew ?_ | refine blk_alloc ?_ _ )); exact BK893.out) hb); have n5_ := Aside0.mk (below_step (by repeat ((with_reducible exact HB.out))) hb); clear HO_894001; clear HO_894002; clear BK893; clear HB; have HO_894001 := n0_; have HO_894002 := n1_; have HO905 := n2_; have HO908 := n3_; have BK893 := n4_; have HB := n5_; clear n0_ n1_ n2_ n3_ n4_ n5_; (try clear hb); (try clear hb2); (try clear hk); (try clear hi); (try clear ho0); (try clear ho1)) | ((with_reducible refine gate_dst (N := 7) rfl ?_); (try (refine gate_guard (by rfl) ?_; dsimp only)); refine box_event ?hg (N := 7) ?hd (cs := #[.int .i64 0, .slice none 0 0, .slice none 0 0]) (t := 25) ?hr ?_; (case hd => rfl); (case hg => rfl); (case hr => (go_simp; done)); intro gb910 hg w30 hbox hb; have n0_ := Aside0.mk (Kd.R_below (by (with_reducible repeat (first | apply Kd.R_alloc | apply Kd.R_drewN | apply Kd.R_drew )); exact HO_894001.out) hb); have n1_ := Aside0.mk (Kd.R_below (by (with_reducible repeat (first | apply Kd.R_alloc | apply Kd.R_drewN | apply Kd.R_drew )); exact HO_894002.out) hb); have n2_ := Aside0.mk (Kd.R_below (by (with_reducible repeat (first | apply Kd.R_alloc | apply Kd.R_drewN | apply Kd.R_drew )); exact HO905.out) hb); have n3_ := Aside0.mk (Kd.R_below (by (with_reducible repeat (first | apply Kd.R_alloc | apply Kd.R_drewN | apply Kd.R_drew )); exact HO908.out) hb); have n4_ := Aside0.mk (blk_below (g := gb893) (o := .cells #[.int .i64 x894000_2, .slice Ao27 x894001_2.length co27, .slice Ao28 x894002_2.length co28] 25 (0, 0)) (by (with_reducible repeat (first | refine blk_drewN ?_ _ | refine blk_drew ?_ | refine blk_alloc ?_ _ )); exact BK893.out) hb); have n5_ := Aside0.mk (below_step (by repeat ((with_reducible exact HB.out))) hb); have n6_ := Aside0.mk (hbox); have n7_ := Aside0.mk ((by rw [hg]; exact (below_size (by repeat ((with_reducible exact HB.out)))) : w.heap.size ≤ gb910)); have n8_ := Aside0.mk ((by rw [hg]; exact (below_size (by repeat ((with_reducible exact HB.out)))) : w.heap.size ≤ gb910)); have n9_ := Aside0.mk ((by rw [hg]; exact Nat.ne_of_lt (blk_lt (g := gb893) (o := .cells #[.int .i64 x894000_2, .slice Ao27 x894001_2.length co27, .slice Ao28 x894002_2.length co28] 25 (0, 0)) (by (with_reducible repeat (first | refine blk_drewN ?_ _ | refine blk_drew ?_ | refine blk_alloc ?_ _ )); exact BK893.out)) : gb893 ≠ gb910)); have n10_ := Aside0.mk ((by rw [hg]; exact Nat.ne_of_gt (blk_lt (g := gb893) (o := .cells #[.int .i64 x894000_2, .slice Ao27 x894001_2.length co27, .slice Ao28 x894002_2.length co28] 25 (0, 0)) (by (with_reducible repeat (first | refine blk_drewN ?_ _ | refine blk_drew ?_ | refine blk_alloc ?_ _ )); exact BK893.out)) : gb910 ≠ gb893)); clear HO_894001; clear HO_894002; clear HO905; clear HO908; clear BK893; clear HB; have HO_894001 := n0_; have HO_894002 := n1_; have HO905 := n2_; have HO908 := n3_; have BK893 := n4_; have HB := n5_; have BK910 := n6_; have GW910 := n7_; have GE910 := n8_; have NB893_910 := n9_; have NB910_893 := n10_; clear n0_ n1_ n2_ n3_ n4_ n5_ n6_ n7_ n8_ n9_ n10_; clear hb hbox hg; have hnb31 := NB910_893.out; have hnc31 := NB893_910.out; have hcz32_0 : w30.cell? ⟨gb910, 0, none⟩ = some (.int .i64 0) := (blk_cell BK910.out 0).trans rfl; have hcz32_1 : w30.cell? ⟨gb910, 1, none⟩ = some (.slice none 0 0) := (blk_cell BK910.out 1).trans rfl; have hcz32_2 : w30.cell? ⟨gb910, 2, none⟩ = some (.slice none 0 0) := (blk_cell BK910.out 2).trans rfl; have hfz32_0 := blk_frozen BK910.out 0; have hfz32_1 := blk_frozen BK910.out 1; have hfz32_2 := blk_frozen BK910.out 2; obtain ⟨Ao33, co33, eo33⟩ := Kd.R_slice HO905.out; subst eo33; obtain ⟨Ao34, co34, eo34⟩ := Kd.R_slice HO908.out; subst eo34; have hcz35_0 : w30.cell? ⟨gb893, 0, none⟩ = some (.int .i64 x894000_2) := (blk_cell BK893.out 0).trans rfl; have hcz35_1 : w30.cell? ⟨gb893, 1, none⟩ = some (.slice Ao27 x894001_2.length co27) := (blk_cell BK893.out 1).trans rfl; have hcz35_2 : w30.cell? ⟨gb893, 2, none⟩ = some (.slice Ao28 x894002_2.length co28) := (blk_cell BK893.out 2).trans rfl; have hfz35_0 := blk_frozen BK893.out 0; have hfz35_1 := blk_frozen BK893.out 1; have hfz35_2 := blk_frozen BK893.out 2))
                  go_roundg k2
                  case measure => have := HK1.out; have := HK2.out; omega
                  case rel => exact ⟨(wrap64 (x6_2 + 1)), (t902), (t903), (t906), (.slice Ao33 t903.length co33), (.slice Ao34 t906.length co34), (by rfl), H', ⟨by have := HK1.out; have := HK2.out; omega⟩, ⟨by (with_reducible repeat (first | apply Kd.R_alloc | apply Kd.R_drewN | apply Kd.R_drew )); exact Kd.R_mono (Kd.R_far (p := ⟨gb893, 2, none⟩) (Kd.R_far (p := ⟨gb893, 1, none⟩) (Kd.R_far (p := ⟨gb893, 0, none⟩) (Kd.R_far (p := ⟨gb910, 2, none⟩) (Kd.R_far (p := ⟨gb910, 1, none⟩) (Kd.R_far (p := ⟨gb910, 0, none⟩) (Kd.R_types (Kd.R_types HO905.out BK910.out (by decide)) BK893.out (by decide)) (fun _ hk => hk.1.2) (.int .i64 t902)) (fun _ hk => hk.1.2) (.slice Ao33 t903.length co33)) (fun _ hk => hk.1.2) (.slice Ao34 t906.length co34)) (fun _ hk => hk.2) (.int .i64 t902)) (fun _ hk => hk.2) (.slice Ao33 t903.length co33)) (fun _ hk => hk.2) (.slice Ao34 t906.length co34)) (fun _ hk => trivial)⟩, ⟨by (with_reducible repeat (first | apply Kd.R_alloc | apply Kd.R_drewN | apply Kd.R_drew )); exact Kd.R_mono (Kd.R_far (p := ⟨gb893, 2, none⟩) (Kd.R_far (p := ⟨gb893, 1, none⟩) (Kd.R_far (p := ⟨gb893, 0, none⟩) (Kd.R_far (p := ⟨gb910, 2, none⟩) (Kd.R_far (p := ⟨gb910, 1, none⟩) (Kd.R_far (p := ⟨gb910, 0, none⟩) (Kd.R_types (Kd.R_types HO908.out BK910.out (by decide)) BK893.out (by decide)) (fun _ hk => hk.1.2) (.int .i64 t902)) (fun _ hk => hk.1.2) (.slice Ao33 t903.length co33)) (fun _ hk => hk.1.2) (.slice Ao34 t906.length co34)) (fun _ hk => hk.2) (.int .i64 t902)) (fun _ hk => hk.2) (.slice Ao33 t903.length co33)) (fun _ hk => hk.2) (.slice Ao34 t906.length co34)) (fun _ hk => trivial)⟩, ⟨by (with_reducible repeat (first | refine blk_drewN ?_ _ | refine blk_drew ?_ | refine blk_alloc ?_ _ )); refine blk_put (cs := #[.int .i64 t902, .slice Ao33 t903.length co33, .slice Ao28 x894002_2.length co28]) ?_ 2 _ rfl; (with_reducible repeat (first | refine blk_drewN ?_ _ | refine blk_drew ?_ | refine blk_alloc ?_ _ )); refine blk_put (cs := #[.int .i64 t902, .slice Ao27 x894001_2.length co27, .slice Ao28 x894002_2.length co28]) ?_ 1 _ rfl; (with_reducible repeat (first | refine blk_drewN ?_ _ | refine blk_drew ?_ | refine blk_alloc ?_ _ )); refine blk_put (cs := #[.int .i64 x894000_2, .slice Ao27 x894001_2.length co27, .slice Ao28 x894002_2.length co28]) ?_ 0 _ rfl; (with_reducible repeat (first | refine blk_drewN ?_ _ | refine blk_drew ?_ | refine blk_alloc ?_ _ )); refine blk_far ?_ NB893_910.out _; (with_reducible repeat (first | refine blk_drewN ?_ _ | refine blk_drew ?_ | refine blk_alloc ?_ _ )); refine blk_far ?_ NB893_910.out _; (with_reducible repeat (first | refine blk_drewN ?_ _ | refine blk_drew ?_ | refine blk_alloc ?_ _ )); refine blk_far ?_ NB893_910.out _; (with_reducible repeat (first | refine blk_drewN ?_ _ | refine blk_drew ?_ | refine blk_alloc ?_ _ )); exact BK893.out⟩, ⟨by repeat ((with_reducible first | exact HB.out | refine below_set ?_ GE893.out | refine below_set ?_ GE910.out))⟩⟩
                · replace c25 := Bool.eq_false_iff.mpr c25
                  subst c25
                  have H1 : (none) = some r := by rw [if_neg (show ¬ (false = true) by decide)] at H; exact H
                  clear H
                  have H := H1
                  clear H1
                  exact absurd H (by simp)
              · rw [if_neg c23] at H
                have c23b0 : decide (x6_2 < 2) = false := decide_eq_false c23
                clear c23
                replace H := Option.bind_eq_some_iff.mp H
                obtain ⟨⟨t911, t912, t915, t918⟩, A360, H⟩ := H
                replace H : (if (t918.length : Int) = (x894002_1.length : Int) then (if (t915.length : Int) = 0 then ((impl_EpochsOk.f k2 t911 t912 t915).bind fun t922 => (some t922)) else (none)) else (none)) = some r := H
                have A36 := Aside0.mk A360
                clear A360
                by_cases c37 : (t918.length : Int) = (x894002_1.length : Int)
                · rw [if_pos c37] at H
                  have c37b0 : ((t918.length : Int) == (x894002_1.length : Int)) = true := beq_iff_eq.mpr c37
                  have c37b1 : ((t918.length : Int) != (x894002_1.length : Int)) = false := bne_eq_false_iff_eq.mpr c37
                  have c37b2 : (t918.length == x894002_1.length) = true := by (simp at c37 ⊢; omega)
                  clear c37
                  by_cases c38 : (t915.length : Int) = 0
                  · rw [if_pos c38] at H
                    have c38b0 : ((t915.length : Int) == 0) = true := beq_iff_eq.mpr c38
                    have c38b1 : ((t915.length : Int) != 0) = false := bne_eq_false_iff_eq.mpr c38
                    clear c38
                    replace H := Option.bind_eq_some_iff.mp H
                    obtain ⟨t922, A390, H⟩ := H
                    replace H : (some t922) = some r := H
                    have A39 := Aside0.mk A390
                    clear A390
                    obtain rfl := Option.some.inj H
                    have hcz40_0 : wr.cell? ⟨gb893, 0, none⟩ = some (.int .i64 x894000_2) := (blk_cell BK893.out 0).trans rfl
                    have hcz40_1 : wr.cell? ⟨gb893, 1, none⟩ = some (u894001) := (blk_cell BK893.out 1).trans rfl
                    have hcz40_2 : wr.cell? ⟨gb893, 2, none⟩ = some (u894002) := (blk_cell BK893.out 2).trans rfl
                    have hfz40_0 := blk_frozen BK893.out 0
                    have hfz40_1 := blk_frozen BK893.out 1
                    have hfz40_2 := blk_frozen BK893.out 2
                    obtain ⟨Ao41, co41, eo41⟩ := Kd.R_slice HO_894001.out
                    subst eo41
                    obtain ⟨Ao42, co42, eo42⟩ := Kd.R_slice HO_894002.out
                    subst eo42
                    go_wp2_with (first | ((with_reducible refine gate_callee (f := 27) rfl ?_); refine goesL_ (some 45) rfl rfl Try.func27 (by kernel_rfl) rfl #[.agg #[.int .i64 x894000_2, .slice Ao41 x894001_2.length co41, .slice Ao42 x894002_2.length co42]] rfl (by (try simp only [List.map_toArray, List.map_cons, List.map_nil]); rfl) ?_; (with_reducible refine (impl_FreeNodes.calls k2 x894000_2 _ _ x894001_2 _ _ x894002_2 t911 t912 t915 t918 _ ?side1 ?side2 ?side3 ?side4 A36.out).mono ?_); (case side1 => repeat (exact (Kd.R_reads' HO_894001.out).2.2)); (case side2 => exact (Kd.R_reads' HO_894001.out).2.1); (case side3 => repeat (exact (Kd.R_reads' HO_894002.out).2.2)); (case side4 => exact (Kd.R_reads' HO_894002.out).2.1); rintro e w43 ⟨v913, v916, v919, rfl, ho0, ho1, ho2, hb⟩; refine ⟨_, rfl, ?_⟩; have n0_ := Aside0.mk (Kd.R_mono (Kd.R_told (Kd.R_told (Kd.R_old (by (with_reducible repeat (first | apply Kd.R_alloc | apply Kd.R_drewN | apply Kd.R_drew )); exact HO_894001.out) hb) (Kd.R_base ho0)) (Kd.R_base ho2)) (fun _ h_ => h_.1)); have n1_ := Aside0.mk (Kd.R_elder' (by (with_reducible repeat (first | apply Kd.R_alloc | apply Kd.R_drewN | apply Kd.R_drew )); exact HO_894002.out) (Kd.R_base ho1) hb); have n2_ := Aside0.mk (Kd.R_lower (Kd.R_new' ho0 (Kd.R_lt (by (with_reducible repeat (first | apply Kd.R_alloc | apply Kd.R_drewN | apply Kd.R_drew )); exact HO_894001.out))) (below_size (by repeat ((with_reducible exact HB.out))))); have n3_ := Aside0.mk (Kd.R_lower (Kd.R_new' ho1 (Kd.R_lt (by (with_reducible repeat (first | apply Kd.R_alloc | apply Kd.R_drewN | apply Kd.R_drew )); exact HO_894002.out))) (below_size (by repeat ((with_reducible exact HB.out))))); have n4_ := Aside0.mk (Kd.R_lower (Kd.R_new' ho2 (Kd.R_lt (by (with_reducible repeat (first | apply Kd.R_alloc | apply Kd.R_drewN | apply Kd.R_drew )); exact HO_894001.out))) (below_size (by repeat ((with_reducible exact HB.out))))); have n5_ := Aside0.mk (blk_below (g := gb893) (o := .cells #[.int .i64 x894000_2, .slice Ao41 x894001_2.length co41, .slice Ao42 x894002_2.length co42] 25 (0, 0)) (by (with_reducible repeat (first | refine blk_drewN ?_ _ | refine blk_drew ?_ | refine blk_alloc ?_ _ )); exact BK893.out) hb); have n6_ := Aside0.mk (below_step (by repeat ((with_reducible exact HB.out))) hb); clear HO_894001; clear HO_894002; clear BK893; clear HB; have HO_894001 := n0_; have HO_894002 := n1_; have HO914 := n2_; have HO917 := n3_; have HO920 := n4_; have BK893 := n5_; have HB := n6_; clear n0_ n1_ n2_ n3_ n4_ n5_ n6_; (try clear hb); (try clear hb2); (try clear hk); (try clear hi); (try clear ho0); (try clear ho1); (try clear ho2)) | ((with_reducible refine gate_dst (N := 9) rfl ?_); (try (refine gate_guard (by rfl) ?_; dsimp only)); refine box_event ?hg (N := 9) ?hd (cs := #[.int .i64 0, .slice none 0 0, .slice none 0 0]) (t := 25) ?hr ?_; (case hd => rfl); (case hg => rfl); (case hr => (go_simp; done)); intro gb921 hg w44 hbox hb; have n0_ := Aside0.mk (Kd.R_below (by (with_reducible repeat (first | apply Kd.R_alloc | apply Kd.R_drewN | apply Kd.R_drew )); exact HO_894001.out) hb); have n1_ := Aside0.mk (Kd.R_below (by (with_reducible repeat (first | apply Kd.R_alloc | apply Kd.R_drewN | apply Kd.R_drew )); exact HO_894002.out) hb); have n2_ := Aside0.mk (Kd.R_below (by (with_reducible repeat (first | apply Kd.R_alloc | apply Kd.R_drewN | apply Kd.R_drew )); exact HO914.out) hb); have n3_ := Aside0.mk (Kd.R_below (by (with_reducible repeat (first | apply Kd.R_alloc | apply Kd.R_drewN | apply Kd.R_drew )); exact HO917.out) hb); have n4_ := Aside0.mk (Kd.R_below (by (with_reducible repeat (first | apply Kd.R_alloc | apply Kd.R_drewN | apply Kd.R_drew )); exact HO920.out) hb); have n5_ := Aside0.mk (blk_below (g := gb893) (o := .cells #[.int .i64 x894000_2, .slice Ao41 x894001_2.length co41, .slice Ao42 x894002_2.length co42] 25 (0, 0)) (by (with_reducible repeat (first | refine blk_drewN ?_ _ | refine blk_drew ?_ | refine blk_alloc ?_ _ )); exact BK893.out) hb); have n6_ := Aside0.mk (below_step (by repeat ((with_reducible exact HB.out))) hb); have n7_ := Aside0.mk (hbox); have n8_ := Aside0.mk ((by rw [hg]; exact (below_size (by repeat ((with_reducible exact HB.out)))) : w.heap.size ≤ gb921)); have n9_ := Aside0.mk ((by rw [hg]; exact (below_size (by repeat ((with_reducible exact HB.out)))) : w.heap.size ≤ gb921)); have n10_ := Aside0.mk ((by rw [hg]; exact Nat.ne_of_lt (blk_lt (g := gb893) (o := .cells #[.int .i64 x894000_2, .slice Ao41 x894001_2.length co41, .slice Ao42 x894002_2.length co42] 25 (0, 0)) (by (with_reducible repeat (first | refine blk_drewN ?_ _ | refine blk_drew ?_ | refine blk_alloc ?_ _ )); exact BK893.out)) : gb893 ≠ gb921)); have n11_ := Aside0.mk ((by rw [hg]; exact Nat.ne_of_gt (blk_lt (g := gb893) (o := .cells #[.int .i64 x894000_2, .slice Ao41 x894001_2.length co41, .slice Ao42 x894002_2.length co42] 25 (0, 0)) (by (with_reducible repeat (first | refine blk_drewN ?_ _ | refine blk_drew ?_ | refine blk_alloc ?_ _ )); exact BK893.out)) : gb921 ≠ gb893)); clear HO_894001; clear HO_894002; clear HO914; clear HO917; clear HO920; clear BK893; clear HB; have HO_894001 := n0_; have HO_894002 := n1_; have HO914 := n2_; have HO917 := n3_; have HO920 := n4_; have BK893 := n5_; have HB := n6_; have BK921 := n7_; have GW921 := n8_; have GE921 := n9_; have NB893_921 := n10_; have NB921_893 := n11_; clear n0_ n1_ n2_ n3_ n4_ n5_ n6_ n7_ n8_ n9_ n10_ n11_; clear hb hbox hg; have hnb45 := NB921_893.out; have hnc45 := NB893_921.out; have hcz46_0 : w44.cell? ⟨gb921, 0, none⟩ = some (.int .i64 0) := (blk_cell BK921.out 0).trans rfl; have hcz46_1 : w44.cell? ⟨gb921, 1, none⟩ = some (.slice none 0 0) := (blk_cell BK921.out 1).trans rfl; have hcz46_2 : w44.cell? ⟨gb921, 2, none⟩ = some (.slice none 0 0) := (blk_cell BK921.out 2).trans rfl; have hfz46_0 := blk_frozen BK921.out 0; have hfz46_1 := blk_frozen BK921.out 1; have hfz46_2 := blk_frozen BK921.out 2; obtain ⟨Ao47, co47, eo47⟩ := Kd.R_slice HO914.out; subst eo47; obtain ⟨Ao48, co48, eo48⟩ := Kd.R_slice HO917.out; subst eo48; obtain ⟨Ao49, co49, eo49⟩ := Kd.R_slice HO920.out; subst eo49) | (go_at_call 21; (with_reducible refine (impl_EpochsOk.calls k2 t911 _ _ t912 _ _ t915 t922 _ ?side1 ?side2 ?side3 ?side4 A39.out).mono ?_); (case side1 => refine (Kd.R_reads' (e := 3) (base := w.heap.size) (ok := fun k_ => (some k_ ≠ (.slice Ao49 t918.length co49 : Value).ownBlock ∧ some k_ ≠ (.slice Ao41 x894001_2.length co41 : Value).ownBlock)) (n := t912.length) (c := co47) ?_).2.2; exact (by (with_reducible repeat (first | apply Kd.R_alloc | apply Kd.R_drewN | apply Kd.R_drew )); exact (Kd.R_mono (Kd.R_far (p := ⟨gb921, 2, none⟩) (Kd.R_far (p := ⟨gb921, 1, none⟩) (Kd.R_far (p := ⟨gb921, 0, none⟩) (Kd.R_types HO914.out BK921.out (by decide)) (fun _ hk => hk.2) (.int .i64 t911)) (fun _ hk => hk.2) (.slice Ao47 t912.length co47)) (fun _ hk => hk.2) (.slice Ao48 t915.length co48)) (fun _ h_ => by exact h_.1)))); (case side2 => exact (Kd.R_reads' HO914.out).2.1); (case side3 => refine (Kd.R_reads' (e := 57) (base := w.heap.size) (ok := fun k_ => (True ∧ some k_ ≠ (.slice Ao42 x894002_2.length co42 : Value).ownBlock)) (n := t915.length) (c := co48) ?_).2.2; exact (by (with_reducible repeat (first | apply Kd.R_alloc | apply Kd.R_drewN | apply Kd.R_drew )); exact (Kd.R_mono (Kd.R_far (p := ⟨gb921, 2, none⟩) (Kd.R_far (p := ⟨gb921, 1, none⟩) (Kd.R_far (p := ⟨gb921, 0, none⟩) (Kd.R_types HO917.out BK921.out (by decide)) (fun _ hk => hk.2) (.int .i64 t911)) (fun _ hk => hk.2) (.slice Ao47 t912.length co47)) (fun _ hk => hk.2) (.slice Ao48 t915.length co48)) (fun _ h_ => by exact h_.1)))); (case side4 => exact (Kd.R_reads' HO917.out).2.1); rintro e w50 ⟨rfl, hb⟩; have n0_ := Aside0.mk (Kd.R_below (by (with_reducible repeat (first | apply Kd.R_alloc | apply Kd.R_drewN | apply Kd.R_drew )); exact (Kd.R_mono (Kd.R_far (p := ⟨gb921, 2, none⟩) (Kd.R_far (p := ⟨gb921, 1, none⟩) (Kd.R_far (p := ⟨gb921, 0, none⟩) (Kd.R_types HO_894001.out BK921.out (by decide)) (fun _ hk => hk.2) (.int .i64 t911)) (fun _ hk => hk.2) (.slice Ao47 t912.length co47)) (fun _ hk => hk.2) (.slice Ao48 t915.length co48)) (fun _ h_ => by exact h_.1))) hb); have n1_ := Aside0.mk (Kd.R_below (by (with_reducible repeat (first | apply Kd.R_alloc | apply Kd.R_drewN | apply Kd.R_drew )); exact (Kd.R_mono (Kd.R_far (p := ⟨gb921, 2, none⟩) (Kd.R_far (p := ⟨gb921, 1, none⟩) (Kd.R_far (p := ⟨gb921, 0, none⟩) (Kd.R_types HO_894002.out BK921.out (by decide)) (fun _ hk => hk.2) (.int .i64 t911)) (fun _ hk => hk.2) (.slice Ao47 t912.length co47)) (fun _ hk => hk.2) (.slice Ao48 t915.length co48)) (fun _ h_ => by exact h_.1))) hb); have n2_ := Aside0.mk (Kd.R_below (by (with_reducible repeat (first | apply Kd.R_alloc | apply Kd.R_drewN | apply Kd.R_drew )); exact (Kd.R_mono (Kd.R_far (p := ⟨gb921, 2, none⟩) (Kd.R_far (p := ⟨gb921, 1, none⟩) (Kd.R_far (p := ⟨gb921, 0, none⟩) (Kd.R_types HO914.out BK921.out (by decide)) (fun _ hk => hk.2) (.int .i64 t911)) (fun _ hk => hk.2) (.slice Ao47 t912.length co47)) (fun _ hk => hk.2) (.slice Ao48 t915.length co48)) (fun _ h_ => by exact h_.1))) hb); have n3_ := Aside0.mk (Kd.R_below (by (with_reducible repeat (first | apply Kd.R_alloc | apply Kd.R_drewN | apply Kd.R_drew )); exact (Kd.R_mono (Kd.R_far (p := ⟨gb921, 2, none⟩) (Kd.R_far (p := ⟨gb921, 1, none⟩) (Kd.R_far (p := ⟨gb921, 0, none⟩) (Kd.R_types HO917.out BK921.out (by decide)) (fun _ hk => hk.2) (.int .i64 t911)) (fun _ hk => hk.2) (.slice Ao47 t912.length co47)) (fun _ hk => hk.2) (.slice Ao48 t915.length co48)) (fun _ h_ => by exact h_.1))) hb); have n4_ := Aside0.mk (Kd.R_below (by (with_reducible repeat (first | apply Kd.R_alloc | apply Kd.R_drewN | apply Kd.R_drew )); exact (Kd.R_mono (Kd.R_far (p := ⟨gb921, 2, none⟩) (Kd.R_far (p := ⟨gb921, 1, none⟩) (Kd.R_far (p := ⟨gb921, 0, none⟩) (Kd.R_types HO920.out BK921.out (by decide)) (fun _ hk => hk.2) (.int .i64 t911)) (fun _ hk => hk.2) (.slice Ao47 t912.length co47)) (fun _ hk => hk.2) (.slice Ao48 t915.length co48)) (fun _ h_ => by exact h_.1))) hb); have n5_ := Aside0.mk (blk_below (g := gb893) (o := .cells #[.int .i64 x894000_2, .slice Ao41 x894001_2.length co41, .slice Ao42 x894002_2.length co42] 25 (0, 0)) (by (with_reducible repeat (first | refine blk_drewN ?_ _ | refine blk_drew ?_ | refine blk_alloc ?_ _ )); refine blk_far ?_ NB893_921.out _; (with_reducible repeat (first | refine blk_drewN ?_ _ | refine blk_drew ?_ | refine blk_alloc ?_ _ )); refine blk_far ?_ NB893_921.out _; (with_reducible repeat (first | refine blk_drewN ?_ _ | refine blk_drew ?_ | refine blk_alloc ?_ _ )); refine blk_far ?_ NB893_921.out _; (with_reducible repeat (first | refine blk_drewN ?_ _ | refine blk_drew ?_ | refine blk_alloc ?_ _ )); exact BK893.out) hb); have n6_ := Aside0.mk (blk_below (g := gb921) (o := .cells #[.int .i64 t911, .slice Ao47 t912.length co47, .slice Ao48 t915.length co48] 25 (0, 0)) (by (with_reducible repeat (first | refine blk_drewN ?_ _ | refine blk_drew ?_ | refine blk_alloc ?_ _ )); refine blk_put (cs := #[.int .i64 t911, .slice Ao47 t912.length co47, .slice none 0 0]) ?_ 2 _ rfl; (with_reducible repeat (first | refine blk_drewN ?_ _ | refine blk_drew ?_ | refine blk_alloc ?_ _ )); refine blk_put (cs := #[.int .i64 t911, .slice none 0 0, .slice none 0 0]) ?_ 1 _ rfl; (with_reducible repeat (first | refine blk_drewN ?_ _ | refine blk_drew ?_ | refine blk_alloc ?_ _ )); refine blk_put (cs := #[.int .i64 0, .slice none 0 0, .slice none 0 0]) ?_ 0 _ rfl; (with_reducible repeat (first | refine blk_drewN ?_ _ | refine blk_drew ?_ | refine blk_alloc ?_ _ )); exact BK921.out) hb); have n7_ := Aside0.mk (below_step (by repeat ((with_reducible first | exact HB.out | refine below_set ?_ GE921.out))) hb); clear HO_894001; clear HO_894002; clear HO914; clear HO917; clear HO920; clear BK893; clear BK921; clear HB; have HO_894001 := n0_; have HO_894002 := n1_; have HO914 := n2_; have HO917 := n3_; have HO920 := n4_; have BK893 := n5_; have BK921 := n6_; have HB := n7_; clear n0_ n1_ n2_ n3_ n4_ n5_ n6_ n7_; (try clear hb); (try clear hb2); (try clear hk); (try clear hi)))
                    go_ret
                    exact ⟨by rfl, by repeat ((with_reducible exact HB.out))⟩
                  · rw [if_neg c38] at H
                    exact absurd H (by simp)
                · rw [if_neg c37] at H
                  exact absurd H (by simp)

/-- THE ONE PURE STATEMENT of laws_FnAllFree: yours. -/
def laws_FnAllFree.Pure : Prop := ∀ (l0 : List Int), l0.length ≤ maxLen → l0.length * 1 ≤ 140737488351232 → (∀ x ∈ l0, (Lit.int .u8 x).wf = true) → ∃ k, laws_FnAllFree.f k l0 = some true
theorem laws_FnAllFree.walk (P : laws_FnAllFree.Pure) (a0 : Option Addr) (len0 cap0 : Nat) (z0 : List Int) (w : World) (w0 : (a0 = none ∧ len0 = 0 ∧ cap0 = 0 ∧ z0 = []) ∨ ∃ x, a0 = some x ∧ len0 ≤ cap0 ∧ cap0 ≤ maxLen ∧ z0.length = cap0 ∧ (∀ i, i < z0.length → w.cell? (x.add i) = some (.int .u8 (z0.getD i 0))) ∧ ∀ n ∈ z0, (Lit.int .u8 n).wf = true) (y0 : len0 * 1 ≤ 140737488351232) :
    Calls Try.prog 11 #[.slice a0 len0 cap0] w fun e w' => e = .returned (.bool true) ∧ Below w.heap.size w w' := by
  obtain ⟨l0, rfl, hr0, hm0, hw0, hc0⟩ := ReadsInt.ofRowC w0
  obtain ⟨k, h⟩ := P l0 hm0 y0 hw0
  refine (laws_FnAllFree.calls k _ _ l0 true w (Kd.C_of_reads (d := (0 : Int)) (h1 := fun _ => rfl) hr0) hc0 h).mono ?_
  rintro e w' ⟨rfl, hd⟩
  exact ⟨rfl, hd⟩

end Go.Proofs.Ytdbhpcekjcohdaa.Q
