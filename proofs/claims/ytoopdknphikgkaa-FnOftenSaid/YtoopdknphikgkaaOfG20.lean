import Derived.Shelf.SlicesE.DeleteFunc
import Derived.Test.YtoopdknphikgkaaOfShelf
import Derived.Test.YtoopdknphikgkaaOfB0
import Derived.Test.YtoopdknphikgkaaOfG101
import Derived.Test.YtoopdknphikgkaaOfWords
namespace Go.Proofs.Ytoopdknphikgkaa.Q
open Go.RowKit Go.Proofs.YtoopdknphikgkaaW.PrintWords Go.Proofs.YtoopdknphikgkaaW.PrintLast Go.Proofs.YtoopdknphikgkaaW.PrintMore
attribute [local go_sem] max2_int min2_int max_two min_two max_three min_three max_four min_four   -- for this text's walks alone
set_option linter.unusedVariables false
set_option linter.unusedSimpArgs false
def impl_SketchNew.l0 : Nat → Int → List (List Int) → Int → Option ((List (List Int)) × Int)
  | 0, _, _, _ => none
  | k + 1, x3, x123000, x123001 => if x3 < 3 then (if x123000.length < 5864062014805 then (impl_SketchNew.l0 k (wrap64 (x3 + 1)) (x123000 ++ [(List.replicate 16 0)]) x123001) else (none)) else (some (x123000, x123001))
def impl_SketchNew.f (k : Nat)  : Option ((List (List Int)) × Int) := impl_SketchNew.l0 k 0 ([] : List (List Int)) 0
theorem impl_SketchNew.mono_l : ∀ k, (∀ y0 y1 y2, LeO (impl_SketchNew.l0 k y0 y1 y2) (impl_SketchNew.l0 (k + 1) y0 y1 y2))
  | 0 => fun _ _ _ r h => by simp [impl_SketchNew.l0] at h
  | k + 1 => by
    have ih0 := impl_SketchNew.mono_l k
    · intro y0 y1 y2
      unfold impl_SketchNew.l0
      repeat' first | (with_reducible exact ih0 _ _ _) | (with_reducible exact LeO.refl _) | (with_reducible refine LeO.ite ?_ ?_)
theorem impl_SketchNew.mono : ∀ k, LeO (impl_SketchNew.f k ) (impl_SketchNew.f (k + 1) ) := by
  intro  k
  have ih0 := impl_SketchNew.mono_l k
  unfold impl_SketchNew.f
  repeat' (with_reducible exact ih0 _ _ _)
set_option maxHeartbeats 8000000 in
set_option maxRecDepth 100000 in
theorem impl_SketchNew.calls (k : Nat)  (r1 : List (List Int)) (r2 : Int) (w : World) (h : impl_SketchNew.f k  = some (r1, r2)) :
    Calls Try.prog 20 #[] w fun e w' => ∃ v0_ : Value, e = .returned (.agg #[v0_, .int .i64 r2]) ∧ Kd.S (Kd.slice 3 (Kd.int .i64)) 58 w' w.heap.size (fun _ => True) v0_ r1 ∧ Below w.heap.size w w' := by
  have hu26 := Try.underlying26
  have HB := Aside0.mk (Below.refl w.heap.size w)
  have H : (impl_SketchNew.l0 k 0 ([] : List (List Int)) 0) = some (r1, r2) := h
  clear h
  have H' := Aside0.mk H
  clear H
  go_enter Try.func20, Try.ntmps20
  go_wp2_with (first | ((with_reducible refine gate_dst (N := 0) rfl ?_); refine box_event ?hg (N := 0) ?hd (cs := #[.slice none 0 0, .int .i64 0]) (t := 26) ?hr ?_; (case hd => rfl); (case hg => rfl); (case hr => (go_simp; done)); intro gb121 hg w1 hbox hb; have n0_ := Aside0.mk (below_step (by repeat ((with_reducible exact HB.out))) hb); have n1_ := Aside0.mk (hbox); have n2_ := Aside0.mk ((by rw [hg]; exact (below_size (by repeat ((with_reducible exact HB.out)))) : w.heap.size ≤ gb121)); have n3_ := Aside0.mk ((by rw [hg]; exact (below_size (by repeat ((with_reducible exact HB.out)))) : w.heap.size ≤ gb121)); clear HB; have HB := n0_; have BK121 := n1_; have GW121 := n2_; have GE121 := n3_; clear n0_ n1_ n2_ n3_; clear hb hbox hg) | ((with_reducible refine gate_dst (N := 1) rfl ?_); refine box_event ?hg (N := 1) ?hd (cs := #[.slice none 0 0, .int .i64 0]) (t := 26) ?hr ?_; (case hd => rfl); (case hg => rfl); (case hr => (go_simp; done)); intro gb122 hg w2 hbox hb; have n0_ := Aside0.mk (blk_below (g := gb121) (o := .cells #[.slice none 0 0, .int .i64 0] 26 (0, 0)) (by (with_reducible repeat (first | refine blk_drewN ?_ _ | refine blk_drew ?_ | refine blk_alloc ?_ _ )); exact BK121.out) hb); have n1_ := Aside0.mk (below_step (by repeat ((with_reducible exact HB.out))) hb); have n2_ := Aside0.mk (hbox); have n3_ := Aside0.mk ((by rw [hg]; exact (below_size (by repeat ((with_reducible exact HB.out)))) : w.heap.size ≤ gb122)); have n4_ := Aside0.mk ((by rw [hg]; exact (below_size (by repeat ((with_reducible exact HB.out)))) : w.heap.size ≤ gb122)); have n5_ := Aside0.mk ((by rw [hg]; exact Nat.ne_of_lt (blk_lt (g := gb121) (o := .cells #[.slice none 0 0, .int .i64 0] 26 (0, 0)) (by (with_reducible repeat (first | refine blk_drewN ?_ _ | refine blk_drew ?_ | refine blk_alloc ?_ _ )); exact BK121.out)) : gb121 ≠ gb122)); have n6_ := Aside0.mk ((by rw [hg]; exact Nat.ne_of_gt (blk_lt (g := gb121) (o := .cells #[.slice none 0 0, .int .i64 0] 26 (0, 0)) (by (with_reducible repeat (first | refine blk_drewN ?_ _ | refine blk_drew ?_ | refine blk_alloc ?_ _ )); exact BK121.out)) : gb122 ≠ gb121)); clear BK121; clear HB; have BK121 := n0_; have HB := n1_; have BK122 := n2_; have GW122 := n3_; have GE122 := n4_; have NB121_122 := n5_; have NB122_121 := n6_; clear n0_ n1_ n2_ n3_ n4_ n5_ n6_; clear hb hbox hg; have hnb3 := NB122_121.out; have hnc3 := NB121_122.out; have hcz4_0 : w2.cell? ⟨gb122, 0, none⟩ = some (.slice none 0 0) := (blk_cell BK122.out 0).trans rfl; have hcz4_1 : w2.cell? ⟨gb122, 1, none⟩ = some (.int .i64 0) := (blk_cell BK122.out 1).trans rfl; have hfz4_0 := blk_frozen BK122.out 0; have hfz4_1 := blk_frozen BK122.out 1))
  go_loopg [3] k (fun kq v3 w' => ∃ (x3_1 : Int) (x123000_1 : List (List Int)) (u123000 : Value), v3 = .int .i64 x3_1 ∧ Aside0 (impl_SketchNew.l0 kq x3_1 x123000_1 0 = some (r1, r2)) ∧ Aside0 (kq ≤ k) ∧ Aside0 (Kd.S (Kd.slice 3 (Kd.int .i64)) 58 w' w.heap.size (fun _ => True) u123000 x123000_1) ∧ Aside0 (w'.heap[gb121]? = some (.cells #[(.slice none 0 0), .int .i64 0] 26 (0, 0))) ∧ Aside0 (w'.heap[gb122]? = some (.cells #[u123000, .int .i64 0] 26 (0, 0))) ∧ Aside0 (Below w.heap.size w w'))
  case atStart => exact ⟨(0), (([] : List (List Int))), (.slice none 0 0), (by rfl), H', ⟨Nat.le_refl _⟩, ⟨by exact Kd.S_nil _ _ _ _ _⟩, ⟨by (with_reducible repeat (first | refine blk_drewN ?_ _ | refine blk_drew ?_ | refine blk_alloc ?_ _ )); refine blk_far ?_ NB121_122.out _; (with_reducible repeat (first | refine blk_drewN ?_ _ | refine blk_drew ?_ | refine blk_alloc ?_ _ )); refine blk_far ?_ NB121_122.out _; (with_reducible repeat (first | refine blk_drewN ?_ _ | refine blk_drew ?_ | refine blk_alloc ?_ _ )); exact BK121.out⟩, ⟨by (with_reducible repeat (first | refine blk_drewN ?_ _ | refine blk_drew ?_ | refine blk_alloc ?_ _ )); refine blk_put (cs := #[.slice none 0 0, .int .i64 0]) ?_ 1 _ rfl; (with_reducible repeat (first | refine blk_drewN ?_ _ | refine blk_drew ?_ | refine blk_alloc ?_ _ )); refine blk_put (cs := #[.slice none 0 0, .int .i64 0]) ?_ 0 _ rfl; (with_reducible repeat (first | refine blk_drewN ?_ _ | refine blk_drew ?_ | refine blk_alloc ?_ _ )); exact BK122.out⟩, ⟨by repeat ((with_reducible first | exact HB.out | refine below_set ?_ GE122.out))⟩⟩
  case round =>
    clear H'
    clear hcz4_0
    clear hcz4_1
    clear hfz4_0
    clear hfz4_1
    obtain ⟨x3_1, x123000_1, u123000, rfl, HA, HK1, HO_123000, BK121, BK122, HB⟩ := hrel
    cases gk with
    | zero => exact absurd HA.out (by simp [impl_SketchNew.l0])
    | succ k1 =>
      have H := HA.out
      clear HA
      simp only [impl_SketchNew.l0] at H
      by_cases c5 : x3_1 < 3
      · rw [if_pos c5] at H
        have c5b0 : decide (x3_1 < 3) = true := decide_eq_true c5
        clear c5
        obtain ⟨y123, hy123⟩ : ∃ y_ : List Int, y_ = (List.replicate 16 0) := ⟨_, rfl⟩
        replace H : (if x123000_1.length < 5864062014805 then (impl_SketchNew.l0 k1 (wrap64 (x3_1 + 1)) (x123000_1 ++ [y123]) 0) else (none)) = some (r1, r2) := by (rw [hy123]; with_reducible exact H)
        have Ny123 := Aside0.mk hy123
        clear hy123
        by_cases c6 : x123000_1.length < 5864062014805
        · rw [if_pos c6] at H
          have LMc6 := Aside0.mk c6
          clear c6
          obtain ⟨y126, hy126⟩ : ∃ y_ : List (List Int), y_ = (x123000_1 ++ [y123]) := ⟨_, rfl⟩
          replace H : (impl_SketchNew.l0 k1 (wrap64 (x3_1 + 1)) y126 0) = some (r1, r2) := by (rw [hy126]; with_reducible exact H)
          have Ny126 := Aside0.mk hy126
          clear hy126
          have H' := Aside0.mk H
          clear H
          go_wp2
          have n0_ := Aside0.mk (Kd.S_drew HO_123000.out)
          have n1_ := Aside0.mk (blk_drew BK121.out)
          have n2_ := Aside0.mk (blk_drew BK122.out)
          have n3_ := Aside0.mk (below_drew1 HB.out)
          clear HO_123000
          clear BK121
          clear BK122
          clear HB
          have HO_123000 := n0_
          have BK121 := n1_
          have BK122 := n2_
          have HB := n3_
          clear n0_ n1_ n2_ n3_
          refine start_ (n := 7) (S := fun w' => w'.cell? ⟨gb122, 0, none⟩ = some (u123000) ∧ w'.cell? ⟨gb122, 1, none⟩ = some (.int .i64 0)) (ds := [6]) #[false, false, false, false, false, false, false] (by kernel_rfl) rfl rfl ⟨(blk_cell BK122.out 0).trans rfl, (blk_cell BK122.out 1).trans rfl⟩ (fun hHeld => ?_)
          generalize wr.drew = w7 at HO_123000 BK121 BK122 HB hHeld ⊢
          refine pure_ (i := 0) (N := some 5) (v := ?_) (a' := ?_) #[true, false, false, false, false, false, false] rfl rfl (by kernel_rfl) (fun _ _ _ h => h) (Or.inl ⟨by rfl, ?_⟩) ?_ ?_
          rotate_left
          · intro w'
            go_simp
            with_reducible rfl
          rotate_left
          · simp only [Act.put, List.setIfInBounds_toArray, List.set_cons_zero, List.set_cons_succ, i64_w, i32_w]
            rfl
          refine take_ (i := 1) (N := some 6) (v := ?_) (a' := ?_) #[true, true, false, false, false, false, false] rfl rfl (by kernel_rfl) (fun _ _ _ h => h) (Or.inl ⟨by rfl, ?_⟩) hHeld ?_ ?_
          rotate_left
          · rintro w' ⟨s0, s1⟩
            go_simp
            with_reducible rfl
          rotate_left
          · simp only [Act.put, List.setIfInBounds_toArray, List.set_cons_zero, List.set_cons_succ, i64_w, i32_w]
            rfl
          refine one_ (i := 2) (N := some 7) #[true, true, true, false, false, false, false] rfl rfl (by kernel_rfl) (by decide) (fun K hK => ?_)
          refine Kd.R_make_step (Kd.int .i64) _ 3 (by rfl) (N := 7) rfl 58 _ _ rfl 16 rfl rfl Try.underlying58 (.int .i64 0) 8 info3 rfl (by decide) (by omega) 0 (ok := fun _ => True) (okp := fun _ => True) rfl (fun _ hk => hk) trivial (by omega) (by omega) (Below.refl _ _) (Nat.le_refl _) ?_
          intro v124 w8 ho9 hb hg_ hnew_
          clear hg_ hnew_
          ((simp only [Int.reduceToNat] at ho9; rw [← Ny123.out] at ho9))
          have n0_ := Aside0.mk (Kd.S_elder' (by (with_reducible repeat (first | apply Kd.S_alloc | apply Kd.S_drewN | apply Kd.S_drew )); exact HO_123000.out) (Kd.R_base ho9) hb)
          have n1_ := Aside0.mk (Kd.R_lower ho9 (below_size (by repeat ((with_reducible exact HB.out)))))
          have n2_ := Aside0.mk (blk_below (g := gb121) (o := .cells #[.slice none 0 0, .int .i64 0] 26 (0, 0)) (by (with_reducible repeat (first | refine blk_drewN ?_ _ | refine blk_drew ?_ | refine blk_alloc ?_ _ )); exact BK121.out) hb)
          have n3_ := Aside0.mk (blk_below (g := gb122) (o := .cells #[u123000, .int .i64 0] 26 (0, 0)) (by (with_reducible repeat (first | refine blk_drewN ?_ _ | refine blk_drew ?_ | refine blk_alloc ?_ _ )); exact BK122.out) hb)
          have n4_ := Aside0.mk (below_step (by repeat ((with_reducible exact HB.out))) hb)
          clear HO_123000
          clear BK121
          clear BK122
          clear HB
          have HO_123000 := n0_
          have HO125 := n1_
          have BK121 := n2_
          have BK122 := n3_
          have HB := n4_
          clear n0_ n1_ n2_ n3_ n4_
          clear hb ho9
          obtain ⟨Ao11, co11, eo11⟩ := Kd.R_slice HO125.out
          (subst eo11)
          refine hK.out _ _ ⟨(blk_cell BK122.out 0).trans rfl, (blk_cell BK122.out 1).trans rfl⟩ (fun hHeld => ?_)
          clear hK K
          refine norm_ (a' := ?_) ?_ ?_
          rotate_left
          · show Act.put _ (some 7) _ = _
            simp only [Act.put, List.setIfInBounds_toArray, List.set_cons_zero, List.set_cons_succ, i64_w, i32_w]
            rfl
          refine one_ (i := 3) (N := some 8) #[true, true, true, true, false, false, false] rfl rfl (by kernel_rfl) (by decide) (fun K hK => ?_)
          refine value_ (w1 := ?_) (v := ?_) (by rfl) rfl ?_ ?_
          rotate_left 2
          · go_simp
            constructor
            · rfl
            · rfl
          refine hK.out _ _ ⟨(blk_cell (blk_alloc BK122.out _) 0).trans rfl, (blk_cell (blk_alloc BK122.out _) 1).trans rfl⟩ (fun hHeld => ?_)
          clear hK K
          refine norm_ (a' := ?_) ?_ ?_
          rotate_left
          · show Act.put _ (some 8) _ = _
            simp only [Act.put, List.setIfInBounds_toArray, List.set_cons_zero, List.set_cons_succ, i64_w, i32_w]
            rfl
          refine one_ (i := 4) (N := some 9) #[true, true, true, true, true, false, false] rfl rfl (by kernel_rfl) (by decide) (fun K hK => ?_)
          refine Kd.S_append_step (Kd.slice 3 (Kd.int .i64)) (w0 := w) w.heap.size (by rfl) (.tmp 6) (.tmp 8) 24 58 (.slice none 0 0) 24 rfl Try.underlying24 info58 rfl (by decide) (by omega) u123000 x123000_1 y123 [.slice Ao11 y123.length co11] (fun _ => True) (fun k_ => some k_ = (.slice Ao11 y123.length co11 : Value).ownBlock) rfl rfl ?aP (fun k_ hk_ => ((Kd.R_mono (ok' := fun k_ => ((fun _ => True)) k_ ∧ some k_ ≠ (u123000 : Value).ownBlock) (Kd.R_apart' (HO125.out) (Kd.S_typed HO_123000.out) (by decide)) (fun k_ hk => ⟨trivial, hk.2⟩))).1 k_ hk_.symm) ?aF ?aO ?aB ?aS ?aL ?_
          (case aP => exact Kd.M_row (Kd.R_mono (Kd.R_tight rfl (Kd.R_mono (ok' := fun k_ => ((fun _ => True)) k_ ∧ some k_ ≠ (u123000 : Value).ownBlock) (Kd.R_apart' (HO125.out) (Kd.S_typed HO_123000.out) (by decide)) (fun k_ hk => ⟨trivial, hk.2⟩))) (fun _ h_ => h_)))
          (case aB => exact (by repeat ((with_reducible exact HB.out))))
          (case aF => exact (fun _ _ => trivial))
          (case aO => exact (by (with_reducible repeat (first | apply Kd.S_alloc | apply Kd.S_drewN | apply Kd.S_drew )); exact Kd.S_mono HO_123000.out (fun k_ hk => ⟨trivial, fun e_ => hk.2 e_⟩)))
          (case aS => exact (below_size (by repeat ((with_reducible exact HB.out)))))
          (case aL => have := LMc6.out; omega)
          intro v127 w10 ho hb hg hat
          rw [← Ny126.out] at ho
          have n0_ := Aside0.mk (blk_grown (g := gb121) (o := .cells #[.slice none 0 0, .int .i64 0] 26 (0, 0)) (by (with_reducible repeat (first | refine blk_drewN ?_ _ | refine blk_drew ?_ | refine blk_alloc ?_ _ )); exact BK121.out) hg (Kd.S_ne HO_123000.out BK121.out (by decide)))
          have n1_ := Aside0.mk (blk_grown (g := gb122) (o := .cells #[u123000, .int .i64 0] 26 (0, 0)) (by (with_reducible repeat (first | refine blk_drewN ?_ _ | refine blk_drew ?_ | refine blk_alloc ?_ _ )); exact BK122.out) hg (Kd.S_ne HO_123000.out BK122.out (by decide)))
          have n2_ := Aside0.mk (hb)
          have n3_ := Aside0.mk (ho)
          clear BK121
          clear BK122
          clear HB
          clear HO_123000
          clear HO125
          have BK121 := n0_
          have BK122 := n1_
          have HB := n2_
          have HO128 := n3_
          clear n0_ n1_ n2_ n3_
          clear ho hb hg hat
          obtain ⟨Ao12, co12, eo12⟩ := Kd.S_slice HO128.out
          (subst eo12)
          refine hK.out _ _ ⟨(blk_cell BK122.out 0).trans rfl, (blk_cell BK122.out 1).trans rfl⟩ (fun hHeld => ?_)
          clear hK K
          refine norm_ (a' := ?_) ?_ ?_
          rotate_left
          · show Act.put _ (some 9) _ = _
            simp only [Act.put, List.setIfInBounds_toArray, List.set_cons_zero, List.set_cons_succ, i64_w, i32_w]
            rfl
          refine pure_ (i := 5) (N := some 10) (v := ?_) (a' := ?_) #[true, true, true, true, true, true, false] rfl rfl (by kernel_rfl) (fun _ _ _ h => h) (Or.inl ⟨by rfl, ?_⟩) ?_ ?_
          rotate_left
          · intro w'
            go_simp
            with_reducible rfl
          rotate_left
          · simp only [Act.put, List.setIfInBounds_toArray, List.set_cons_zero, List.set_cons_succ, i64_w, i32_w]
            rfl
          refine last_ (i := 6) (N := none) #[true, true, true, true, true, true, true] rfl rfl (by kernel_rfl) (by decide) (fun K hK => ?_)
          have hs13 : w10.cell? ⟨gb122, 0, none⟩ = some (u123000) := (blk_cell BK122.out 0).trans rfl
          have hfs13 := blk_frozen BK122.out 0
          have hns13_0 := NB121_122.out
          have hms13_0 := NB122_121.out
          refine skip_ (w1 := ?_) (by rfl) rfl ?_ ?_
          rotate_left
          · go_simp
            rfl
          refine hK.out _ _ ?_
          clear hK K
          refine done_ (by kernel_rfl) ?_
          go_wp2
          go_roundg k1
          case measure => have := HK1.out; omega
          case rel => exact ⟨(wrap64 (x3_1 + 1)), (y126), (.slice Ao12 y126.length co12), (by rfl), H', ⟨by have := HK1.out; omega⟩, ⟨by (with_reducible repeat (first | apply Kd.S_alloc | apply Kd.S_drewN | apply Kd.S_drew )); exact Kd.S_mono (Kd.S_far (p := ⟨gb122, 0, none⟩) (Kd.S_types HO128.out BK122.out (by decide)) (fun _ hk => hk.2) (.slice Ao12 y126.length co12)) (fun _ hk => trivial)⟩, ⟨by (with_reducible repeat (first | refine blk_drewN ?_ _ | refine blk_drew ?_ | refine blk_alloc ?_ _ )); refine blk_far ?_ NB121_122.out _; (with_reducible repeat (first | refine blk_drewN ?_ _ | refine blk_drew ?_ | refine blk_alloc ?_ _ )); exact BK121.out⟩, ⟨by (with_reducible repeat (first | refine blk_drewN ?_ _ | refine blk_drew ?_ | refine blk_alloc ?_ _ )); refine blk_put (cs := #[u123000, .int .i64 0]) ?_ 0 _ rfl; (with_reducible repeat (first | refine blk_drewN ?_ _ | refine blk_drew ?_ | refine blk_alloc ?_ _ )); exact BK122.out⟩, ⟨by repeat ((with_reducible first | exact HB.out | refine below_set ?_ GE122.out))⟩⟩
        · rw [if_neg c6] at H
          exact absurd H (by simp)
      · rw [if_neg c5] at H
        have c5b0 : decide (x3_1 < 3) = false := decide_eq_false c5
        clear c5
        simp only [Option.some.injEq, Prod.mk.injEq] at H
        obtain ⟨rfl, rfl⟩ := H
        have hnb14 := NB122_121.out
        have hnc14 := NB121_122.out
        have hcz15_0 : wr.cell? ⟨gb122, 0, none⟩ = some (u123000) := (blk_cell BK122.out 0).trans rfl
        have hcz15_1 : wr.cell? ⟨gb122, 1, none⟩ = some (.int .i64 0) := (blk_cell BK122.out 1).trans rfl
        have hfz15_0 := blk_frozen BK122.out 0
        have hfz15_1 := blk_frozen BK122.out 1
        obtain ⟨Ao16, co16, eo16⟩ := Kd.S_slice HO_123000.out
        subst eo16
        have hcz17_0 : wr.cell? ⟨gb121, 0, none⟩ = some (.slice none 0 0) := (blk_cell BK121.out 0).trans rfl
        have hcz17_1 : wr.cell? ⟨gb121, 1, none⟩ = some (.int .i64 0) := (blk_cell BK121.out 1).trans rfl
        have hfz17_0 := blk_frozen BK121.out 0
        have hfz17_1 := blk_frozen BK121.out 1
        go_wp2
        refine bodyPost_ret (results_cell_row rfl _ _ gb121 26 #[.slice Ao16 x123000_1.length co16, .int .i64 0] (0, 0) _ rfl (by (with_reducible repeat (first | refine blk_drewN ?_ _ | refine blk_drew ?_ | refine blk_alloc ?_ _ )); refine blk_put (cs := #[.slice Ao16 x123000_1.length co16, .int .i64 0]) ?_ 1 _ rfl; (with_reducible repeat (first | refine blk_drewN ?_ _ | refine blk_drew ?_ | refine blk_alloc ?_ _ )); refine blk_put (cs := #[.slice none 0 0, .int .i64 0]) ?_ 0 _ rfl; (with_reducible repeat (first | refine blk_drewN ?_ _ | refine blk_drew ?_ | refine blk_alloc ?_ _ )); exact BK121.out) Try.underlying26 rfl (by kernel_rfl)) rfl ?_
        exact ⟨_, by rfl, by (with_reducible repeat (first | apply Kd.S_alloc | apply Kd.S_drewN | apply Kd.S_drew )); exact Kd.S_mono (Kd.S_far (p := ⟨gb121, 1, none⟩) (Kd.S_far (p := ⟨gb121, 0, none⟩) (Kd.S_types HO_123000.out BK121.out (by decide)) (fun _ hk => hk.2) (.slice Ao16 x123000_1.length co16)) (fun _ hk => hk.2) (.int .i64 0)) (fun _ hk => trivial), by repeat ((with_reducible first | exact HB.out | refine below_set ?_ GE121.out))⟩
def impl_PolicyNew.f (k : Nat)  : Option (List ByteArray × List ByteArray × (List (List Int)) × Int) := (impl_SketchNew.f k).bind fun bt289 => (some (([] : List ByteArray), ([] : List ByteArray), bt289.1, bt289.2))
set_option maxHeartbeats 8000000 in
set_option maxRecDepth 100000 in
theorem impl_PolicyNew.calls (k : Nat)  (r1 : List ByteArray) (r2 : List ByteArray) (r3 : List (List Int)) (r4 : Int) (w : World) (h : impl_PolicyNew.f k  = some (r1, r2, r3, r4)) :
    Calls Try.prog 33 #[] w fun e w' => ∃ v0_ v1_ v2_ : Value, e = .returned (.agg #[v0_, v1_, v2_, .int .i64 r4]) ∧ Kd.R Kd.string 9 w' w.heap.size (fun k_ => some k_ ≠ (v1_ : Value).ownBlock) v0_ r1 ∧ Kd.R Kd.string 9 w' w.heap.size (fun k_ => some k_ ≠ (v0_ : Value).ownBlock) v1_ r2 ∧ Kd.S (Kd.slice 3 (Kd.int .i64)) 58 w' w.heap.size (fun _ => True) v2_ r3 ∧ Below w.heap.size w w' := by
  have hu43 := Try.underlying43
  have HB := Aside0.mk (Below.refl w.heap.size w)
  have H : ((impl_SketchNew.f k).bind fun bt289 => (some (([] : List ByteArray), ([] : List ByteArray), bt289.1, bt289.2))) = some (r1, r2, r3, r4) := h
  clear h
  replace H := Option.bind_eq_some_iff.mp H
  obtain ⟨⟨t289, t292⟩, A10, H⟩ := H
  replace H : (some (([] : List ByteArray), ([] : List ByteArray), t289, t292)) = some (r1, r2, r3, r4) := H
  have A1 := Aside0.mk A10
  clear A10
  simp only [Option.some.injEq, Prod.mk.injEq] at H
  obtain ⟨rfl, rfl, rfl, rfl⟩ := H
  go_enter Try.func33, Try.ntmps33
  go_wp2_with (first | ((with_reducible refine gate_dst (N := 0) rfl ?_); refine box_event ?hg (N := 0) ?hd (cs := #[.slice none 0 0, .slice none 0 0, .slice none 0 0, .int .i64 0]) (t := 43) ?hr ?_; (case hd => rfl); (case hg => rfl); (case hr => (go_simp; done)); intro gb288 hg w2 hbox hb; have n0_ := Aside0.mk (below_step (by repeat ((with_reducible exact HB.out))) hb); have n1_ := Aside0.mk (hbox); have n2_ := Aside0.mk ((by rw [hg]; exact (below_size (by repeat ((with_reducible exact HB.out)))) : w.heap.size ≤ gb288)); have n3_ := Aside0.mk ((by rw [hg]; exact (below_size (by repeat ((with_reducible exact HB.out)))) : w.heap.size ≤ gb288)); clear HB; have HB := n0_; have BK288 := n1_; have GW288 := n2_; have GE288 := n3_; clear n0_ n1_ n2_ n3_; clear hb hbox hg) | ((with_reducible refine gate_callee (f := 20) rfl ?_); refine goesL_ (some 1) rfl rfl Try.func20 (by kernel_rfl) rfl #[] rfl (by (try simp only [List.map_toArray, List.map_cons, List.map_nil]); done) ?_; (with_reducible refine (impl_SketchNew.calls k  t289 t292 _ A1.out).mono ?_); rintro e w3 ⟨v290, rfl, ho0, hb⟩; refine ⟨_, rfl, ?_⟩; have n0_ := Aside0.mk (Kd.S_lower ho0 (below_size (by repeat ((with_reducible exact HB.out))))); have n1_ := Aside0.mk (blk_below (g := gb288) (o := .cells #[.slice none 0 0, .slice none 0 0, .slice none 0 0, .int .i64 0] 43 (0, 0)) (by (with_reducible repeat (first | refine blk_drewN ?_ _ | refine blk_drew ?_ | refine blk_alloc ?_ _ )); exact BK288.out) hb); have n2_ := Aside0.mk (below_step (by repeat ((with_reducible exact HB.out))) hb); clear BK288; clear HB; have HO291 := n0_; have BK288 := n1_; have HB := n2_; clear n0_ n1_ n2_; (try clear hb); (try clear hb2); (try clear hk); (try clear hi); (try clear ho0); obtain ⟨Ao4, co4, eo4⟩ := Kd.S_slice HO291.out; subst eo4; have hcz5_0 : w3.cell? ⟨gb288, 0, none⟩ = some (.slice none 0 0) := (blk_cell BK288.out 0).trans rfl; have hcz5_1 : w3.cell? ⟨gb288, 1, none⟩ = some (.slice none 0 0) := (blk_cell BK288.out 1).trans rfl; have hcz5_2 : w3.cell? ⟨gb288, 2, none⟩ = some (.slice none 0 0) := (blk_cell BK288.out 2).trans rfl; have hcz5_3 : w3.cell? ⟨gb288, 3, none⟩ = some (.int .i64 0) := (blk_cell BK288.out 3).trans rfl; have hfz5_0 := blk_frozen BK288.out 0; have hfz5_1 := blk_frozen BK288.out 1; have hfz5_2 := blk_frozen BK288.out 2; have hfz5_3 := blk_frozen BK288.out 3))
  refine bodyPost_ret (results_cell_row rfl _ _ gb288 43 #[.slice none 0 0, .slice none 0 0, .slice Ao4 t289.length co4, .int .i64 t292] (0, 0) _ rfl (by (with_reducible repeat (first | refine blk_drewN ?_ _ | refine blk_drew ?_ | refine blk_alloc ?_ _ )); refine blk_put (cs := #[.slice none 0 0, .slice none 0 0, .slice Ao4 t289.length co4, .int .i64 0]) ?_ 3 _ rfl; (with_reducible repeat (first | refine blk_drewN ?_ _ | refine blk_drew ?_ | refine blk_alloc ?_ _ )); refine blk_put (cs := #[.slice none 0 0, .slice none 0 0, .slice none 0 0, .int .i64 0]) ?_ 2 _ rfl; (with_reducible repeat (first | refine blk_drewN ?_ _ | refine blk_drew ?_ | refine blk_alloc ?_ _ )); refine blk_put (cs := #[.slice none 0 0, .slice none 0 0, .slice none 0 0, .int .i64 0]) ?_ 1 _ rfl; (with_reducible repeat (first | refine blk_drewN ?_ _ | refine blk_drew ?_ | refine blk_alloc ?_ _ )); refine blk_put (cs := #[.slice none 0 0, .slice none 0 0, .slice none 0 0, .int .i64 0]) ?_ 0 _ rfl; (with_reducible repeat (first | refine blk_drewN ?_ _ | refine blk_drew ?_ | refine blk_alloc ?_ _ )); exact BK288.out) Try.underlying43 rfl (by kernel_rfl)) rfl ?_
  exact ⟨_, _, _, by rfl, by exact Kd.R_nil _ _ _ _ _, by exact Kd.R_nil _ _ _ _ _, by (with_reducible repeat (first | apply Kd.S_alloc | apply Kd.S_drewN | apply Kd.S_drew )); exact Kd.S_mono (Kd.S_far (p := ⟨gb288, 3, none⟩) (Kd.S_far (p := ⟨gb288, 2, none⟩) (Kd.S_far (p := ⟨gb288, 1, none⟩) (Kd.S_far (p := ⟨gb288, 0, none⟩) (Kd.S_types HO291.out BK288.out (by decide)) (fun _ hk => hk.2) (.slice none 0 0)) (fun _ hk => hk.2) (.slice none 0 0)) (fun _ hk => hk.2) (.slice Ao4 t289.length co4)) (fun _ hk => hk.2) (.int .i64 t292)) (fun _ hk => trivial), by repeat ((with_reducible first | exact HB.out | refine below_set ?_ GE288.out))⟩
def slices_Index_string_string.l0 : Nat → List ByteArray → ByteArray → Int → Int → Option (Int)
  | 0, _, _, _, _ => none
  | k + 1, x0, x1, x7, x8 => if x8 < x7 then (if 0 ≤ x8 then (if x8 < (x0.length : Int) then (if x1.toList = (rdOf ByteArray.empty x0 x8).toList then (some x8) else (slices_Index_string_string.l0 k x0 x1 x7 (wrap64 (x8 + 1)))) else (none)) else (none)) else (some (-1))
def slices_Index_string_string.f (k : Nat) (l0 : List ByteArray) (a1 : ByteArray) : Option (Int) := slices_Index_string_string.l0 k l0 a1 (l0.length : Int) 0
set_option maxHeartbeats 8000000 in
set_option maxRecDepth 100000 in
theorem slices_Index_string_string.calls (k : Nat) (A0 : Option Addr) (c0 : Nat) (l0 : List ByteArray) (a1 : ByteArray) (r : Int) (w : World) (hr0 : Kd.C Kd.string w A0 l0.length l0) (hc0 : l0.length ≤ c0) (h : slices_Index_string_string.f k l0 a1 = some r) :
    Calls Try.prog 109 #[.slice A0 l0.length c0, .string a1] w fun e w' => e = .returned (.int .i64 r) ∧ Drawn0 w w' := by
  have HR0 := Aside0.mk hr0
  have HC0 := Aside0.mk hc0
  clear hr0 hc0
  have H : (slices_Index_string_string.l0 k l0 a1 (l0.length : Int) 0) = some r := h
  clear h
  have H' := Aside0.mk H
  clear H
  go_enter Try.func109, Try.ntmps109
  go_wp2
  go_loopg [8] k (fun kq v8 w' => ∃ (x8_1 : Int), v8 = .int .i64 x8_1 ∧ Aside0 (slices_Index_string_string.l0 kq l0 a1 (l0.length : Int) x8_1 = some r) ∧ Aside0 (kq ≤ k) ∧ Drawn0 w w')
  case atStart => exact ⟨(0), (by rfl), H', ⟨Nat.le_refl _⟩, by repeat (exact Drawn0.refl _)⟩
  case round =>
    clear H'
    obtain ⟨x8_1, rfl, HA, HK1, ⟨m1, rfl⟩⟩ := hrel
    cases gk with
    | zero => exact absurd HA.out (by simp [slices_Index_string_string.l0])
    | succ k1 =>
      have H := HA.out
      clear HA
      simp only [slices_Index_string_string.l0] at H
      by_cases c3 : x8_1 < (l0.length : Int)
      · rw [if_pos c3] at H
        have c3b0 : decide (x8_1 < (l0.length : Int)) = true := decide_eq_true c3
        clear c3
        by_cases c4 : 0 ≤ x8_1
        · rw [if_pos c4] at H
          have c4b0 : decide (0 ≤ x8_1) = true := decide_eq_true c4
          clear c4
          by_cases c5 : x8_1 < (l0.length : Int)
          · rw [if_pos c5] at H
            have c5b0 : decide (x8_1 < (l0.length : Int)) = true := decide_eq_true c5
            clear c5
            by_cases c6 : a1.toList = (rdOf ByteArray.empty l0 x8_1).toList
            · rw [if_pos c6] at H
              have c6b0 : (a1.toList == (rdOf ByteArray.empty l0 x8_1).toList) = true := beq_iff_eq.mpr c6
              have c6b1 : (a1.toList != (rdOf ByteArray.empty l0 x8_1).toList) = false := bne_eq_false_iff_eq.mpr c6
              clear c6
              obtain rfl := Option.some.inj H
              have p361 : 0 ≤ (x8_1 : Int) := of_decide_eq_true (by (with_reducible assumption))
              have q361 : x8_1 < (l0.length : Int) := of_decide_eq_true (by (with_reducible assumption))
              obtain ⟨ad361, e361, hx361_0⟩ := Kd.at_string HR0.out x8_1 p361 q361
              cases e361
              replace p361 := eq_true p361
              replace q361 := eq_true q361
              go_wp2
              go_ret
              exact ⟨by rfl, by repeat (first | exact Drawn0.refl _ | apply Drawn0.step)⟩
            · rw [if_neg c6] at H
              have c6b0 : (a1.toList == (rdOf ByteArray.empty l0 x8_1).toList) = false := beq_eq_false_iff_ne.mpr c6
              have c6b1 : (a1.toList != (rdOf ByteArray.empty l0 x8_1).toList) = true := bne_iff_ne.mpr c6
              have H' := Aside0.mk H
              clear H
              have p361 : 0 ≤ (x8_1 : Int) := of_decide_eq_true (by (with_reducible assumption))
              have q361 : x8_1 < (l0.length : Int) := of_decide_eq_true (by (with_reducible assumption))
              obtain ⟨ad361, e361, hx361_0⟩ := Kd.at_string HR0.out x8_1 p361 q361
              cases e361
              replace p361 := eq_true p361
              replace q361 := eq_true q361
              go_wp2
              go_roundg k1
              case measure => have := HK1.out; omega
              case rel => exact ⟨(wrap64 (x8_1 + 1)), (by rfl), H', ⟨by have := HK1.out; omega⟩, by repeat (first | exact Drawn0.refl _ | apply Drawn0.step)⟩
          · rw [if_neg c5] at H
            exact absurd H (by simp)
        · rw [if_neg c4] at H
          exact absurd H (by simp)
      · rw [if_neg c3] at H
        have c3b0 : decide (x8_1 < (l0.length : Int)) = false := decide_eq_false c3
        clear c3
        obtain rfl := Option.some.inj H
        go_wp2
        go_ret
        exact ⟨by rfl, by repeat (first | exact Drawn0.refl _ | apply Drawn0.step)⟩
def slices_Contains_string_string.f (k : Nat) (l0 : List ByteArray) (a1 : ByteArray) : Option (Bool) := (slices_Index_string_string.f k l0 a1).bind fun t362 => (some (decide (t362 ≥ 0)))
set_option maxHeartbeats 8000000 in
set_option maxRecDepth 100000 in
theorem slices_Contains_string_string.calls (k : Nat) (A0 : Option Addr) (c0 : Nat) (l0 : List ByteArray) (a1 : ByteArray) (r : Bool) (w : World) (hr0 : Kd.C Kd.string w A0 l0.length l0) (hc0 : l0.length ≤ c0) (h : slices_Contains_string_string.f k l0 a1 = some r) :
    Calls Try.prog 78 #[.slice A0 l0.length c0, .string a1] w fun e w' => e = .returned (.bool r) ∧ Drawn0 w w' := by
  have HR0 := Aside0.mk hr0
  have HC0 := Aside0.mk hc0
  clear hr0 hc0
  have H : ((slices_Index_string_string.f k l0 a1).bind fun t362 => (some (decide (t362 ≥ 0)))) = some r := h
  clear h
  replace H := Option.bind_eq_some_iff.mp H
  obtain ⟨t362, A30, H⟩ := H
  replace H : (some (decide (t362 ≥ 0))) = some r := H
  have A3 := Aside0.mk A30
  clear A30
  obtain rfl := Option.some.inj H
  go_enter Try.func78, Try.ntmps78
  go_wp2_with (((with_reducible refine gate_callee (f := 109) rfl ?_); refine goesL_ (some 7) rfl rfl Try.func109 (by kernel_rfl) rfl #[.slice A0 l0.length c0, .string a1] rfl (by (try simp only [List.map_toArray, List.map_cons, List.map_nil]); rfl) ?_; (with_reducible refine (slices_Index_string_string.calls k _ _ l0 a1 t362 _ ?side1 ?side2 A3.out).mono ?_); (case side1 => repeat (exact HR0.out)); (case side2 => exact HC0.out); rintro e w' ⟨rfl, ⟨nd, rfl⟩⟩; refine ⟨_, rfl, ?_⟩))
  go_ret
  exact ⟨by rfl, by repeat (first | exact Drawn0.refl _ | apply Drawn0.step)⟩
def impl_keysIn.f (l0_0 : List ByteArray) (l0_1 : List ByteArray) (l0_2 : List (List Int)) (a0_3 : Int) : Option (List ByteArray) := if l0_0.length + l0_1.length < 8796093022208 then some (l0_0 ++ l0_1) else none
theorem impl_keysIn.grow (n : Nat) (hn : n < 8796093022208) (w : World) :
    Calls Try.prog 114 #[.slice none 0 0, .int .i64 (n : Int)] w fun e w' => ∃ v, e = .returned v ∧ Kd.R Kd.string 9 w' w.heap.size (fun _ => True) v [] ∧ Below w.heap.size w w' := by
  have HB := Aside0.mk (Below.refl w.heap.size w)
  have c0b0 : decide ((n : Int) < 0) = false := decide_eq_false (by omega)
  have hw0 : wrap64 ((n : Int) - wrap64 (0 - 0)) = (n : Int) := by unfold wrap64; omega
  have hw1 : wrap64 ((n : Int) - 0) = (n : Int) := by unfold wrap64; omega
  have hw2 : wrap64 (n : Int) = (n : Int) := by unfold wrap64; omega
  by_cases c : n = 0
  · subst c
    go_enter Try.func114, Try.ntmps114
    go_wp2
    go_ret
    exact ⟨_, rfl, Kd.R_nil _ _ _ _ _, HB.out⟩
  · have c1b0 : decide (0 < (n : Int)) = true := decide_eq_true (by omega)
    go_enter Try.func114, Try.ntmps114
    go_wp2_with (((with_reducible refine gate_builtin (b := .append) (xs := #[.tmp 20, .tmp 21]) rfl ?_); at_builtin; refine Kd.R_append_zeros Kd.string (w0 := w) w.heap.size rfl (.tmp 20) (.tmp 21) 38 3 9 (.string ⟨#[]⟩) 16 rfl Try.underlying38 Try.underlying3 info9 rfl (by decide) (by omega) (.slice none 0 0) [] ByteArray.empty (n : Int) (fun _ => True) rfl rfl ?aZ (fun _ _ => trivial) (Kd.R_nil _ _ _ _ _) (by omega) HB.out (Nat.le_refl _) ?aL ?_; (case aZ => exact rfl); (case aL => (simp only [List.length_nil]; omega)); intro v1 w1 ho hb hg hat; have HO := Aside0.mk ho; have HB := Aside0.mk hb; clear ho hb hg hat; obtain ⟨Ao, co, eo⟩ := Kd.R_slice HO.out; subst eo))
    go_ret
    exact ⟨_, rfl, Kd.R_take HO.out (Nat.zero_le _), HB.out⟩
set_option maxHeartbeats 8000000 in
set_option maxRecDepth 100000 in
theorem impl_keysIn.concat (A1 : Option Addr) (c1 : Nat) (l1 : List ByteArray) (A2 : Option Addr) (c2 : Nat) (l2 : List ByteArray) (gs : Nat) (w : World) (hb : w.heap[gs]? = some (.cells #[.slice A1 l1.length c1, .slice A2 l2.length c2] 38 (0, 0))) (hr1 : Kd.C Kd.string w A1 l1.length l1) (hr2 : Kd.C Kd.string w A2 l2.length l2) (hl : l1.length + l2.length < 8796093022208) :
    Calls Try.prog 110 #[.slice (some ⟨gs, 0, none⟩) 2 2] w fun e w' => ∃ v, e = .returned v ∧ Kd.R Kd.string 9 w' w.heap.size (fun _ => True) v (l1 ++ l2) ∧ Below w.heap.size w w' := by
  have HB := Aside0.mk (Below.refl w.heap.size w)
  have BK := Aside0.mk hb
  have HR1 := Aside0.mk hr1
  have HR2 := Aside0.mk hr2
  have HL := Aside0.mk hl
  clear hb hr1 hr2 hl
  go_enter Try.func110, Try.ntmps110
  go_wp2
  go_loopg [3, 11] 3 (fun kq v3 v11 w' => ∃ (x s : Int), v3 = .int .i64 s ∧ v11 = .int .i64 x ∧ ((x = 0 ∧ s = 0 ∧ kq = 3) ∨ (x = 1 ∧ s = ((l1.length : Nat) : Int) ∧ kq = 2) ∨ (x = 2 ∧ s = ((l1.length + l2.length : Nat) : Int) ∧ kq = 1)) ∧ Aside0 (w'.heap[gs]? = some (.cells #[.slice A1 l1.length c1, .slice A2 l2.length c2] 38 (0, 0))) ∧ Aside0 (Below w.heap.size w w'))
  case atStart => exact ⟨0, 0, rfl, rfl, .inl ⟨rfl, rfl, rfl⟩, ⟨by (with_reducible repeat (first | refine blk_drewN ?_ _ | refine blk_drew ?_ | refine blk_alloc ?_ _ )); exact BK.out⟩, ⟨by repeat ((with_reducible exact HB.out))⟩⟩
  case round =>
    clear BK HB
    obtain ⟨x, s, rfl, rfl, hx, BK, HB⟩ := hrel
    have hcz_0 : wr.cell? ⟨gs, 0, none⟩ = some (.slice A1 l1.length c1) := (blk_cell BK.out 0).trans rfl
    have hcz_1 : wr.cell? ⟨gs, 1, none⟩ = some (.slice A2 l2.length c2) := (blk_cell BK.out 1).trans rfl
    rcases hx with ⟨rfl, rfl, rfl⟩ | ⟨rfl, rfl, rfl⟩ | ⟨rfl, rfl, rfl⟩
    · have hw_ : wrap64 (0 + ((l1.length : Nat) : Int)) = ((l1.length : Nat) : Int) := by have := HL.out; unfold wrap64; omega
      have hv_ : wrap64 ((l1.length : Nat) : Int) = ((l1.length : Nat) : Int) := by have := HL.out; unfold wrap64; omega
      have hd_ : decide (((l1.length : Nat) : Int) < 0) = false := decide_eq_false (by omega)
      go_wp2
      go_roundg 2
      case measure => omega
      case rel => exact ⟨1, _, rfl, rfl, .inr (.inl ⟨rfl, hv_, rfl⟩), ⟨by (with_reducible repeat (first | refine blk_drewN ?_ _ | refine blk_drew ?_ | refine blk_alloc ?_ _ )); exact BK.out⟩, ⟨by repeat ((with_reducible exact HB.out))⟩⟩
    · have hw_ : wrap64 (((l1.length : Nat) : Int) + ((l2.length : Nat) : Int)) = ((l1.length + l2.length : Nat) : Int) := by have := HL.out; unfold wrap64; omega
      have hd_ : decide (((l1.length + l2.length : Nat) : Int) < 0) = false := decide_eq_false (by omega)
      go_wp2
      go_roundg 1
      case measure => omega
      case rel => exact ⟨2, _, rfl, rfl, .inr (.inr ⟨rfl, hw_, rfl⟩), ⟨by (with_reducible repeat (first | refine blk_drewN ?_ _ | refine blk_drew ?_ | refine blk_alloc ?_ _ )); exact BK.out⟩, ⟨by repeat ((with_reducible exact HB.out))⟩⟩
    · go_wp2_with (((with_reducible refine gate_callee (f := 114) rfl ?_); refine goesL_ (some 24) rfl rfl Try.func114 (by kernel_rfl) rfl #[.slice none 0 0, .int .i64 ((l1.length + l2.length : Nat) : Int)] rfl (by (try simp only [List.map_toArray, List.map_cons, List.map_nil]); rfl) ?_; (with_reducible refine (impl_keysIn.grow (l1.length + l2.length) HL.out _).mono ?_); rintro e w2 ⟨v, rfl, ho, hb⟩; refine ⟨_, rfl, ?_⟩; have n0_ := Aside0.mk (blk_below (g := gs) (o := .cells #[.slice A1 l1.length c1, .slice A2 l2.length c2] 38 (0, 0)) (by (with_reducible repeat (first | refine blk_drewN ?_ _ | refine blk_drew ?_ | refine blk_alloc ?_ _ )); exact BK.out) hb); have n1_ := Aside0.mk (Kd.R_lower ho (below_size (by repeat ((with_reducible exact HB.out))))); have n2_ := Aside0.mk (below_step (by repeat ((with_reducible exact HB.out))) hb); clear BK HB ho hb hcz_0 hcz_1; have BK := n0_; have HO := n1_; have HB := n2_; clear n0_ n1_ n2_))
      go_loopg [6, 27] 3 (fun kq v6 v27 w' => ∃ (x : Int) (xs : List ByteArray), v27 = .int .i64 x ∧ ((x = 0 ∧ [] = xs ∧ kq = 3) ∨ (x = 1 ∧ l1 = xs ∧ kq = 2) ∨ (x = 2 ∧ l1 ++ l2 = xs ∧ kq = 1)) ∧ Aside0 (Kd.R Kd.string 9 w' w.heap.size (fun _ => True) v6 xs) ∧ Aside0 (w'.heap[gs]? = some (.cells #[.slice A1 l1.length c1, .slice A2 l2.length c2] 38 (0, 0))) ∧ Aside0 (Below w.heap.size w w'))
      case atStart => exact ⟨0, [], rfl, .inl ⟨rfl, rfl, rfl⟩, ⟨by (with_reducible repeat (first | apply Kd.R_alloc | apply Kd.R_drewN | apply Kd.R_drew )); exact HO.out⟩, ⟨by (with_reducible repeat (first | refine blk_drewN ?_ _ | refine blk_drew ?_ | refine blk_alloc ?_ _ )); exact BK.out⟩, ⟨by repeat ((with_reducible exact HB.out))⟩⟩
      case round =>
        clear BK HB HO
        obtain ⟨x, xs, rfl, hx, HO, BK, HB⟩ := hrel
        obtain ⟨Ao, co, eo⟩ := Kd.R_slice HO.out
        subst eo
        have hcz_0 : wr.cell? ⟨gs, 0, none⟩ = some (.slice A1 l1.length c1) := (blk_cell BK.out 0).trans rfl
        have hcz_1 : wr.cell? ⟨gs, 1, none⟩ = some (.slice A2 l2.length c2) := (blk_cell BK.out 1).trans rfl
        rcases hx with ⟨rfl, rfl, rfl⟩ | ⟨rfl, rfl, rfl⟩ | ⟨rfl, rfl, rfl⟩
        · go_wp2_with (((with_reducible refine gate_builtin (b := .append) (xs := #[.tmp 31, .tmp 32]) rfl ?_); at_builtin; refine Kd.R_append_rows Kd.string (w0 := w) w.heap.size rfl (.tmp 31) (.tmp 32) 38 9 (.string ⟨#[]⟩) 16 rfl Try.underlying38 info9 rfl (by decide) (by omega) _ [] l1 _ _ _ (fun _ => True) (fun _ => False) rfl rfl ?aO ?aR (fun _ _ h => h) (fun _ h => h.elim) ?aF ?aB ?aS ?aL ?_; (case aR => exact Kd.C_below HR1.out (by repeat ((with_reducible exact HB.out)))); (case aB => exact (by repeat ((with_reducible exact HB.out)))); (case aF => exact (fun _ _ => trivial)); (case aO => exact (by (with_reducible repeat (first | apply Kd.R_alloc | apply Kd.R_drewN | apply Kd.R_drew )); exact HO.out)); (case aS => exact (below_size (by repeat ((with_reducible exact HB.out))))); (case aL => have := HL.out; (try simp only [List.length_nil]); omega); intro v5 w5 ho hb hg hat; have n0_ := Aside0.mk ho; have n1_ := Aside0.mk hb; have n2_ := Aside0.mk (blk_grown (g := gs) (o := .cells #[.slice A1 l1.length c1, .slice A2 l2.length c2] 38 (0, 0)) (by (with_reducible repeat (first | refine blk_drewN ?_ _ | refine blk_drew ?_ | refine blk_alloc ?_ _ )); exact BK.out) hg (Kd.R_ne HO.out BK.out (by decide))); clear HO HB BK ho hb hg hat hcz_0 hcz_1; have HO := n0_; have HB := n1_; have BK := n2_; clear n0_ n1_ n2_))
          go_roundg 2
          case measure => omega
          case rel => exact ⟨1, _, rfl, .inr (.inl ⟨rfl, rfl, rfl⟩), ⟨by (with_reducible repeat (first | apply Kd.R_alloc | apply Kd.R_drewN | apply Kd.R_drew )); exact HO.out⟩, ⟨by (with_reducible repeat (first | refine blk_drewN ?_ _ | refine blk_drew ?_ | refine blk_alloc ?_ _ )); exact BK.out⟩, ⟨by repeat ((with_reducible exact HB.out))⟩⟩
        · go_wp2_with (((with_reducible refine gate_builtin (b := .append) (xs := #[.tmp 31, .tmp 32]) rfl ?_); at_builtin; refine Kd.R_append_rows Kd.string (w0 := w) w.heap.size rfl (.tmp 31) (.tmp 32) 38 9 (.string ⟨#[]⟩) 16 rfl Try.underlying38 info9 rfl (by decide) (by omega) _ l1 l2 _ _ _ (fun _ => True) (fun _ => False) rfl rfl ?aO ?aR (fun _ _ h => h) (fun _ h => h.elim) ?aF ?aB ?aS ?aL ?_; (case aR => exact Kd.C_below HR2.out (by repeat ((with_reducible exact HB.out)))); (case aB => exact (by repeat ((with_reducible exact HB.out)))); (case aF => exact (fun _ _ => trivial)); (case aO => exact (by (with_reducible repeat (first | apply Kd.R_alloc | apply Kd.R_drewN | apply Kd.R_drew )); exact HO.out)); (case aS => exact (below_size (by repeat ((with_reducible exact HB.out))))); (case aL => have := HL.out; (try simp only [List.length_nil]); omega); intro v5 w5 ho hb hg hat; have n0_ := Aside0.mk ho; have n1_ := Aside0.mk hb; have n2_ := Aside0.mk (blk_grown (g := gs) (o := .cells #[.slice A1 l1.length c1, .slice A2 l2.length c2] 38 (0, 0)) (by (with_reducible repeat (first | refine blk_drewN ?_ _ | refine blk_drew ?_ | refine blk_alloc ?_ _ )); exact BK.out) hg (Kd.R_ne HO.out BK.out (by decide))); clear HO HB BK ho hb hg hat hcz_0 hcz_1; have HO := n0_; have HB := n1_; have BK := n2_; clear n0_ n1_ n2_))
          go_roundg 1
          case measure => omega
          case rel => exact ⟨2, _, rfl, .inr (.inr ⟨rfl, rfl, rfl⟩), ⟨by (with_reducible repeat (first | apply Kd.R_alloc | apply Kd.R_drewN | apply Kd.R_drew )); exact HO.out⟩, ⟨by (with_reducible repeat (first | refine blk_drewN ?_ _ | refine blk_drew ?_ | refine blk_alloc ?_ _ )); exact BK.out⟩, ⟨by repeat ((with_reducible exact HB.out))⟩⟩
        · go_wp2
          go_ret
          exact ⟨_, rfl, by (with_reducible repeat (first | apply Kd.R_alloc | apply Kd.R_drewN | apply Kd.R_drew )); exact HO.out, by repeat ((with_reducible exact HB.out))⟩
theorem impl_keysIn.two {P : Program} {ops : Array Oper} {rest : List Oper} {o : Oper} {a : Act} {Q : Exit → Act → World → Prop} {W : World} (hgd : o.guard = none) {N : Tmp} (_hd : o.dst = some N) {cs : Array Value} {t : TypeId} {n : Nat}
    (hrun : (execOp a.eval o).run P W = .ok (.value (.slice (some ⟨W.heap.size, 0, none⟩) n n)) (W.alloc (.cells cs t (0, 0))))
    (h : ∀ g, g = W.heap.size → ∀ w1, w1.heap[g]? = some (.cells cs t (0, 0)) → Below W.heap.size W w1 → wpList P ops Q rest (a.put o.dst (.slice (some ⟨g, 0, none⟩) n n)) w1) : wpList P ops Q (o :: rest) a W :=
  Kd.event_run hgd hrun (h _ rfl _ (blk_new W _) (below_alloc (Below.refl _ _) _))
set_option maxHeartbeats 8000000 in
set_option maxRecDepth 100000 in
theorem impl_keysIn.calls (A0_0 : Option Addr) (c0_0 : Nat) (l0_0 : List ByteArray) (A0_1 : Option Addr) (c0_1 : Nat) (l0_1 : List ByteArray) (A0_2 : Option Addr) (c0_2 : Nat) (l0_2 : List (List Int)) (a0_3 : Int) (r : List ByteArray) (w : World) (hr0_0 : Kd.C Kd.string w A0_0 l0_0.length l0_0) (hc0_0 : l0_0.length ≤ c0_0) (hr0_1 : Kd.C Kd.string w A0_1 l0_1.length l0_1) (hc0_1 : l0_1.length ≤ c0_1) (hr0_2 : Kd.C (Kd.slice 3 (Kd.int .i64)) w A0_2 l0_2.length l0_2) (hc0_2 : l0_2.length ≤ c0_2) (h : impl_keysIn.f l0_0 l0_1 l0_2 a0_3 = some r) :
    Calls Try.prog 79 #[.agg #[.slice A0_0 l0_0.length c0_0, .slice A0_1 l0_1.length c0_1, .slice A0_2 l0_2.length c0_2, .int .i64 a0_3]] w fun e w' => ∃ v0_ : Value, e = .returned (v0_) ∧ Kd.R Kd.string 9 w' w.heap.size (fun _ => True) v0_ r ∧ Below w.heap.size w w' := by
  have hu43 := Try.underlying43
  have HR1 := Aside0.mk hr0_0
  have HR2 := Aside0.mk hr0_1
  have HB := Aside0.mk (Below.refl w.heap.size w)
  clear hr0_0 hr0_1 hr0_2 hc0_0 hc0_1 hc0_2
  unfold impl_keysIn.f at h
  by_cases c : l0_0.length + l0_1.length < 8796093022208
  case neg => rw [if_neg c] at h; exact absurd h (by simp)
  rw [if_pos c] at h
  have HL := Aside0.mk c
  clear c
  obtain rfl := Option.some.inj h
  clear h
  go_enter Try.func79, Try.ntmps79
  go_wp2_with (first | ((with_reducible refine gate_dst (N := 1) rfl ?_); refine box_event ?hg (N := 1) ?hd (cs := #[.slice A0_0 l0_0.length c0_0, .slice A0_1 l0_1.length c0_1, .slice A0_2 l0_2.length c0_2, .int .i64 a0_3]) (t := 43) ?hr ?_; (case hd => rfl); (case hg => rfl); (case hr => (go_simp; done)); intro gb hg w1 hbox hb; have n0_ := Aside0.mk (below_step (by repeat ((with_reducible exact HB.out))) hb); have n1_ := Aside0.mk hbox; have GE := Aside0.mk ((by rw [hg]; exact (below_size (by repeat ((with_reducible exact HB.out)))) : w.heap.size ≤ gb)); clear HB; have HB := n0_; have BK := n1_; clear n0_ n1_ hb hbox hg; have hcz_0 : w1.cell? ⟨gb, 0, none⟩ = some (.slice A0_0 l0_0.length c0_0) := (blk_cell BK.out 0).trans rfl; have hcz_1 : w1.cell? ⟨gb, 1, none⟩ = some (.slice A0_1 l0_1.length c0_1) := (blk_cell BK.out 1).trans rfl) | ((with_reducible refine gate_dst (N := 7) rfl ?_); refine impl_keysIn.two ?hg (N := 7) ?hd (cs := #[.slice A0_0 l0_0.length c0_0, .slice A0_1 l0_1.length c0_1]) (t := 38) (n := 2) ?hr ?_; (case hd => rfl); (case hg => rfl); (case hr => (go_simp; done)); intro gs hg w2 hbox hb; have n0_ := Aside0.mk (below_step (by repeat ((with_reducible exact HB.out))) hb); have n1_ := Aside0.mk hbox; clear HB hcz_0 hcz_1; have HB := n0_; have BS := n1_; clear n0_ n1_ hb hbox hg) | ((with_reducible refine gate_callee (f := 110) rfl ?_); refine goesL_ (some 8) rfl rfl Try.func110 (by kernel_rfl) rfl #[.slice (some ⟨gs, 0, none⟩) 2 2] rfl (by (try simp only [List.map_toArray, List.map_cons, List.map_nil]); rfl) ?_; (with_reducible refine (impl_keysIn.concat A0_0 c0_0 l0_0 A0_1 c0_1 l0_1 gs _ ?s1 ?s2 ?s3 HL.out).mono ?_); (case s1 => exact (by (with_reducible repeat (first | refine blk_drewN ?_ _ | refine blk_drew ?_ | refine blk_alloc ?_ _ )); exact BS.out)); (case s2 => exact Kd.C_below HR1.out (by repeat ((with_reducible exact HB.out)))); (case s3 => exact Kd.C_below HR2.out (by repeat ((with_reducible exact HB.out)))); rintro e w3 ⟨v, rfl, ho, hb⟩; refine ⟨_, rfl, ?_⟩; have n0_ := Aside0.mk (Kd.R_lower ho (below_size (by repeat ((with_reducible exact HB.out))))); have n1_ := Aside0.mk (below_step (by repeat ((with_reducible exact HB.out))) hb); clear HB; have HO := n0_; have HB := n1_; clear n0_ n1_ ho hb))
  go_ret
  exact ⟨_, rfl, by (with_reducible repeat (first | apply Kd.R_alloc | apply Kd.R_drewN | apply Kd.R_drew )); exact HO.out, (by repeat ((with_reducible exact HB.out)))⟩
def impl_PolicyHas.f (k : Nat) (l0_0 : List ByteArray) (l0_1 : List ByteArray) (l0_2 : List (List Int)) (a0_3 : Int) (a1 : ByteArray) : Option (Bool) := (impl_keysIn.f l0_0 l0_1 l0_2 a0_3).bind fun t364 => ((slices_Contains_string_string.f k t364 a1).bind fun t367 => (some t367))
set_option maxHeartbeats 8000000 in
set_option maxRecDepth 100000 in
theorem impl_PolicyHas.calls (k : Nat) (A0_0 : Option Addr) (c0_0 : Nat) (l0_0 : List ByteArray) (A0_1 : Option Addr) (c0_1 : Nat) (l0_1 : List ByteArray) (A0_2 : Option Addr) (c0_2 : Nat) (l0_2 : List (List Int)) (a0_3 : Int) (a1 : ByteArray) (r : Bool) (w : World) (hr0_0 : Kd.C Kd.string w A0_0 l0_0.length l0_0) (hc0_0 : l0_0.length ≤ c0_0) (hr0_1 : Kd.C Kd.string w A0_1 l0_1.length l0_1) (hc0_1 : l0_1.length ≤ c0_1) (hr0_2 : Kd.C (Kd.slice 3 (Kd.int .i64)) w A0_2 l0_2.length l0_2) (hc0_2 : l0_2.length ≤ c0_2) (h : impl_PolicyHas.f k l0_0 l0_1 l0_2 a0_3 a1 = some r) :
    Calls Try.prog 41 #[.agg #[.slice A0_0 l0_0.length c0_0, .slice A0_1 l0_1.length c0_1, .slice A0_2 l0_2.length c0_2, .int .i64 a0_3], .string a1] w fun e w' => e = .returned (.bool r) ∧ Below w.heap.size w w' := by
  have hu43 := Try.underlying43
  have HR0_0 := Aside0.mk hr0_0
  have HC0_0 := Aside0.mk hc0_0
  clear hr0_0 hc0_0
  have HR0_1 := Aside0.mk hr0_1
  have HC0_1 := Aside0.mk hc0_1
  clear hr0_1 hc0_1
  have HR0_2 := Aside0.mk hr0_2
  have HC0_2 := Aside0.mk hc0_2
  clear hr0_2 hc0_2
  have HB := Aside0.mk (Below.refl w.heap.size w)
  have H : ((impl_keysIn.f l0_0 l0_1 l0_2 a0_3).bind fun t364 => ((slices_Contains_string_string.f k t364 a1).bind fun t367 => (some t367))) = some r := h
  clear h
  replace H := Option.bind_eq_some_iff.mp H
  obtain ⟨t364, A30, H⟩ := H
  replace H : ((slices_Contains_string_string.f k t364 a1).bind fun t367 => (some t367)) = some r := H
  have A3 := Aside0.mk A30
  clear A30
  replace H := Option.bind_eq_some_iff.mp H
  obtain ⟨t367, A40, H⟩ := H
  replace H : (some t367) = some r := H
  have A4 := Aside0.mk A40
  clear A40
  obtain rfl := Option.some.inj H
  go_enter Try.func41, Try.ntmps41
  go_wp2_with (first | ((with_reducible refine gate_dst (N := 2) rfl ?_); refine box_event ?hg (N := 2) ?hd (cs := #[.slice A0_0 l0_0.length c0_0, .slice A0_1 l0_1.length c0_1, .slice A0_2 l0_2.length c0_2, .int .i64 a0_3]) (t := 43) ?hr ?_; (case hd => rfl); (case hg => rfl); (case hr => (go_simp; done)); intro gb363 hg w5 hbox hb; have n0_ := Aside0.mk (below_step (by repeat ((with_reducible exact HB.out))) hb); have n1_ := Aside0.mk (hbox); have n2_ := Aside0.mk ((by rw [hg]; exact (below_size (by repeat ((with_reducible exact HB.out)))) : w.heap.size ≤ gb363)); have n3_ := Aside0.mk ((by rw [hg]; exact (below_size (by repeat ((with_reducible exact HB.out)))) : w.heap.size ≤ gb363)); clear HB; have HB := n0_; have BK363 := n1_; have GW363 := n2_; have GE363 := n3_; clear n0_ n1_ n2_ n3_; clear hb hbox hg; have hcz6_0 : w5.cell? ⟨gb363, 0, none⟩ = some (.slice A0_0 l0_0.length c0_0) := (blk_cell BK363.out 0).trans rfl; have hcz6_1 : w5.cell? ⟨gb363, 1, none⟩ = some (.slice A0_1 l0_1.length c0_1) := (blk_cell BK363.out 1).trans rfl; have hcz6_2 : w5.cell? ⟨gb363, 2, none⟩ = some (.slice A0_2 l0_2.length c0_2) := (blk_cell BK363.out 2).trans rfl; have hcz6_3 : w5.cell? ⟨gb363, 3, none⟩ = some (.int .i64 a0_3) := (blk_cell BK363.out 3).trans rfl; have hfz6_0 := blk_frozen BK363.out 0; have hfz6_1 := blk_frozen BK363.out 1; have hfz6_2 := blk_frozen BK363.out 2; have hfz6_3 := blk_frozen BK363.out 3) | ((with_reducible refine gate_callee (f := 79) rfl ?_); refine goesL_ (some 6) rfl rfl Try.func79 (by kernel_rfl) rfl #[.agg #[.slice A0_0 l0_0.length c0_0, .slice A0_1 l0_1.length c0_1, .slice A0_2 l0_2.length c0_2, .int .i64 a0_3]] rfl (by (try simp only [List.map_toArray, List.map_cons, List.map_nil]); rfl) ?_; (with_reducible refine (impl_keysIn.calls _ _ l0_0 _ _ l0_1 _ _ l0_2 a0_3 t364 _ ?side1 ?side2 ?side3 ?side4 ?side5 ?side6 A3.out).mono ?_); (case side1 => repeat (exact (Kd.C_below HR0_0.out HB.out))); (case side2 => exact HC0_0.out); (case side3 => repeat (exact (Kd.C_below HR0_1.out HB.out))); (case side4 => exact HC0_1.out); (case side5 => repeat (exact (Kd.C_below HR0_2.out HB.out))); (case side6 => exact HC0_2.out); rintro e w7 ⟨v365, rfl, ho0, hb⟩; refine ⟨_, rfl, ?_⟩; have n0_ := Aside0.mk (Kd.R_lower ho0 (below_size (by repeat ((with_reducible exact HB.out))))); have n1_ := Aside0.mk (blk_below (g := gb363) (o := .cells #[.slice A0_0 l0_0.length c0_0, .slice A0_1 l0_1.length c0_1, .slice A0_2 l0_2.length c0_2, .int .i64 a0_3] 43 (0, 0)) (by (with_reducible repeat (first | refine blk_drewN ?_ _ | refine blk_drew ?_ | refine blk_alloc ?_ _ )); exact BK363.out) hb); have n2_ := Aside0.mk (below_step (by repeat ((with_reducible exact HB.out))) hb); clear BK363; clear HB; have HO366 := n0_; have BK363 := n1_; have HB := n2_; clear n0_ n1_ n2_; (try clear hb); (try clear hb2); (try clear hk); (try clear hi); (try clear ho0); obtain ⟨Ao8, co8, eo8⟩ := Kd.R_slice HO366.out; subst eo8) | ((with_reducible refine gate_callee (f := 78) rfl ?_); refine goesL_ (some 8) rfl rfl Try.func78 (by kernel_rfl) rfl #[.slice Ao8 t364.length co8, .string a1] rfl (by (try simp only [List.map_toArray, List.map_cons, List.map_nil]); rfl) ?_; (with_reducible refine (slices_Contains_string_string.calls k _ _ t364 a1 t367 _ ?side1 ?side2 A4.out).mono ?_); (case side1 => repeat (exact (Kd.R_reads' HO366.out).2.2)); (case side2 => exact (Kd.R_reads' HO366.out).2.1); rintro e w' ⟨rfl, ⟨nd, rfl⟩⟩; refine ⟨_, rfl, ?_⟩))
  go_ret
  exact ⟨by rfl, by repeat ((with_reducible first | exact HB.out | apply pw_below_drewN))⟩
def impl_isKey.f (a0 : ByteArray) : Option (Bool) := (impl_within.f (a0.size : Int) 1 30).bind fun t424 => (some t424)
set_option maxHeartbeats 8000000 in
set_option maxRecDepth 100000 in
theorem impl_isKey.calls (a0 : ByteArray) (r : Bool) (w : World) (h : impl_isKey.f a0 = some r) :
    Calls Try.prog 81 #[.string a0] w fun e w' => e = .returned (.bool r) ∧ w = w' := by
  have H : ((impl_within.f (a0.size : Int) 1 30).bind fun t424 => (some t424)) = some r := h
  clear h
  replace H := Option.bind_eq_some_iff.mp H
  obtain ⟨t424, A20, H⟩ := H
  replace H : (some t424) = some r := H
  have A2 := Aside0.mk A20
  clear A20
  obtain rfl := Option.some.inj H
  go_enter Try.func81, Try.ntmps81
  go_wp2_with (((with_reducible refine gate_callee (f := 67) rfl ?_); refine goesL_ (some 5) rfl rfl Try.func67 (by kernel_rfl) rfl #[.int .i64 (a0.size : Int), .int .i64 1, .int .i64 30] rfl (by (try simp only [List.map_toArray, List.map_cons, List.map_nil]); rfl) ?_; (with_reducible refine (impl_within.calls (a0.size : Int) 1 30 t424 _ A2.out).mono ?_); rintro e w' ⟨rfl, rfl⟩; refine ⟨_, rfl, ?_⟩))
  go_ret
  exact ⟨by rfl, rfl⟩
def impl_PolicyOk.l0 : Nat → List ByteArray → List ByteArray → Int → Int → List ByteArray → List ByteArray → List (List Int) → Int → Option (Bool)
  | 0, _, _, _, _, _, _, _, _ => none
  | k + 1, x3, x8, x9, x10, x426000, x426001, x426002, x426003 => if x10 < x9 then (if 0 ≤ x10 then (if x10 < (x8.length : Int) then ((impl_isKey.f (rdOf ByteArray.empty x8 x10)).bind fun t431 => (if t431 = true then (if x10 ≤ (x3.length : Int) then ((slices_Contains_string_string.f k (x3.take (x10 : Int).toNat) (rdOf ByteArray.empty x8 x10)).bind fun t436 => (if t436 = true then (some false) else (impl_PolicyOk.l0 k x3 x8 x9 (wrap64 (x10 + 1)) x426000 x426001 x426002 x426003))) else (none)) else (some false))) else (none)) else (none)) else (if (x426000.length : Int) ≤ 2 then (if (x426001.length : Int) ≤ 4 then ((impl_SketchOk.f k x426002 x426003).bind fun t429 => (some t429)) else (some false)) else (some false))
def impl_PolicyOk.f (k : Nat) (l0_0 : List ByteArray) (l0_1 : List ByteArray) (l0_2 : List (List Int)) (a0_3 : Int) : Option (Bool) := (impl_keysIn.f l0_0 l0_1 l0_2 a0_3).bind fun t426 => (impl_PolicyOk.l0 k t426 t426 (t426.length : Int) 0 l0_0 l0_1 l0_2 a0_3)
set_option maxHeartbeats 8000000 in
set_option maxRecDepth 100000 in
theorem impl_PolicyOk.calls (k : Nat) (A0_0 : Option Addr) (c0_0 : Nat) (l0_0 : List ByteArray) (A0_1 : Option Addr) (c0_1 : Nat) (l0_1 : List ByteArray) (A0_2 : Option Addr) (c0_2 : Nat) (l0_2 : List (List Int)) (a0_3 : Int) (r : Bool) (w : World) (hr0_0 : Kd.C Kd.string w A0_0 l0_0.length l0_0) (hc0_0 : l0_0.length ≤ c0_0) (hr0_1 : Kd.C Kd.string w A0_1 l0_1.length l0_1) (hc0_1 : l0_1.length ≤ c0_1) (hr0_2 : Kd.C (Kd.slice 3 (Kd.int .i64)) w A0_2 l0_2.length l0_2) (hc0_2 : l0_2.length ≤ c0_2) (h : impl_PolicyOk.f k l0_0 l0_1 l0_2 a0_3 = some r) :
    Calls Try.prog 43 #[.agg #[.slice A0_0 l0_0.length c0_0, .slice A0_1 l0_1.length c0_1, .slice A0_2 l0_2.length c0_2, .int .i64 a0_3]] w fun e w' => e = .returned (.bool r) ∧ Below w.heap.size w w' := by
  have hu43 := Try.underlying43
  have hu26 := Try.underlying26
  have HR0_0 := Aside0.mk hr0_0
  have HC0_0 := Aside0.mk hc0_0
  clear hr0_0 hc0_0
  have HR0_1 := Aside0.mk hr0_1
  have HC0_1 := Aside0.mk hc0_1
  clear hr0_1 hc0_1
  have HR0_2 := Aside0.mk hr0_2
  have HC0_2 := Aside0.mk hc0_2
  clear hr0_2 hc0_2
  have HB := Aside0.mk (Below.refl w.heap.size w)
  have H : ((impl_keysIn.f l0_0 l0_1 l0_2 a0_3).bind fun t426 => (impl_PolicyOk.l0 k t426 t426 (t426.length : Int) 0 l0_0 l0_1 l0_2 a0_3)) = some r := h
  clear h
  replace H := Option.bind_eq_some_iff.mp H
  obtain ⟨t426, A20, H⟩ := H
  replace H : (impl_PolicyOk.l0 k t426 t426 (t426.length : Int) 0 l0_0 l0_1 l0_2 a0_3) = some r := H
  have A2 := Aside0.mk A20
  clear A20
  have H' := Aside0.mk H
  clear H
  go_enter Try.func43, Try.ntmps43
  go_wp2_with (first | ((with_reducible refine gate_dst (N := 1) rfl ?_); (try (refine gate_guard (by rfl) ?_; dsimp only)); refine box_event ?hg (N := 1) ?hd (cs := #[.slice A0_0 l0_0.length c0_0, .slice A0_1 l0_1.length c0_1, .slice A0_2 l0_2.length c0_2, .int .i64 a0_3]) (t := 43) ?hr ?_; (case hd => rfl); (case hg => rfl); (case hr => (go_simp; done)); intro gb425 hg w3 hbox hb; have n0_ := Aside0.mk (below_step (by repeat ((with_reducible exact HB.out))) hb); have n1_ := Aside0.mk (hbox); have n2_ := Aside0.mk ((by rw [hg]; exact (below_size (by repeat ((with_reducible exact HB.out)))) : w.heap.size ≤ gb425)); have n3_ := Aside0.mk ((by rw [hg]; exact (below_size (by repeat ((with_reducible exact HB.out)))) : w.heap.size ≤ gb425)); clear HB; have HB := n0_; have BK425 := n1_; have GW425 := n2_; have GE425 := n3_; clear n0_ n1_ n2_ n3_; clear hb hbox hg; have hcz4_0 : w3.cell? ⟨gb425, 0, none⟩ = some (.slice A0_0 l0_0.length c0_0) := (blk_cell BK425.out 0).trans rfl; have hcz4_1 : w3.cell? ⟨gb425, 1, none⟩ = some (.slice A0_1 l0_1.length c0_1) := (blk_cell BK425.out 1).trans rfl; have hcz4_2 : w3.cell? ⟨gb425, 2, none⟩ = some (.slice A0_2 l0_2.length c0_2) := (blk_cell BK425.out 2).trans rfl; have hcz4_3 : w3.cell? ⟨gb425, 3, none⟩ = some (.int .i64 a0_3) := (blk_cell BK425.out 3).trans rfl; have hfz4_0 := blk_frozen BK425.out 0; have hfz4_1 := blk_frozen BK425.out 1; have hfz4_2 := blk_frozen BK425.out 2; have hfz4_3 := blk_frozen BK425.out 3) | ((with_reducible refine gate_callee (f := 79) rfl ?_); refine goesL_ (some 7) rfl rfl Try.func79 (by kernel_rfl) rfl #[.agg #[.slice A0_0 l0_0.length c0_0, .slice A0_1 l0_1.length c0_1, .slice A0_2 l0_2.length c0_2, .int .i64 a0_3]] rfl (by (try simp only [List.map_toArray, List.map_cons, List.map_nil]); rfl) ?_; (with_reducible refine (impl_keysIn.calls _ _ l0_0 _ _ l0_1 _ _ l0_2 a0_3 t426 _ ?side1 ?side2 ?side3 ?side4 ?side5 ?side6 A2.out).mono ?_); (case side1 => repeat (exact (Kd.C_below HR0_0.out HB.out))); (case side2 => exact HC0_0.out); (case side3 => repeat (exact (Kd.C_below HR0_1.out HB.out))); (case side4 => exact HC0_1.out); (case side5 => repeat (exact (Kd.C_below HR0_2.out HB.out))); (case side6 => exact HC0_2.out); rintro e w5 ⟨v427, rfl, ho0, hb⟩; refine ⟨_, rfl, ?_⟩; have n0_ := Aside0.mk (Kd.R_lower ho0 (below_size (by repeat ((with_reducible exact HB.out))))); have n1_ := Aside0.mk (blk_below (g := gb425) (o := .cells #[.slice A0_0 l0_0.length c0_0, .slice A0_1 l0_1.length c0_1, .slice A0_2 l0_2.length c0_2, .int .i64 a0_3] 43 (0, 0)) (by (with_reducible repeat (first | refine blk_drewN ?_ _ | refine blk_drew ?_ | refine blk_alloc ?_ _ )); exact BK425.out) hb); have n2_ := Aside0.mk (below_step (by repeat ((with_reducible exact HB.out))) hb); clear BK425; clear HB; have HO428 := n0_; have BK425 := n1_; have HB := n2_; clear n0_ n1_ n2_; (try clear hb); (try clear hb2); (try clear hk); (try clear hi); (try clear ho0); obtain ⟨Ao6, co6, eo6⟩ := Kd.R_slice HO428.out; subst eo6))
  go_loopg [10] k (fun kq v10 w' => ∃ (x10_1 : Int), v10 = .int .i64 x10_1 ∧ Aside0 (impl_PolicyOk.l0 kq t426 t426 (t426.length : Int) x10_1 l0_0 l0_1 l0_2 a0_3 = some r) ∧ Aside0 (kq ≤ k) ∧ Aside0 (Kd.R Kd.string 9 w' w.heap.size (fun _ => True) (.slice Ao6 t426.length co6) t426) ∧ Aside0 (Kd.R Kd.string 9 w' w.heap.size (fun _ => True) (.slice Ao6 t426.length co6) t426) ∧ Aside0 (w'.heap[gb425]? = some (.cells #[(.slice A0_0 l0_0.length c0_0), (.slice A0_1 l0_1.length c0_1), (.slice A0_2 l0_2.length c0_2), .int .i64 a0_3] 43 (0, 0))) ∧ Aside0 (Below w.heap.size w w'))
  case atStart => exact ⟨(0), (by rfl), H', ⟨Nat.le_refl _⟩, ⟨by (with_reducible repeat (first | apply Kd.R_alloc | apply Kd.R_drewN | apply Kd.R_drew )); exact HO428.out⟩, ⟨by (with_reducible repeat (first | apply Kd.R_alloc | apply Kd.R_drewN | apply Kd.R_drew )); exact HO428.out⟩, ⟨by (with_reducible repeat (first | refine blk_drewN ?_ _ | refine blk_drew ?_ | refine blk_alloc ?_ _ )); exact BK425.out⟩, ⟨by repeat ((with_reducible exact HB.out))⟩⟩
  case round =>
    clear H'
    clear hcz4_0
    clear hcz4_1
    clear hcz4_2
    clear hcz4_3
    clear hfz4_0
    clear hfz4_1
    clear hfz4_2
    clear hfz4_3
    obtain ⟨x10_1, rfl, HA, HK1, HO_3, HO_8, BK425, HB⟩ := hrel
    cases gk with
    | zero => exact absurd HA.out (by simp [impl_PolicyOk.l0])
    | succ k1 =>
      have H := HA.out
      clear HA
      simp only [impl_PolicyOk.l0] at H
      by_cases c7 : x10_1 < (t426.length : Int)
      · rw [if_pos c7] at H
        have c7b0 : decide (x10_1 < (t426.length : Int)) = true := decide_eq_true c7
        clear c7
        by_cases c8 : 0 ≤ x10_1
        · rw [if_pos c8] at H
          have c8b0 : decide (0 ≤ x10_1) = true := decide_eq_true c8
          clear c8
          by_cases c9 : x10_1 < (t426.length : Int)
          · rw [if_pos c9] at H
            have c9b0 : decide (x10_1 < (t426.length : Int)) = true := decide_eq_true c9
            clear c9
            replace H := Option.bind_eq_some_iff.mp H
            obtain ⟨t431, A100, H⟩ := H
            replace H : (if t431 = true then (if x10_1 ≤ (t426.length : Int) then ((slices_Contains_string_string.f k1 (t426.take (x10_1 : Int).toNat) (rdOf ByteArray.empty t426 x10_1)).bind fun t436 => (if t436 = true then (some false) else (impl_PolicyOk.l0 k1 t426 t426 (t426.length : Int) (wrap64 (x10_1 + 1)) l0_0 l0_1 l0_2 a0_3))) else (none)) else (some false)) = some r := H
            have A10 := Aside0.mk A100
            clear A100
            by_cases c11 : t431 = true
            · subst c11
              have H1 : (if x10_1 ≤ (t426.length : Int) then ((slices_Contains_string_string.f k1 (t426.take (x10_1 : Int).toNat) (rdOf ByteArray.empty t426 x10_1)).bind fun t436 => (if t436 = true then (some false) else (impl_PolicyOk.l0 k1 t426 t426 (t426.length : Int) (wrap64 (x10_1 + 1)) l0_0 l0_1 l0_2 a0_3))) else (none)) = some r := by rw [if_pos rfl] at H; exact H
              clear H
              have H := H1
              clear H1
              have c12b0 := eq_true (of_decide_eq_true (by (with_reducible assumption)) : 0 ≤ x10_1)
              by_cases c13 : x10_1 ≤ (t426.length : Int)
              · rw [if_pos c13] at H
                have c13b0 := eq_true c13
                have c13b1 : decide (x10_1 ≤ (t426.length : Int)) = true := decide_eq_true c13
                clear c13
                obtain ⟨y432, hy432⟩ : ∃ y_ : List ByteArray, y_ = (t426.take (x10_1 : Int).toNat) := ⟨_, rfl⟩
                replace H : ((slices_Contains_string_string.f k1 y432 (rdOf ByteArray.empty t426 x10_1)).bind fun t436 => (if t436 = true then (some false) else (impl_PolicyOk.l0 k1 t426 t426 (t426.length : Int) (wrap64 (x10_1 + 1)) l0_0 l0_1 l0_2 a0_3))) = some r := by (rw [hy432]; with_reducible exact H)
                have Ny432 := Aside0.mk hy432
                clear hy432
                replace H := Option.bind_eq_some_iff.mp H
                obtain ⟨t436, A140, H⟩ := H
                replace H : (if t436 = true then (some false) else (impl_PolicyOk.l0 k1 t426 t426 (t426.length : Int) (wrap64 (x10_1 + 1)) l0_0 l0_1 l0_2 a0_3)) = some r := H
                have A14 := Aside0.mk A140
                clear A140
                have HS15 := Aside0.mk H
                clear H
                have p430 : 0 ≤ (x10_1 : Int) := of_decide_eq_true (by (with_reducible assumption))
                have q430 : x10_1 < (t426.length : Int) := of_decide_eq_true (by (with_reducible assumption))
                obtain ⟨ad430, e430, hx430_0⟩ := Kd.at_string (Kd.R_reads' HO_8.out).2.2 x10_1 p430 q430
                cases e430
                replace p430 := eq_true p430
                replace q430 := eq_true q430
                go_upto_if 24 with (first | ((with_reducible refine gate_callee (f := 81) rfl ?_); refine goesL_ (some 16) rfl rfl Try.func81 (by kernel_rfl) rfl #[.string (rdOf ByteArray.empty t426 x10_1)] rfl (by (try simp only [List.map_toArray, List.map_cons, List.map_nil]); rfl) ?_; (with_reducible refine (impl_isKey.calls (rdOf ByteArray.empty t426 x10_1) true _ A10.out).mono ?_); rintro e w' ⟨rfl, rfl⟩; refine ⟨_, rfl, ?_⟩; have q16 : (x10_1 : Int) ≤ ((t426.length : Int) : Int) := of_decide_eq_true (by (with_reducible assumption)); obtain ⟨i016, hi016, _, hsz16, _⟩ := info_parts info9; have hroom16 : t426.length ≤ co6 := (Kd.R_reads' HO_3.out).2.1; have hC16 : Kd.C Kd.string _ (some ad430) t426.length t426 := (Kd.R_reads' HO_3.out).2.2; have hcut16 := cut_to (P := Try.prog) 38 9 .i64 Try.underlying38 hi016 (some ad430) t426.length co6 x10_1 (of_decide_eq_true (by (with_reducible assumption))) q16 hroom16; have hr16 := Kd.C_take (m := (x10_1 : Int).toNat) hC16 (by omega); have hy16 : y432.length = (x10_1 : Int).toNat := (by rw [Ny432.out, List.length_take]; omega); rw [← Ny432.out] at hr16; rw [← hy16] at hcut16; have HR435 := Aside0.mk hr16; have HC435 := Aside0.mk (show y432.length ≤ co6 from by omega); clear hr16 hC16 hroom16 hi016 hsz16; have KY16 := Aside0.mk hy16; clear hy16; have KL16 := Aside0.mk (show (x10_1 : Int).toNat ≤ t426.length from by omega); replace q16 := eq_true q16) | (go_at_call 78; (with_reducible refine (slices_Contains_string_string.calls k1 _ _ y432 (rdOf ByteArray.empty t426 x10_1) t436 _ ?side1 ?side2 A14.out).mono ?_); (case side1 => repeat (exact (by repeat ((with_reducible exact HR435.out))))); (case side2 => exact HC435.out); rintro e w' ⟨rfl, ⟨nd, rfl⟩⟩))
                (try simp only [Act.put, List.setIfInBounds_toArray, List.set_cons_zero, List.set_cons_succ])
                have H := HS15.out
                clear HS15
                by_cases c17 : t436 = true
                · subst c17
                  have H1 : (some false) = some r := by rw [if_pos rfl] at H; exact H
                  clear H
                  have H := H1
                  clear H1
                  obtain rfl := Option.some.inj H
                  go_wp2
                  go_ret
                  exact ⟨by rfl, by repeat ((with_reducible first | exact HB.out | apply pw_below_drewN))⟩
                · replace c17 := Bool.eq_false_iff.mpr c17
                  subst c17
                  have H1 : (impl_PolicyOk.l0 k1 t426 t426 (t426.length : Int) (wrap64 (x10_1 + 1)) l0_0 l0_1 l0_2 a0_3) = some r := by rw [if_neg (show ¬ (false = true) by decide)] at H; exact H
                  clear H
                  have H := H1
                  clear H1
                  have H' := Aside0.mk H
                  clear H
                  go_wp2
                  go_roundg k1
                  case measure => have := HK1.out; omega
                  case rel => exact ⟨(wrap64 (x10_1 + 1)), (by rfl), H', ⟨by have := HK1.out; omega⟩, ⟨by (with_reducible repeat (apply Kd.R_drewN)); exact HO_3.out⟩, ⟨by (with_reducible repeat (apply Kd.R_drewN)); exact HO_8.out⟩, ⟨by (with_reducible repeat (refine blk_drewN ?_ _)); exact BK425.out⟩, ⟨by repeat ((with_reducible first | exact HB.out | apply pw_below_drewN))⟩⟩
              · rw [if_neg c13] at H
                exact absurd H (by simp)
            · replace c11 := Bool.eq_false_iff.mpr c11
              subst c11
              have H1 : (some false) = some r := by rw [if_neg (show ¬ (false = true) by decide)] at H; exact H
              clear H
              have H := H1
              clear H1
              obtain rfl := Option.some.inj H
              have p430 : 0 ≤ (x10_1 : Int) := of_decide_eq_true (by (with_reducible assumption))
              have q430 : x10_1 < (t426.length : Int) := of_decide_eq_true (by (with_reducible assumption))
              obtain ⟨ad430, e430, hx430_0⟩ := Kd.at_string (Kd.R_reads' HO_8.out).2.2 x10_1 p430 q430
              cases e430
              replace p430 := eq_true p430
              replace q430 := eq_true q430
              go_wp2_with (((with_reducible refine gate_callee (f := 81) rfl ?_); refine goesL_ (some 16) rfl rfl Try.func81 (by kernel_rfl) rfl #[.string (rdOf ByteArray.empty t426 x10_1)] rfl (by (try simp only [List.map_toArray, List.map_cons, List.map_nil]); rfl) ?_; (with_reducible refine (impl_isKey.calls (rdOf ByteArray.empty t426 x10_1) false _ A10.out).mono ?_); rintro e w' ⟨rfl, rfl⟩; refine ⟨_, rfl, ?_⟩))
              go_ret
              exact ⟨by rfl, by repeat ((with_reducible exact HB.out))⟩
          · rw [if_neg c9] at H
            exact absurd H (by simp)
        · rw [if_neg c8] at H
          exact absurd H (by simp)
      · rw [if_neg c7] at H
        have c7b0 : decide (x10_1 < (t426.length : Int)) = false := decide_eq_false c7
        clear c7
        by_cases c18 : (l0_0.length : Int) ≤ 2
        · rw [if_pos c18] at H
          have c18b0 : decide ((l0_0.length : Int) ≤ 2) = true := decide_eq_true c18
          have c18b1 : decide (l0_0.length ≤ 2) = true := decide_eq_true (by omega)
          clear c18
          by_cases c19 : (l0_1.length : Int) ≤ 4
          · rw [if_pos c19] at H
            have c19b0 : decide ((l0_1.length : Int) ≤ 4) = true := decide_eq_true c19
            have c19b1 : decide (l0_1.length ≤ 4) = true := decide_eq_true (by omega)
            clear c19
            replace H := Option.bind_eq_some_iff.mp H
            obtain ⟨t429, A200, H⟩ := H
            replace H : (some t429) = some r := H
            have A20 := Aside0.mk A200
            clear A200
            obtain rfl := Option.some.inj H
            have hcz21_0 : wr.cell? ⟨gb425, 0, none⟩ = some (.slice A0_0 l0_0.length c0_0) := (blk_cell BK425.out 0).trans rfl
            have hcz21_1 : wr.cell? ⟨gb425, 1, none⟩ = some (.slice A0_1 l0_1.length c0_1) := (blk_cell BK425.out 1).trans rfl
            have hcz21_2 : wr.cell? ⟨gb425, 2, none⟩ = some (.slice A0_2 l0_2.length c0_2) := (blk_cell BK425.out 2).trans rfl
            have hcz21_3 : wr.cell? ⟨gb425, 3, none⟩ = some (.int .i64 a0_3) := (blk_cell BK425.out 3).trans rfl
            have hfz21_0 := blk_frozen BK425.out 0
            have hfz21_1 := blk_frozen BK425.out 1
            have hfz21_2 := blk_frozen BK425.out 2
            have hfz21_3 := blk_frozen BK425.out 3
            go_wp2_with ((go_at_call 27; (with_reducible refine (impl_SketchOk.calls k1 _ _ l0_2 a0_3 t429 _ ?side1 ?side2 A20.out).mono ?_); (case side1 => repeat (exact (Kd.C_below HR0_2.out HB.out))); (case side2 => exact HC0_2.out); rintro e w22 ⟨rfl, hb⟩; have n0_ := Aside0.mk (Kd.R_below (by (with_reducible repeat (first | apply Kd.R_alloc | apply Kd.R_drewN | apply Kd.R_drew )); exact HO_3.out) hb); have n1_ := Aside0.mk (Kd.R_below (by (with_reducible repeat (first | apply Kd.R_alloc | apply Kd.R_drewN | apply Kd.R_drew )); exact HO_8.out) hb); have n2_ := Aside0.mk (blk_below (g := gb425) (o := .cells #[.slice A0_0 l0_0.length c0_0, .slice A0_1 l0_1.length c0_1, .slice A0_2 l0_2.length c0_2, .int .i64 a0_3] 43 (0, 0)) (by (with_reducible repeat (first | refine blk_drewN ?_ _ | refine blk_drew ?_ | refine blk_alloc ?_ _ )); exact BK425.out) hb); have n3_ := Aside0.mk (below_step (by repeat ((with_reducible exact HB.out))) hb); clear HO_3; clear HO_8; clear BK425; clear HB; have HO_3 := n0_; have HO_8 := n1_; have BK425 := n2_; have HB := n3_; clear n0_ n1_ n2_ n3_; (try clear hb); (try clear hb2); (try clear hk); (try clear hi)))
            go_ret
            exact ⟨by rfl, by repeat ((with_reducible exact HB.out))⟩
          · rw [if_neg c19] at H
            have c19b0 : decide ((l0_1.length : Int) ≤ 4) = false := decide_eq_false c19
            have c19b1 : decide (l0_1.length ≤ 4) = false := decide_eq_false (by omega)
            clear c19
            obtain rfl := Option.some.inj H
            have hcz23_0 : wr.cell? ⟨gb425, 0, none⟩ = some (.slice A0_0 l0_0.length c0_0) := (blk_cell BK425.out 0).trans rfl
            have hcz23_1 : wr.cell? ⟨gb425, 1, none⟩ = some (.slice A0_1 l0_1.length c0_1) := (blk_cell BK425.out 1).trans rfl
            have hcz23_2 : wr.cell? ⟨gb425, 2, none⟩ = some (.slice A0_2 l0_2.length c0_2) := (blk_cell BK425.out 2).trans rfl
            have hcz23_3 : wr.cell? ⟨gb425, 3, none⟩ = some (.int .i64 a0_3) := (blk_cell BK425.out 3).trans rfl
            have hfz23_0 := blk_frozen BK425.out 0
            have hfz23_1 := blk_frozen BK425.out 1
            have hfz23_2 := blk_frozen BK425.out 2
            have hfz23_3 := blk_frozen BK425.out 3
            go_wp2
            go_ret
            exact ⟨by rfl, by repeat ((with_reducible exact HB.out))⟩
        · rw [if_neg c18] at H
          have c18b0 : decide ((l0_0.length : Int) ≤ 2) = false := decide_eq_false c18
          have c18b1 : decide (l0_0.length ≤ 2) = false := decide_eq_false (by omega)
          clear c18
          obtain rfl := Option.some.inj H
          have hcz24_0 : wr.cell? ⟨gb425, 0, none⟩ = some (.slice A0_0 l0_0.length c0_0) := (blk_cell BK425.out 0).trans rfl
          have hcz24_1 : wr.cell? ⟨gb425, 1, none⟩ = some (.slice A0_1 l0_1.length c0_1) := (blk_cell BK425.out 1).trans rfl
          have hcz24_2 : wr.cell? ⟨gb425, 2, none⟩ = some (.slice A0_2 l0_2.length c0_2) := (blk_cell BK425.out 2).trans rfl
          have hcz24_3 : wr.cell? ⟨gb425, 3, none⟩ = some (.int .i64 a0_3) := (blk_cell BK425.out 3).trans rfl
          have hfz24_0 := blk_frozen BK425.out 0
          have hfz24_1 := blk_frozen BK425.out 1
          have hfz24_2 := blk_frozen BK425.out 2
          have hfz24_3 := blk_frozen BK425.out 3
          go_wp2
          go_ret
          exact ⟨by rfl, by repeat ((with_reducible exact HB.out))⟩
def impl_copyTexts.f (l0 : List ByteArray) : Option (List ByteArray) := (some (([] : List ByteArray) : List ByteArray)).bind fun y510 => (if y510.length + l0.length < 8796093022208 then (some (y510 ++ l0)) else (none))
set_option maxHeartbeats 8000000 in
set_option maxRecDepth 100000 in
theorem impl_copyTexts.calls (A0 : Option Addr) (c0 : Nat) (l0 : List ByteArray) (r : List ByteArray) (w : World) (hr0 : Kd.C Kd.string w A0 l0.length l0) (hc0 : l0.length ≤ c0) (h : impl_copyTexts.f l0 = some r) :
    Calls Try.prog 111 #[.slice A0 l0.length c0] w fun e w' => ∃ v0_ : Value, e = .returned (v0_) ∧ Kd.R Kd.string 9 w' w.heap.size (fun _ => True) v0_ r ∧ Below w.heap.size w w' := by
  have HR0 := Aside0.mk hr0
  have HC0 := Aside0.mk hc0
  clear hr0 hc0
  have HB := Aside0.mk (Below.refl w.heap.size w)
  have H : ((some (([] : List ByteArray) : List ByteArray)).bind fun y510 => (if y510.length + l0.length < 8796093022208 then (some (y510 ++ l0)) else (none))) = some r := h
  clear h
  obtain ⟨y510, hy510⟩ : ∃ y_ : List ByteArray, y_ = (([] : List ByteArray)) := ⟨_, rfl⟩
  replace H : (if y510.length + l0.length < 8796093022208 then (some (y510 ++ l0)) else (none)) = some r := by (have H2_ := (Option.bind_some _ _).symm.trans H; rw [hy510]; with_reducible exact H2_)
  have Ny510 := Aside0.mk hy510
  clear hy510
  by_cases c2 : y510.length + l0.length < 8796093022208
  · rw [if_pos c2] at H
    have LMc2 := Aside0.mk c2
    clear c2
    obtain ⟨y513, hy513⟩ : ∃ y_ : List ByteArray, y_ = (y510 ++ l0) := ⟨_, rfl⟩
    replace H : (some y513) = some r := by (rw [hy513]; with_reducible exact H)
    have Ny513 := Aside0.mk hy513
    clear hy513
    obtain rfl := Option.some.inj H
    go_enter Try.func111, Try.ntmps111
    go_wp2_with (first | ((with_reducible refine gate_dst (N := 3) rfl ?_); refine Kd.R_lit Kd.string _ 9 ?hg (N := 3) ?hd (xs := ([] : List ByteArray)) (inner := []) (ok := fun _ => True) (okp := fun _ => True) ?hr ?hp (fun _ hk => hk) trivial (Below.refl _ _) (Nat.le_refl _) (by simp) ?_; (case hd => rfl); (case hg => rfl); (case hr => (go_simp; done)); (case hp => exact (Reps.none _ _)); intro v511 w3 ho4 hb hg_ hnew_; clear hg_ hnew_; (rw [← Ny510.out] at ho4); have n0_ := Aside0.mk (Kd.R_lower ho4 (below_size (by repeat ((with_reducible exact HB.out))))); have n1_ := Aside0.mk (below_step (by repeat ((with_reducible exact HB.out))) hb); clear HB; have HO512 := n0_; have HB := n1_; clear n0_ n1_; clear hb ho4) | ((with_reducible refine gate_builtin (b := .append) (xs := #[.tmp 3, .tmp 4]) rfl ?_); at_builtin; refine Kd.R_append_rows Kd.string (w0 := w) w.heap.size rfl (.tmp 3) (.tmp 4) 38 9 (.string ⟨#[]⟩) 16 rfl Try.underlying38 info9 rfl (by decide) (by omega) v511 y510 l0 _ _ _ (fun _ => True) (fun _ => False) rfl rfl ?aO ?aR (fun _ _ h => h) (fun _ h => h.elim) ?aF ?aB ?aS ?aL ?_; (case aR => repeat (exact (Kd.C_below HR0.out HB.out))); (case aB => exact (by repeat ((with_reducible exact HB.out)))); (case aF => exact (fun _ _ => trivial)); (case aO => exact (by (with_reducible repeat (first | apply Kd.R_alloc | apply Kd.R_drewN | apply Kd.R_drew )); exact HO512.out)); (case aS => exact (below_size (by repeat ((with_reducible exact HB.out))))); (case aL => have := LMc2.out; omega); intro v514 w5 ho hb hg hat; rw [← Ny513.out] at ho; have n0_ := Aside0.mk (hb); have n1_ := Aside0.mk (ho); clear HB; clear HO512; have HB := n0_; have HO515 := n1_; clear n0_ n1_; clear ho hb hg hat))
    go_ret
    exact ⟨_, by rfl, by (with_reducible repeat (first | apply Kd.R_alloc | apply Kd.R_drewN | apply Kd.R_drew )); exact HO515.out, by repeat ((with_reducible exact HB.out))⟩
  · rw [if_neg c2] at H
    exact absurd H (by simp)
def impl_copyPolicy.f (k : Nat) (l0_0 : List ByteArray) (l0_1 : List ByteArray) (l0_2 : List (List Int)) (a0_3 : Int) : Option (List ByteArray × List ByteArray × (List (List Int)) × Int) := (impl_copyTexts.f l0_0).bind fun t518 => ((impl_copyTexts.f l0_1).bind fun t521 => ((impl_copySketch.f k l0_2 a0_3).bind fun bt524 => (some (t518, t521, bt524.1, bt524.2))))
def impl_copyPolicy.T1 : Bool × List (List Nat × List Nat) := (true, [([], []), ([0], [0]), ([1], [1]), ([], []), ([3], [3]), ([4, 2], [4]), ([], []), ([6], [6]), ([7, 5], [7]), ([2, 5, 8], [2, 5, 8]), ([9, 8, 0, 1, 2, 3, 4, 5, 6, 7, 8, 9], [9])])
def impl_copyPolicy.B1 : List Nat := [0, 1, 3, 0, 8, 31, 0, 64, 255, 511, 1023]
theorem impl_copyPolicy.tab1 : rtab .any (opsOf Try.f83 1) = impl_copyPolicy.T1 := by kernel_rfl
theorem impl_copyPolicy.bits1 : waitsOk impl_copyPolicy.T1.2 impl_copyPolicy.B1 = true := by kernel_rfl
set_option maxHeartbeats 8000000 in
set_option maxRecDepth 100000 in
theorem impl_copyPolicy.calls (k : Nat) (A0_0 : Option Addr) (c0_0 : Nat) (l0_0 : List ByteArray) (A0_1 : Option Addr) (c0_1 : Nat) (l0_1 : List ByteArray) (A0_2 : Option Addr) (c0_2 : Nat) (l0_2 : List (List Int)) (a0_3 : Int) (r1 : List ByteArray) (r2 : List ByteArray) (r3 : List (List Int)) (r4 : Int) (w : World) (hr0_0 : Kd.C Kd.string w A0_0 l0_0.length l0_0) (hc0_0 : l0_0.length ≤ c0_0) (hr0_1 : Kd.C Kd.string w A0_1 l0_1.length l0_1) (hc0_1 : l0_1.length ≤ c0_1) (hr0_2 : Kd.C (Kd.slice 3 (Kd.int .i64)) w A0_2 l0_2.length l0_2) (hc0_2 : l0_2.length ≤ c0_2) (h : impl_copyPolicy.f k l0_0 l0_1 l0_2 a0_3 = some (r1, r2, r3, r4)) :
    Calls Try.prog 83 #[.agg #[.slice A0_0 l0_0.length c0_0, .slice A0_1 l0_1.length c0_1, .slice A0_2 l0_2.length c0_2, .int .i64 a0_3]] w fun e w' => ∃ v0_ v1_ v2_ : Value, e = .returned (.agg #[v0_, v1_, v2_, .int .i64 r4]) ∧ Kd.R Kd.string 9 w' w.heap.size (fun k_ => some k_ ≠ (v1_ : Value).ownBlock) v0_ r1 ∧ Kd.R Kd.string 9 w' w.heap.size (fun k_ => some k_ ≠ (v0_ : Value).ownBlock) v1_ r2 ∧ Kd.S (Kd.slice 3 (Kd.int .i64)) 58 w' w.heap.size (fun _ => True) v2_ r3 ∧ Below w.heap.size w w' := by
  have hu43 := Try.underlying43
  have hu26 := Try.underlying26
  have HR0_0 := Aside0.mk hr0_0
  have HC0_0 := Aside0.mk hc0_0
  clear hr0_0 hc0_0
  have HR0_1 := Aside0.mk hr0_1
  have HC0_1 := Aside0.mk hc0_1
  clear hr0_1 hc0_1
  have HR0_2 := Aside0.mk hr0_2
  have HC0_2 := Aside0.mk hc0_2
  clear hr0_2 hc0_2
  have HB := Aside0.mk (Below.refl w.heap.size w)
  have H : ((impl_copyTexts.f l0_0).bind fun t518 => ((impl_copyTexts.f l0_1).bind fun t521 => ((impl_copySketch.f k l0_2 a0_3).bind fun bt524 => (some (t518, t521, bt524.1, bt524.2))))) = some (r1, r2, r3, r4) := h
  clear h
  replace H := Option.bind_eq_some_iff.mp H
  obtain ⟨t518, A20, H⟩ := H
  replace H : ((impl_copyTexts.f l0_1).bind fun t521 => ((impl_copySketch.f k l0_2 a0_3).bind fun bt524 => (some (t518, t521, bt524.1, bt524.2)))) = some (r1, r2, r3, r4) := H
  have A2 := Aside0.mk A20
  clear A20
  replace H := Option.bind_eq_some_iff.mp H
  obtain ⟨t521, A30, H⟩ := H
  replace H : ((impl_copySketch.f k l0_2 a0_3).bind fun bt524 => (some (t518, t521, bt524.1, bt524.2))) = some (r1, r2, r3, r4) := H
  have A3 := Aside0.mk A30
  clear A30
  replace H := Option.bind_eq_some_iff.mp H
  obtain ⟨⟨t524, t527⟩, A40, H⟩ := H
  replace H : (some (t518, t521, t524, t527)) = some (r1, r2, r3, r4) := H
  have A4 := Aside0.mk A40
  clear A40
  simp only [Option.some.injEq, Prod.mk.injEq] at H
  obtain ⟨rfl, rfl, rfl, rfl⟩ := H
  go_enter Try.func83, Try.ntmps83
  go_wp2_with (first | ((with_reducible refine gate_dst (N := 1) rfl ?_); refine box_event ?hg (N := 1) ?hd (cs := #[.slice A0_0 l0_0.length c0_0, .slice A0_1 l0_1.length c0_1, .slice A0_2 l0_2.length c0_2, .int .i64 a0_3]) (t := 43) ?hr ?_; (case hd => rfl); (case hg => rfl); (case hr => (go_simp; done)); intro gb516 hg w5 hbox hb; have n0_ := Aside0.mk (below_step (by repeat ((with_reducible exact HB.out))) hb); have n1_ := Aside0.mk (hbox); have n2_ := Aside0.mk ((by rw [hg]; exact (below_size (by repeat ((with_reducible exact HB.out)))) : w.heap.size ≤ gb516)); have n3_ := Aside0.mk ((by rw [hg]; exact (below_size (by repeat ((with_reducible exact HB.out)))) : w.heap.size ≤ gb516)); clear HB; have HB := n0_; have BK516 := n1_; have GW516 := n2_; have GE516 := n3_; clear n0_ n1_ n2_ n3_; clear hb hbox hg) | ((with_reducible refine gate_dst (N := 2) rfl ?_); refine box_event ?hg (N := 2) ?hd (cs := #[.slice none 0 0, .slice none 0 0, .slice none 0 0, .int .i64 0]) (t := 43) ?hr ?_; (case hd => rfl); (case hg => rfl); (case hr => (go_simp; done)); intro gb517 hg w6 hbox hb; have n0_ := Aside0.mk (blk_below (g := gb516) (o := .cells #[.slice A0_0 l0_0.length c0_0, .slice A0_1 l0_1.length c0_1, .slice A0_2 l0_2.length c0_2, .int .i64 a0_3] 43 (0, 0)) (by (with_reducible repeat (first | refine blk_drewN ?_ _ | refine blk_drew ?_ | refine blk_alloc ?_ _ )); exact BK516.out) hb); have n1_ := Aside0.mk (below_step (by repeat ((with_reducible exact HB.out))) hb); have n2_ := Aside0.mk (hbox); have n3_ := Aside0.mk ((by rw [hg]; exact (below_size (by repeat ((with_reducible exact HB.out)))) : w.heap.size ≤ gb517)); have n4_ := Aside0.mk ((by rw [hg]; exact (below_size (by repeat ((with_reducible exact HB.out)))) : w.heap.size ≤ gb517)); have n5_ := Aside0.mk ((by rw [hg]; exact Nat.ne_of_lt (blk_lt (g := gb516) (o := .cells #[.slice A0_0 l0_0.length c0_0, .slice A0_1 l0_1.length c0_1, .slice A0_2 l0_2.length c0_2, .int .i64 a0_3] 43 (0, 0)) (by (with_reducible repeat (first | refine blk_drewN ?_ _ | refine blk_drew ?_ | refine blk_alloc ?_ _ )); exact BK516.out)) : gb516 ≠ gb517)); have n6_ := Aside0.mk ((by rw [hg]; exact Nat.ne_of_gt (blk_lt (g := gb516) (o := .cells #[.slice A0_0 l0_0.length c0_0, .slice A0_1 l0_1.length c0_1, .slice A0_2 l0_2.length c0_2, .int .i64 a0_3] 43 (0, 0)) (by (with_reducible repeat (first | refine blk_drewN ?_ _ | refine blk_drew ?_ | refine blk_alloc ?_ _ )); exact BK516.out)) : gb517 ≠ gb516)); clear BK516; clear HB; have BK516 := n0_; have HB := n1_; have BK517 := n2_; have GW517 := n3_; have GE517 := n4_; have NB516_517 := n5_; have NB517_516 := n6_; clear n0_ n1_ n2_ n3_ n4_ n5_ n6_; clear hb hbox hg))
  have n0_ := Aside0.mk (blk_drew BK516.out)
  have n1_ := Aside0.mk (blk_drew BK517.out)
  have n2_ := Aside0.mk (below_drew1 HB.out)
  clear BK516
  clear BK517
  clear HB
  have BK516 := n0_
  have BK517 := n1_
  have HB := n2_
  clear n0_ n1_ n2_
  refine start_ (n := 11) (S := fun w' => w'.cell? ⟨gb516, 0, none⟩ = some (.slice A0_0 l0_0.length c0_0) ∧ w'.cell? ⟨gb516, 1, none⟩ = some (.slice A0_1 l0_1.length c0_1) ∧ w'.cell? ⟨gb516, 2, none⟩ = some (.slice A0_2 l0_2.length c0_2) ∧ w'.cell? ⟨gb516, 3, none⟩ = some (.int .i64 a0_3)) (ds := []) #[false, false, false, false, false, false, false, false, false, false, false] (by kernel_rfl) rfl rfl ⟨(blk_cell BK516.out 0).trans rfl, (blk_cell BK516.out 1).trans rfl, (blk_cell BK516.out 2).trans rfl, (blk_cell BK516.out 3).trans rfl⟩ (fun hHeld => ?_); refine with_tabW impl_copyPolicy.tab1 impl_copyPolicy.bits1 (fun HT_ HW_ => ?_)
  generalize w6.drew = w7 at BK516 BK517 HB hHeld ⊢
  refine pure_ (i := 0) (N := some 3) (v := ?_) (a' := ?_) #[true, false, false, false, false, false, false, false, false, false, false] rfl rfl (any_of HT_.out (by kernel_rfl)) (fun _ _ _ h => h) (Or.inl ⟨by rfl, ?_⟩) ?_ ?_
  rotate_left
  · intro w'
    go_simp
    with_reducible rfl
  rotate_left
  · simp only [Act.put, List.setIfInBounds_toArray, List.set_cons_zero, List.set_cons_succ, i64_w, i32_w]
    rfl
  refine pure_ (i := 3) (N := some 6) (v := ?_) (a' := ?_) #[true, false, false, true, false, false, false, false, false, false, false] rfl rfl (any_of HT_.out (by kernel_rfl)) (fun _ _ _ h => h) (Or.inl ⟨by rfl, ?_⟩) ?_ ?_
  rotate_left
  · intro w'
    go_simp
    with_reducible rfl
  rotate_left
  · simp only [Act.put, List.setIfInBounds_toArray, List.set_cons_zero, List.set_cons_succ, i64_w, i32_w]
    rfl
  refine pure_ (i := 6) (N := some 9) (v := ?_) (a' := ?_) #[true, false, false, true, false, false, true, false, false, false, false] rfl rfl (any_of HT_.out (by kernel_rfl)) (fun _ _ _ h => h) (Or.inl ⟨by rfl, ?_⟩) ?_ ?_
  rotate_left
  · intro w'
    go_simp
    with_reducible rfl
  rotate_left
  · simp only [Act.put, List.setIfInBounds_toArray, List.set_cons_zero, List.set_cons_succ, i64_w, i32_w]
    rfl
  refine take_ (i := 1) (N := some 4) (v := ?_) (a' := ?_) #[true, true, false, true, false, false, true, false, false, false, false] rfl rfl (take_ofW HT_.out HW_.out (by kernel_rfl)) (fun _ _ _ h => h) (Or.inl ⟨by rfl, ?_⟩) hHeld ?_ ?_
  rotate_left
  · rintro w' ⟨s0, s1, s2, s3⟩
    go_simp
    with_reducible rfl
  rotate_left
  · simp only [Act.put, List.setIfInBounds_toArray, List.set_cons_zero, List.set_cons_succ, i64_w, i32_w]
    rfl
  refine take_ (i := 4) (N := some 7) (v := ?_) (a' := ?_) #[true, true, false, true, true, false, true, false, false, false, false] rfl rfl (take_ofW HT_.out HW_.out (by kernel_rfl)) (fun _ _ _ h => h) (Or.inl ⟨by rfl, ?_⟩) hHeld ?_ ?_
  rotate_left
  · rintro w' ⟨s0, s1, s2, s3⟩
    go_simp
    with_reducible rfl
  rotate_left
  · simp only [Act.put, List.setIfInBounds_toArray, List.set_cons_zero, List.set_cons_succ, i64_w, i32_w]
    rfl
  refine take_ (i := 7) (N := some 10) (v := ?_) (a' := ?_) #[true, true, false, true, true, false, true, true, false, false, false] rfl rfl (take_ofW HT_.out HW_.out (by kernel_rfl)) (fun _ _ _ h => h) (Or.inl ⟨by rfl, ?_⟩) hHeld ?_ ?_
  rotate_left
  · rintro w' ⟨s0, s1, s2, s3⟩
    go_simp
    with_reducible rfl
  rotate_left
  · simp only [Act.put, List.setIfInBounds_toArray, List.set_cons_zero, List.set_cons_succ, i64_w, i32_w]
    rfl
  refine one_ (i := 2) (N := some 5) #[true, true, true, true, true, false, true, true, false, false, false] rfl rfl (one_of HT_.out (by kernel_rfl)) (by decide) (fun K hK => ?_)
  refine goes_ Try.func111 (by kernel_rfl) rfl #[.slice A0_0 l0_0.length c0_0] (by rfl) rfl rfl (by (try simp only [List.map_toArray, List.map_cons, List.map_nil]); rfl) ?_
  with_reducible refine (impl_copyTexts.calls _ _ l0_0 t518 _ ?side1 ?side2 A2.out).mono ?_
  (case side1 => repeat (exact (Kd.C_below HR0_0.out HB.out)))
  (case side2 => exact HC0_0.out)
  rintro e w8 ⟨v519, rfl, ho0, hb⟩
  refine ⟨_, rfl, ?_⟩
  have n0_ := Aside0.mk (Kd.R_lower ho0 (below_size (by repeat ((with_reducible exact HB.out)))))
  have n1_ := Aside0.mk (blk_below (g := gb516) (o := .cells #[.slice A0_0 l0_0.length c0_0, .slice A0_1 l0_1.length c0_1, .slice A0_2 l0_2.length c0_2, .int .i64 a0_3] 43 (0, 0)) (by (with_reducible repeat (first | refine blk_drewN ?_ _ | refine blk_drew ?_ | refine blk_alloc ?_ _ )); exact BK516.out) hb)
  have n2_ := Aside0.mk (blk_below (g := gb517) (o := .cells #[.slice none 0 0, .slice none 0 0, .slice none 0 0, .int .i64 0] 43 (0, 0)) (by (with_reducible repeat (first | refine blk_drewN ?_ _ | refine blk_drew ?_ | refine blk_alloc ?_ _ )); exact BK517.out) hb)
  have n3_ := Aside0.mk (below_step (by repeat ((with_reducible exact HB.out))) hb)
  clear BK516
  clear BK517
  clear HB
  have HO520 := n0_
  have BK516 := n1_
  have BK517 := n2_
  have HB := n3_
  clear n0_ n1_ n2_ n3_
  (try clear hb)
  (try clear hb2)
  (try clear hk)
  (try clear hi)
  (try clear ho0)
  refine hK.out _ _ ⟨(blk_cell BK516.out 0).trans rfl, (blk_cell BK516.out 1).trans rfl, (blk_cell BK516.out 2).trans rfl, (blk_cell BK516.out 3).trans rfl⟩ (fun hHeld => ?_)
  clear hK K
  refine norm_ (a' := ?_) ?_ ?_
  rotate_left
  · show Act.put _ (some 5) _ = _
    simp only [Act.put, List.setIfInBounds_toArray, List.set_cons_zero, List.set_cons_succ, i64_w, i32_w]
    rfl
  refine one_ (i := 5) (N := some 8) #[true, true, true, true, true, true, true, true, false, false, false] rfl rfl (one_of HT_.out (by kernel_rfl)) (by decide) (fun K hK => ?_)
  refine goes_ Try.func111 (by kernel_rfl) rfl #[.slice A0_1 l0_1.length c0_1] (by rfl) rfl rfl (by (try simp only [List.map_toArray, List.map_cons, List.map_nil]); rfl) ?_
  with_reducible refine (impl_copyTexts.calls _ _ l0_1 t521 _ ?side1 ?side2 A3.out).mono ?_
  (case side1 => repeat (exact (Kd.C_below HR0_1.out HB.out)))
  (case side2 => exact HC0_1.out)
  rintro e w9 ⟨v522, rfl, ho0, hb⟩
  refine ⟨_, rfl, ?_⟩
  have n0_ := Aside0.mk (Kd.R_elder' (by (with_reducible repeat (first | apply Kd.R_alloc | apply Kd.R_drewN | apply Kd.R_drew )); exact HO520.out) (Kd.R_base ho0) hb)
  have n1_ := Aside0.mk (Kd.R_lower (Kd.R_new' ho0 (Kd.R_lt (by (with_reducible repeat (first | apply Kd.R_alloc | apply Kd.R_drewN | apply Kd.R_drew )); exact HO520.out))) (below_size (by repeat ((with_reducible exact HB.out)))))
  have n2_ := Aside0.mk (blk_below (g := gb516) (o := .cells #[.slice A0_0 l0_0.length c0_0, .slice A0_1 l0_1.length c0_1, .slice A0_2 l0_2.length c0_2, .int .i64 a0_3] 43 (0, 0)) (by (with_reducible repeat (first | refine blk_drewN ?_ _ | refine blk_drew ?_ | refine blk_alloc ?_ _ )); exact BK516.out) hb)
  have n3_ := Aside0.mk (blk_below (g := gb517) (o := .cells #[.slice none 0 0, .slice none 0 0, .slice none 0 0, .int .i64 0] 43 (0, 0)) (by (with_reducible repeat (first | refine blk_drewN ?_ _ | refine blk_drew ?_ | refine blk_alloc ?_ _ )); exact BK517.out) hb)
  have n4_ := Aside0.mk (below_step (by repeat ((with_reducible exact HB.out))) hb)
  clear HO520
  clear BK516
  clear BK517
  clear HB
  have HO520 := n0_
  have HO523 := n1_
  have BK516 := n2_
  have BK517 := n3_
  have HB := n4_
  clear n0_ n1_ n2_ n3_ n4_
  (try clear hb)
  (try clear hb2)
  (try clear hk)
  (try clear hi)
  (try clear ho0)
  refine hK.out _ _ ⟨(blk_cell BK516.out 0).trans rfl, (blk_cell BK516.out 1).trans rfl, (blk_cell BK516.out 2).trans rfl, (blk_cell BK516.out 3).trans rfl⟩ (fun hHeld => ?_)
  clear hK K
  refine norm_ (a' := ?_) ?_ ?_
  rotate_left
  · show Act.put _ (some 8) _ = _
    simp only [Act.put, List.setIfInBounds_toArray, List.set_cons_zero, List.set_cons_succ, i64_w, i32_w]
    rfl
  refine one_ (i := 8) (N := some 11) #[true, true, true, true, true, true, true, true, true, false, false] rfl rfl (one_of HT_.out (by kernel_rfl)) (by decide) (fun K hK => ?_)
  refine goes_ Try.func71 (by kernel_rfl) rfl #[.agg #[.slice A0_2 l0_2.length c0_2, .int .i64 a0_3]] (by rfl) rfl rfl (by (try simp only [List.map_toArray, List.map_cons, List.map_nil]); rfl) ?_
  with_reducible refine (impl_copySketch.calls k _ _ l0_2 a0_3 t524 t527 _ ?side1 ?side2 A4.out).mono ?_
  (case side1 => repeat (exact (Kd.C_below HR0_2.out HB.out)))
  (case side2 => exact HC0_2.out)
  rintro e w10 ⟨v525, rfl, ho0, hb⟩
  refine ⟨_, rfl, ?_⟩
  have n0_ := Aside0.mk (Kd.R_below (by (with_reducible repeat (first | apply Kd.R_alloc | apply Kd.R_drewN | apply Kd.R_drew )); exact HO520.out) hb)
  have n1_ := Aside0.mk (Kd.R_below (by (with_reducible repeat (first | apply Kd.R_alloc | apply Kd.R_drewN | apply Kd.R_drew )); exact HO523.out) hb)
  have n2_ := Aside0.mk (Kd.S_lower ho0 (below_size (by repeat ((with_reducible exact HB.out)))))
  have n3_ := Aside0.mk (blk_below (g := gb516) (o := .cells #[.slice A0_0 l0_0.length c0_0, .slice A0_1 l0_1.length c0_1, .slice A0_2 l0_2.length c0_2, .int .i64 a0_3] 43 (0, 0)) (by (with_reducible repeat (first | refine blk_drewN ?_ _ | refine blk_drew ?_ | refine blk_alloc ?_ _ )); exact BK516.out) hb)
  have n4_ := Aside0.mk (blk_below (g := gb517) (o := .cells #[.slice none 0 0, .slice none 0 0, .slice none 0 0, .int .i64 0] 43 (0, 0)) (by (with_reducible repeat (first | refine blk_drewN ?_ _ | refine blk_drew ?_ | refine blk_alloc ?_ _ )); exact BK517.out) hb)
  have n5_ := Aside0.mk (below_step (by repeat ((with_reducible exact HB.out))) hb)
  clear HO520
  clear HO523
  clear BK516
  clear BK517
  clear HB
  have HO520 := n0_
  have HO523 := n1_
  have HO526 := n2_
  have BK516 := n3_
  have BK517 := n4_
  have HB := n5_
  clear n0_ n1_ n2_ n3_ n4_ n5_
  (try clear hb)
  (try clear hb2)
  (try clear hk)
  (try clear hi)
  (try clear ho0)
  obtain ⟨Ao11, co11, eo11⟩ := Kd.S_slice HO526.out
  (subst eo11)
  obtain ⟨Ao12, co12, eo12⟩ := Kd.R_slice HO523.out
  (subst eo12)
  obtain ⟨Ao13, co13, eo13⟩ := Kd.R_slice HO520.out
  (subst eo13)
  refine hK.out _ _ ⟨(blk_cell BK516.out 0).trans rfl, (blk_cell BK516.out 1).trans rfl, (blk_cell BK516.out 2).trans rfl, (blk_cell BK516.out 3).trans rfl⟩ (fun hHeld => ?_)
  clear hK K
  refine norm_ (a' := ?_) ?_ ?_
  rotate_left
  · show Act.put _ (some 11) _ = _
    simp only [Act.put, List.setIfInBounds_toArray, List.set_cons_zero, List.set_cons_succ, i64_w, i32_w]
    rfl
  refine pure_ (i := 9) (N := some 12) (v := ?_) (a' := ?_) #[true, true, true, true, true, true, true, true, true, true, false] rfl rfl (any_of HT_.out (by kernel_rfl)) (fun _ _ _ h => h) (Or.inl ⟨by rfl, ?_⟩) ?_ ?_
  rotate_left
  · intro w'
    go_simp
    with_reducible rfl
  rotate_left
  · simp only [Act.put, List.setIfInBounds_toArray, List.set_cons_zero, List.set_cons_succ, i64_w, i32_w]
    rfl
  refine one_ (i := 10) (N := none) #[true, true, true, true, true, true, true, true, true, true, true] rfl rfl (one_of HT_.out (by kernel_rfl)) (by decide) (fun K hK => ?_)
  have hs14 : w10.cell? ⟨gb517, 0, none⟩ = some (.slice none 0 0) := (blk_cell BK517.out 0).trans rfl
  have hfs14 := blk_frozen BK517.out 0
  have hns14_0 := NB516_517.out
  have hms14_0 := NB517_516.out
  have hs15 : w10.cell? ⟨gb517, 1, none⟩ = some (.slice none 0 0) := (blk_cell BK517.out 1).trans rfl
  have hfs15 := blk_frozen BK517.out 1
  have hns15_0 := NB516_517.out
  have hms15_0 := NB517_516.out
  have hs16 : w10.cell? ⟨gb517, 2, none⟩ = some (.slice none 0 0) := (blk_cell BK517.out 2).trans rfl
  have hfs16 := blk_frozen BK517.out 2
  have hns16_0 := NB516_517.out
  have hms16_0 := NB517_516.out
  have hs17 : w10.cell? ⟨gb517, 3, none⟩ = some (.int .i64 0) := (blk_cell BK517.out 3).trans rfl
  have hfs17 := blk_frozen BK517.out 3
  have hns17_0 := NB516_517.out
  have hms17_0 := NB517_516.out
  refine skip_ (w1 := ?_) (by rfl) rfl ?_ ?_
  rotate_left
  · go_simp
    rfl
  refine hK.out _ _ ⟨((cell_far (p := ⟨gb517, _, none⟩) NB516_517.out _).trans (((cell_far (p := ⟨gb517, _, none⟩) NB516_517.out _).trans (((cell_far (p := ⟨gb517, _, none⟩) NB516_517.out _).trans (((cell_far (p := ⟨gb517, _, none⟩) NB516_517.out _).trans (hHeld.1)))))))), ((cell_far (p := ⟨gb517, _, none⟩) NB516_517.out _).trans (((cell_far (p := ⟨gb517, _, none⟩) NB516_517.out _).trans (((cell_far (p := ⟨gb517, _, none⟩) NB516_517.out _).trans (((cell_far (p := ⟨gb517, _, none⟩) NB516_517.out _).trans (hHeld.2.1)))))))), ((cell_far (p := ⟨gb517, _, none⟩) NB516_517.out _).trans (((cell_far (p := ⟨gb517, _, none⟩) NB516_517.out _).trans (((cell_far (p := ⟨gb517, _, none⟩) NB516_517.out _).trans (((cell_far (p := ⟨gb517, _, none⟩) NB516_517.out _).trans (hHeld.2.2.1)))))))), ((cell_far (p := ⟨gb517, _, none⟩) NB516_517.out _).trans (((cell_far (p := ⟨gb517, _, none⟩) NB516_517.out _).trans (((cell_far (p := ⟨gb517, _, none⟩) NB516_517.out _).trans (((cell_far (p := ⟨gb517, _, none⟩) NB516_517.out _).trans (hHeld.2.2.2))))))))⟩ (fun hHeld => ?_)
  clear hK K
  refine done_ (done_of HT_.out (by kernel_rfl)) ?_
  go_wp2
  refine bodyPost_ret (results_cell_row rfl _ _ gb517 43 #[.slice Ao13 t518.length co13, .slice Ao12 t521.length co12, .slice Ao11 t524.length co11, .int .i64 t527] (0, 0) _ rfl (by (with_reducible repeat (first | refine blk_drewN ?_ _ | refine blk_drew ?_ | refine blk_alloc ?_ _ )); refine blk_put (cs := #[.slice Ao13 t518.length co13, .slice Ao12 t521.length co12, .slice Ao11 t524.length co11, .int .i64 0]) ?_ 3 _ rfl; (with_reducible repeat (first | refine blk_drewN ?_ _ | refine blk_drew ?_ | refine blk_alloc ?_ _ )); refine blk_put (cs := #[.slice Ao13 t518.length co13, .slice Ao12 t521.length co12, .slice none 0 0, .int .i64 0]) ?_ 2 _ rfl; (with_reducible repeat (first | refine blk_drewN ?_ _ | refine blk_drew ?_ | refine blk_alloc ?_ _ )); refine blk_put (cs := #[.slice Ao13 t518.length co13, .slice none 0 0, .slice none 0 0, .int .i64 0]) ?_ 1 _ rfl; (with_reducible repeat (first | refine blk_drewN ?_ _ | refine blk_drew ?_ | refine blk_alloc ?_ _ )); refine blk_put (cs := #[.slice none 0 0, .slice none 0 0, .slice none 0 0, .int .i64 0]) ?_ 0 _ rfl; (with_reducible repeat (first | refine blk_drewN ?_ _ | refine blk_drew ?_ | refine blk_alloc ?_ _ )); exact BK517.out) Try.underlying43 rfl (by kernel_rfl)) rfl ?_
  exact ⟨_, _, _, by rfl, by (with_reducible repeat (first | apply Kd.R_alloc | apply Kd.R_drewN | apply Kd.R_drew )); exact Kd.R_mono (Kd.R_far (p := ⟨gb517, 3, none⟩) (Kd.R_far (p := ⟨gb517, 2, none⟩) (Kd.R_far (p := ⟨gb517, 1, none⟩) (Kd.R_far (p := ⟨gb517, 0, none⟩) (Kd.R_types HO520.out BK517.out (by decide)) (fun _ hk => hk.2) (.slice Ao13 t518.length co13)) (fun _ hk => hk.2) (.slice Ao12 t521.length co12)) (fun _ hk => hk.2) (.slice Ao11 t524.length co11)) (fun _ hk => hk.2) (.int .i64 t527)) (fun _ hk => hk.1.2), by (with_reducible repeat (first | apply Kd.R_alloc | apply Kd.R_drewN | apply Kd.R_drew )); exact Kd.R_mono (Kd.R_far (p := ⟨gb517, 3, none⟩) (Kd.R_far (p := ⟨gb517, 2, none⟩) (Kd.R_far (p := ⟨gb517, 1, none⟩) (Kd.R_far (p := ⟨gb517, 0, none⟩) (Kd.R_types HO523.out BK517.out (by decide)) (fun _ hk => hk.2) (.slice Ao13 t518.length co13)) (fun _ hk => hk.2) (.slice Ao12 t521.length co12)) (fun _ hk => hk.2) (.slice Ao11 t524.length co11)) (fun _ hk => hk.2) (.int .i64 t527)) (fun _ hk => hk.1.2), by (with_reducible repeat (first | apply Kd.S_alloc | apply Kd.S_drewN | apply Kd.S_drew )); exact Kd.S_mono (Kd.S_far (p := ⟨gb517, 3, none⟩) (Kd.S_far (p := ⟨gb517, 2, none⟩) (Kd.S_far (p := ⟨gb517, 1, none⟩) (Kd.S_far (p := ⟨gb517, 0, none⟩) (Kd.S_types HO526.out BK517.out (by decide)) (fun _ hk => hk.2) (.slice Ao13 t518.length co13)) (fun _ hk => hk.2) (.slice Ao12 t521.length co12)) (fun _ hk => hk.2) (.slice Ao11 t524.length co11)) (fun _ hk => hk.2) (.int .i64 t527)) (fun _ hk => trivial), by repeat ((with_reducible first | exact HB.out | refine below_set ?_ GE517.out))⟩
def impl_withoutKey.f (l0 : List ByteArray) (a1 : ByteArray) : Option (List ByteArray) := (impl_copyTexts.f l0).bind fun l => some (l.filter fun x => !(x.toList == a1.toList))
open Go.Sort in
theorem impl_withoutKey.fn (key : ByteArray) (gk : Nat) (W : World) (hk : W.heap[gk]? = some (.cells #[.string key] 9 (0, 0))) (x : ByteArray) : FnGives Try.prog 113 #[.pointer (some ⟨gk, 0, none⟩)] #[.string x] (.bool (x.toList == key.toList)) W := by
  show Calls Try.prog 113 #[.string x, .pointer (some ⟨gk, 0, none⟩)] W _
  have hcz : W.cell? ⟨gk, 0, none⟩ = some (.string key) := (blk_cell hk 0).trans rfl
  go_enter Try.func113, Try.ntmps113
  go_wp2
  go_ret
  exact ⟨rfl, 0, rfl⟩
theorem impl_withoutKey.none_ (A : Option Addr) (c : Nat) (fv : Value) (w : World) : Calls Try.prog 112 #[.slice A 0 c, fv] w fun e w' => e = .returned (.slice A 0 c) ∧ w = w' := by
  go_enter Try.func112, Try.ntmps112
  go_wp2_with (((with_reducible refine gate_callee (f := 115) rfl ?_); refine goesL_ (some 10) rfl rfl Try.func115 (by kernel_rfl) rfl #[.slice A 0 c, fv] rfl (by (try simp only [List.map_toArray, List.map_cons, List.map_nil]); rfl) ?_; (with_reducible refine (Try.slices_IndexFunc_empty (α := Nat) A c fv _).mono ?_); rintro e w2 ⟨rfl, rfl⟩; refine ⟨_, rfl, ?_⟩))
  go_ret
  exact ⟨rfl, rfl⟩
theorem impl_withoutKey.cells {size : Nat} {enc : ByteArray → Value} : ∀ {ps : List ByteArray} {cs : List Value}, cs.length = ps.length * 1 → (∀ j p, ps[j]? = some p → (cs.drop (j * 1)).take 1 = [enc p]) → cs = ps.map enc := by
  intro ps cs hl h
  apply List.ext_getElem?
  intro j
  rcases Nat.lt_or_ge j ps.length with hj | hj
  · have h1 := h j ps[j] (List.getElem?_eq_getElem hj)
    have hj2 : j < cs.length := by omega
    rw [Nat.mul_one, List.drop_eq_getElem_cons hj2] at h1
    simp only [List.take_succ_cons, List.take_zero, List.cons.injEq, and_true] at h1
    rw [List.getElem?_map, List.getElem?_eq_getElem hj, List.getElem?_eq_getElem hj2, h1]
    rfl
  · rw [List.getElem?_eq_none (by omega), List.getElem?_eq_none (by rw [List.length_map]; omega)]
theorem impl_withoutKey.row {W : World} {base : Nat} {v : Value} {xs : List ByteArray} (h : Kd.R Kd.string 9 W base (fun _ => True) v xs) (hne : 0 < xs.length) :
    ∃ g c cur, v = .slice (some ⟨g, 0, none⟩) xs.length c ∧ base ≤ g ∧ W.heap[g]? = some (.cells cur 9 (0, 0)) ∧ xs.length ≤ c ∧ c ≤ maxLen ∧ cur.size = c ∧ cur.toList.take xs.length = xs.map Value.string := by
  obtain ⟨_, inner, ⟨ho1, ho⟩, hr1, hr2⟩ := h
  have hi : inner = xs.map Value.string := impl_withoutKey.cells (size := 1) hr1 hr2
  subst hi
  rcases ho with ⟨_, h0⟩ | ⟨g, cap, cur, e, hb, hh, hn, hm, hs, ht⟩
  · omega
  · refine ⟨g, cap, cur, e, hb, hh, hn, hm, ?_, ?_⟩
    · rw [hs]; exact Nat.mul_one _
    · rw [← ht]; congr 1; exact (Nat.mul_one _).symm
theorem impl_withoutKey.own {W : World} {base g c n : Nat} {cur : Array Value} {ys : List ByteArray} (hb : base ≤ g) (hh : W.heap[g]? = some (.cells cur 9 (0, 0))) (hn : n = ys.length) (hc : n ≤ c) (hm : c ≤ maxLen) (hs : cur.size = c) (ht : cur.toList.take n = ys.map Value.string) :
    Kd.R Kd.string 9 W base (fun _ => True) (.slice (some ⟨g, 0, none⟩) n c) ys := by
  subst hn
  refine ⟨fun _ _ => trivial, ys.map Value.string, ⟨by simp [Kd.string, Kd.scalar], .inr ⟨g, c, cur, rfl, hb, hh, hc, hm, by rw [hs]; exact (Nat.mul_one _).symm, ?_⟩⟩, ?_, ?_⟩
  · rw [← ht]; congr 1; exact Nat.mul_one _
  · simp [Kd.string, Kd.scalar]
  · intro j p hp
    show (List.drop (j * 1) (ys.map Value.string)).take 1 = [Value.string p]
    have hj : j < ys.length := (List.getElem?_eq_some_iff.1 hp).1
    have hj2 : j < (ys.map Value.string).length := by simpa using hj
    rw [Nat.mul_one, List.drop_eq_getElem_cons hj2]
    have : ys[j] = p := by
      have := List.getElem?_eq_getElem hj
      rw [this] at hp
      exact Option.some.inj hp
    simp [this]
open Go.Sort in
theorem impl_withoutKey.put (W : World) (q g : Nat) (d : Array ByteArray) (cur : Array Value) (hh : W.heap[g]? = some (.cells cur 9 (0, 0))) : (putRow Value.string (Sort.ahead W q) g 0 d).heap[g]? = some (.cells (putCells Value.string 0 d cur) 9 (0, 0)) := by
  show (W.heap.modify g (onCells _))[g]? = _
  rw [Array.getElem?_modify, if_pos rfl, hh]
  rfl
open Go.Sort in
theorem impl_withoutKey.far (W : World) (q g k : Nat) (d : Array ByteArray) (hk : k ≠ g) : (putRow Value.string (Sort.ahead W q) g 0 d).heap[k]? = W.heap[k]? := by
  show (W.heap.modify g (onCells _))[k]? = _
  rw [Array.getElem?_modify, if_neg (Ne.symm hk)]
open Go.Sort in
theorem impl_withoutKey.took (d : Array ByteArray) (cur : Array Value) (hd : d.size ≤ cur.size) (n : Nat) (hn : n ≤ d.size) : (putCells Value.string 0 d cur).toList.take n = (d.toList.take n).map Value.string := by
  apply List.ext_getElem?
  intro j
  rw [List.getElem?_map, List.getElem?_take, List.getElem?_take]
  by_cases hj : j < n
  · rw [if_pos hj, if_pos hj]
    have h1 : j < cur.size := by omega
    have h2 : j < d.size := by omega
    simp [putCells, Array.getElem?_eq_getElem h1, Array.getElem?_eq_getElem h2, h2]
  · rw [if_neg hj, if_neg hj]; rfl
open Go.Sort in
theorem impl_withoutKey.del (key : ByteArray) (gk base : Nat) (w W : World) (v : Value) (xs : List ByteArray) (hk : W.heap[gk]? = some (.cells #[.string key] 9 (0, 0))) (hlt : gk < base) (HO : Kd.R Kd.string 9 W base (fun _ => True) v xs) (HB : Below w.heap.size w W) (hwb : w.heap.size ≤ base) :
    Calls Try.prog 112 #[v, .func (.func 113) #[] #[.pointer (some ⟨gk, 0, none⟩)]] W fun e w' => ∃ v', e = .returned v' ∧ Kd.R Kd.string 9 w' base (fun _ => True) v' (xs.filter fun x => !(x.toList == key.toList)) ∧ Below w.heap.size w w' := by
  rcases Nat.eq_zero_or_pos xs.length with h0 | h0
  · have hx : xs = [] := List.eq_nil_of_length_eq_zero h0
    subst hx
    obtain ⟨A, c, rfl⟩ := Kd.R_slice HO
    refine (impl_withoutKey.none_ A c _ W).mono ?_
    rintro e w' ⟨rfl, rfl⟩
    exact ⟨_, rfl, HO, HB⟩
  · obtain ⟨g, c, cur, rfl, hbg, hh, hn, hm, hs, ht⟩ := impl_withoutKey.row HO h0
    have hgk : gk ≠ g := by omega
    have hgW : g < W.heap.size := (Array.getElem?_eq_some_iff.1 hh).1
    have hget : ∀ j (hj : j < xs.length), cur[j]? = some (.string xs[j]) := by
      intro j hj
      have h1 : (cur.toList.take xs.length)[j]? = (xs.map Value.string)[j]? := by rw [ht]
      rw [List.getElem?_take, if_pos hj, List.getElem?_map, List.getElem?_eq_getElem hj] at h1
      simpa using h1
    have hH : Holds Value.string W g 0 xs.toArray := by
      intro j hj
      have hj' : j < xs.length := by simpa using hj
      refine ⟨?_, ?_⟩
      · rw [Nat.zero_add]
        refine (blk_cell hh j).trans ?_
        rw [hget j hj', getElem!_pos xs.toArray j hj]
        simp
      · simp [World.frozen?, hh]
    have hD := Try.slices_DeleteFunc (α := ByteArray) Value.string (fun _ => rfl) (fun x => x.toList == key.toList) 113 #[.pointer (some ⟨gk, 0, none⟩)] (enters_of Try.func113 (by kernel_rfl) rfl) ByteArray.empty Try.zeroValue9 g 0 c xs.toArray W
      (fun W' x hb => impl_withoutKey.fn key gk W' (blk_below hk hb) x)
      (fun n os dk x hsz => impl_withoutKey.fn key gk _ (by
        unfold sortWorld
        rw [heap_grow_old _ _ (by rw [size_putRow]; exact (Array.getElem?_eq_some_iff.1 hk).1), impl_withoutKey.far _ _ _ _ _ hgk]
        exact hk) x)
      hH (by simp only [maxLen] at hm; simp; omega) (by simpa using hn)
    refine Calls.mono (by simpa using hD) ?_
    rintro e w' ⟨rfl, q, rfl⟩
    have hF : (xs.filter fun x => !(x.toList == key.toList)).length ≤ xs.length := List.length_filter_le _ _
    generalize hys : (xs.filter fun x => !(x.toList == key.toList)) = ys at hF
    refine ⟨_, rfl, impl_withoutKey.own hbg (impl_withoutKey.put W q g _ cur hh) rfl (by omega) hm (by simp [putCells, hs]) ?_, ?_⟩
    · rw [impl_withoutKey.took _ _ (by simp; omega) _ (by simp)]
      simp
    · refine ⟨HB.os, HB.tape, HB.output, by rw [size_putRow]; exact HB.size, fun j hj => ?_⟩
      rw [impl_withoutKey.far _ _ _ _ _ (by omega)]
      exact HB.block j hj
set_option maxHeartbeats 8000000 in
set_option maxRecDepth 100000 in
theorem impl_withoutKey.calls (A0 : Option Addr) (c0 : Nat) (l0 : List ByteArray) (a1 : ByteArray) (r : List ByteArray) (w : World) (hr0 : Kd.C Kd.string w A0 l0.length l0) (hc0 : l0.length ≤ c0) (h : impl_withoutKey.f l0 a1 = some r) :
    Calls Try.prog 84 #[.slice A0 l0.length c0, .string a1] w fun e w' => ∃ v0_ : Value, e = .returned (v0_) ∧ Kd.R Kd.string 9 w' w.heap.size (fun _ => True) v0_ r ∧ Below w.heap.size w w' := by
  have HR1 := Aside0.mk hr0
  have HC1 := Aside0.mk hc0
  have HB := Aside0.mk (Below.refl w.heap.size w)
  clear hr0 hc0
  unfold impl_withoutKey.f at h
  obtain ⟨l, hl, h⟩ := Option.bind_eq_some_iff.1 h
  have HL := Aside0.mk hl
  clear hl
  obtain rfl := Option.some.inj h
  clear h
  go_enter Try.func84, Try.ntmps84
  go_wp2_with (first | ((with_reducible refine gate_dst (N := 3) rfl ?_); refine box_event ?hg (N := 3) ?hd (cs := #[.string a1]) (t := 9) ?hr ?_; (case hd => rfl); (case hg => rfl); (case hr => (go_simp; done)); intro gb hg w1 hbox hb; have n0_ := Aside0.mk (below_step (by repeat ((with_reducible exact HB.out))) hb); have n1_ := Aside0.mk hbox; clear HB; have HB := n0_; have BK := n1_; clear n0_ n1_ hb hbox hg) | ((with_reducible refine gate_callee (f := 111) rfl ?_); refine goesL_ (some 6) rfl rfl Try.func111 (by kernel_rfl) rfl #[.slice A0 l0.length c0] rfl (by (try simp only [List.map_toArray, List.map_cons, List.map_nil]); rfl) ?_; (with_reducible refine (impl_copyTexts.calls A0 c0 l0 l _ ?s1 HC1.out HL.out).mono ?_); (case s1 => exact Kd.C_below HR1.out (by repeat ((with_reducible exact HB.out)))); rintro e w2 ⟨v, rfl, ho, hb⟩; refine ⟨_, rfl, ?_⟩; have n0_ := Aside0.mk (blk_below (by (with_reducible repeat (first | refine blk_drewN ?_ _ | refine blk_drew ?_ | refine blk_alloc ?_ _ )); exact BK.out) hb); have n1_ := Aside0.mk (below_step (by repeat ((with_reducible exact HB.out))) hb); have n2_ := Aside0.mk ho; have n3_ := Aside0.mk (blk_lt (by (with_reducible repeat (first | refine blk_drewN ?_ _ | refine blk_drew ?_ | refine blk_alloc ?_ _ )); exact BK.out)); have n4_ := Aside0.mk (below_size (by repeat ((with_reducible exact HB.out)))); clear HB BK ho hb; have BK := n0_; have HB := n1_; have HO := n2_; have LT := n3_; have LE := n4_; clear n0_ n1_ n2_ n3_ n4_) | ((with_reducible refine gate_callee (f := 112) rfl ?_); refine goesL_ (some 8) rfl rfl Try.func112 (by kernel_rfl) rfl #[v, .func (.func 113) #[] #[.pointer (some ⟨gb, 0, none⟩)]] rfl (by (try simp only [List.map_toArray, List.map_cons, List.map_nil]); rfl) ?_; refine (impl_withoutKey.del a1 gb _ w _ v l ?s1 LT.out ?s2 ?s3 LE.out).mono ?_; (case s1 => exact (by (with_reducible repeat (first | refine blk_drewN ?_ _ | refine blk_drew ?_ | refine blk_alloc ?_ _ )); exact BK.out)); (case s2 => exact (by (with_reducible repeat (first | apply Kd.R_alloc | apply Kd.R_drewN | apply Kd.R_drew )); exact HO.out)); (case s3 => exact (by repeat ((with_reducible exact HB.out)))); rintro e w3 ⟨v2, rfl, ho, hb⟩; refine ⟨_, rfl, ?_⟩; have n0_ := Aside0.mk (Kd.R_lower ho LE.out); have n1_ := Aside0.mk hb; clear HB HO BK ho hb; have HO := n0_; have HB := n1_; clear n0_ n1_))
  go_ret
  exact ⟨_, rfl, by (with_reducible repeat (first | apply Kd.R_alloc | apply Kd.R_drewN | apply Kd.R_drew )); exact HO.out, (by repeat ((with_reducible exact HB.out)))⟩
def impl_PolicyTouch.j0 : Nat → ByteArray → Bool → List ByteArray → List ByteArray → List (List Int) → Int → List ByteArray → List ByteArray → List (List Int) → Int → Option (List ByteArray × List ByteArray × (List (List Int)) × Int × ByteArray)
  | 0, _, _, _, _, _, _, _, _, _, _ => none
  | k + 1, x1, x18, x529000, x529001, x529002, x529003, x541000, x541001, x541002, x541003 => if x18 = true then (some (x541000, x541001, x541002, x541003, (⟨#[]⟩ : ByteArray))) else ((impl_SketchBump.f k x529002 x529003 x1).bind fun bt543 => ((slices_Contains_string_string.f k x529001 x1).bind fun t547 => (if t547 = true then ((impl_withoutKey.f x529001 x1).bind fun t548 => (if t548.length < 8796093022208 then (some (x541000, (t548 ++ [x1]), bt543.1, bt543.2, (⟨#[]⟩ : ByteArray))) else (none))) else ((impl_withoutKey.f x529000 x1).bind fun t554 => (if t554.length < 8796093022208 then ((some (t554 ++ [x1] : List ByteArray)).bind fun y557 => (if (y557.length : Int) ≤ 2 then (some (y557, x541001, bt543.1, bt543.2, (⟨#[]⟩ : ByteArray))) else (if 0 < (y557.length : Int) then (if 1 ≤ (y557.length : Int) then ((some (y557.drop (1 : Int).toNat : List ByteArray)).bind fun y561 => (if (x541001.length : Int) < 4 then (if x541001.length < 8796093022208 then (some (y561, (x541001 ++ [rdOf ByteArray.empty y557 0]), bt543.1, bt543.2, (⟨#[]⟩ : ByteArray))) else (none)) else (if 0 < (x541001.length : Int) then ((impl_SketchGuess.f k bt543.1 bt543.2 (rdOf ByteArray.empty y557 0)).bind fun t568 => ((impl_SketchGuess.f k bt543.1 bt543.2 (rdOf ByteArray.empty x541001 0)).bind fun t569 => (if t568 > t569 then (if 1 ≤ (x541001.length : Int) then ((some (x541001.drop (1 : Int).toNat : List ByteArray)).bind fun y570 => (if y570.length < 8796093022208 then (some (y561, (y570 ++ [rdOf ByteArray.empty y557 0]), bt543.1, bt543.2, rdOf ByteArray.empty x541001 0)) else (none))) else (none)) else (some (y561, x541001, bt543.1, bt543.2, rdOf ByteArray.empty y557 0))))) else (none)))) else (none)) else (none)))) else (none))))))
def impl_PolicyTouch.f (k : Nat) (l0_0 : List ByteArray) (l0_1 : List ByteArray) (l0_2 : List (List Int)) (a0_3 : Int) (a1 : ByteArray) : Option (List ByteArray × List ByteArray × (List (List Int)) × Int × ByteArray) := (impl_copyPolicy.f k l0_0 l0_1 l0_2 a0_3).bind fun bt530 => ((impl_PolicyOk.f k l0_0 l0_1 l0_2 a0_3).bind fun t541 => (if t541 = true then ((impl_isKey.f a1).bind fun t542 => (impl_PolicyTouch.j0 k a1 (!t542) l0_0 l0_1 l0_2 a0_3 bt530.1 bt530.2.1 bt530.2.2.1 bt530.2.2.2)) else (impl_PolicyTouch.j0 k a1 true l0_0 l0_1 l0_2 a0_3 bt530.1 bt530.2.1 bt530.2.2.1 bt530.2.2.2)))
def impl_PolicyTouch.T17 : Bool × List (List Nat × List Nat) := (true, [([], []), ([0], [0]), ([], []), ([1, 2], [1, 2]), ([], []), ([4], [4]), ([], []), ([5, 6, 3], [5, 6]), ([3, 7], [3, 7])])
def impl_PolicyTouch.B17 : List Nat := [0, 1, 0, 7, 0, 16, 0, 127, 255]
theorem impl_PolicyTouch.tab17 : rtab .any (opsOf Try.f45 17) = impl_PolicyTouch.T17 := by kernel_rfl
theorem impl_PolicyTouch.bits17 : waitsOk impl_PolicyTouch.T17.2 impl_PolicyTouch.B17 = true := by kernel_rfl
set_option maxHeartbeats 8000000 in
set_option maxRecDepth 100000 in
theorem impl_PolicyTouch.calls (k : Nat) (A0_0 : Option Addr) (c0_0 : Nat) (l0_0 : List ByteArray) (A0_1 : Option Addr) (c0_1 : Nat) (l0_1 : List ByteArray) (A0_2 : Option Addr) (c0_2 : Nat) (l0_2 : List (List Int)) (a0_3 : Int) (a1 : ByteArray) (r1 : List ByteArray) (r2 : List ByteArray) (r3 : List (List Int)) (r4 : Int) (r5 : ByteArray) (w : World) (hr0_0 : Kd.C Kd.string w A0_0 l0_0.length l0_0) (hc0_0 : l0_0.length ≤ c0_0) (hr0_1 : Kd.C Kd.string w A0_1 l0_1.length l0_1) (hc0_1 : l0_1.length ≤ c0_1) (hr0_2 : Kd.C (Kd.slice 3 (Kd.int .i64)) w A0_2 l0_2.length l0_2) (hc0_2 : l0_2.length ≤ c0_2) (h : impl_PolicyTouch.f k l0_0 l0_1 l0_2 a0_3 a1 = some (r1, r2, r3, r4, r5)) :
    Calls Try.prog 45 #[.agg #[.slice A0_0 l0_0.length c0_0, .slice A0_1 l0_1.length c0_1, .slice A0_2 l0_2.length c0_2, .int .i64 a0_3], .string a1] w fun e w' => ∃ v0_ v1_ v2_ : Value, e = .returned (.tuple #[.agg #[v0_, v1_, v2_, .int .i64 r4], .string r5]) ∧ Kd.Q Kd.string 9 w' w.heap.size (fun k_ => some k_ ≠ (v1_ : Value).ownBlock) v0_ r1 ∧ Kd.Q Kd.string 9 w' w.heap.size (fun k_ => some k_ ≠ (v0_ : Value).ownBlock) v1_ r2 ∧ Kd.S (Kd.slice 3 (Kd.int .i64)) 58 w' w.heap.size (fun _ => True) v2_ r3 ∧ Below w.heap.size w w' := by
  have hu43 := Try.underlying43
  have hu26 := Try.underlying26
  have HR0_0 := Aside0.mk hr0_0
  have HC0_0 := Aside0.mk hc0_0
  clear hr0_0 hc0_0
  have HR0_1 := Aside0.mk hr0_1
  have HC0_1 := Aside0.mk hc0_1
  clear hr0_1 hc0_1
  have HR0_2 := Aside0.mk hr0_2
  have HC0_2 := Aside0.mk hc0_2
  clear hr0_2 hc0_2
  have HB := Aside0.mk (Below.refl w.heap.size w)
  have H : ((impl_copyPolicy.f k l0_0 l0_1 l0_2 a0_3).bind fun bt530 => ((impl_PolicyOk.f k l0_0 l0_1 l0_2 a0_3).bind fun t541 => (if t541 = true then ((impl_isKey.f a1).bind fun t542 => (impl_PolicyTouch.j0 k a1 (!t542) l0_0 l0_1 l0_2 a0_3 bt530.1 bt530.2.1 bt530.2.2.1 bt530.2.2.2)) else (impl_PolicyTouch.j0 k a1 true l0_0 l0_1 l0_2 a0_3 bt530.1 bt530.2.1 bt530.2.2.1 bt530.2.2.2)))) = some (r1, r2, r3, r4, r5) := h
  clear h
  replace H := Option.bind_eq_some_iff.mp H
  obtain ⟨⟨t530, t533, t536, t539⟩, A30, H⟩ := H
  replace H : ((impl_PolicyOk.f k l0_0 l0_1 l0_2 a0_3).bind fun t541 => (if t541 = true then ((impl_isKey.f a1).bind fun t542 => (impl_PolicyTouch.j0 k a1 (!t542) l0_0 l0_1 l0_2 a0_3 t530 t533 t536 t539)) else (impl_PolicyTouch.j0 k a1 true l0_0 l0_1 l0_2 a0_3 t530 t533 t536 t539))) = some (r1, r2, r3, r4, r5) := H
  have A3 := Aside0.mk A30
  clear A30
  have HC4 := Aside0.mk H
  clear H
  go_enter Try.func45, Try.ntmps45
  go_upto_region 2 with (first | ((with_reducible refine gate_dst (N := 2) rfl ?_); refine box_event ?hg (N := 2) ?hd (cs := #[.slice A0_0 l0_0.length c0_0, .slice A0_1 l0_1.length c0_1, .slice A0_2 l0_2.length c0_2, .int .i64 a0_3]) (t := 43) ?hr ?_; (case hd => rfl); (case hg => rfl); (case hr => (go_simp; done)); intro gb528 hg w5 hbox hb; have n0_ := Aside0.mk (below_step (by repeat ((with_reducible exact HB.out))) hb); have n1_ := Aside0.mk (hbox); have n2_ := Aside0.mk ((by rw [hg]; exact (below_size (by repeat ((with_reducible exact HB.out)))) : w.heap.size ≤ gb528)); have n3_ := Aside0.mk ((by rw [hg]; exact (below_size (by repeat ((with_reducible exact HB.out)))) : w.heap.size ≤ gb528)); clear HB; have HB := n0_; have BK528 := n1_; have GW528 := n2_; have GE528 := n3_; clear n0_ n1_ n2_ n3_; clear hb hbox hg) | ((with_reducible refine gate_dst (N := 4) rfl ?_); refine box_event ?hg (N := 4) ?hd (cs := #[.slice none 0 0, .slice none 0 0, .slice none 0 0, .int .i64 0]) (t := 43) ?hr ?_; (case hd => rfl); (case hg => rfl); (case hr => (go_simp; done)); intro gb529 hg w6 hbox hb; have n0_ := Aside0.mk (blk_below (g := gb528) (o := .cells #[.slice A0_0 l0_0.length c0_0, .slice A0_1 l0_1.length c0_1, .slice A0_2 l0_2.length c0_2, .int .i64 a0_3] 43 (0, 0)) (by (with_reducible repeat (first | refine blk_drewN ?_ _ | refine blk_drew ?_ | refine blk_alloc ?_ _ )); exact BK528.out) hb); have n1_ := Aside0.mk (below_step (by repeat ((with_reducible exact HB.out))) hb); have n2_ := Aside0.mk (hbox); have n3_ := Aside0.mk ((by rw [hg]; exact (below_size (by repeat ((with_reducible exact HB.out)))) : w.heap.size ≤ gb529)); have n4_ := Aside0.mk ((by rw [hg]; exact (below_size (by repeat ((with_reducible exact HB.out)))) : w.heap.size ≤ gb529)); have n5_ := Aside0.mk ((by rw [hg]; exact Nat.ne_of_lt (blk_lt (g := gb528) (o := .cells #[.slice A0_0 l0_0.length c0_0, .slice A0_1 l0_1.length c0_1, .slice A0_2 l0_2.length c0_2, .int .i64 a0_3] 43 (0, 0)) (by (with_reducible repeat (first | refine blk_drewN ?_ _ | refine blk_drew ?_ | refine blk_alloc ?_ _ )); exact BK528.out)) : gb528 ≠ gb529)); have n6_ := Aside0.mk ((by rw [hg]; exact Nat.ne_of_gt (blk_lt (g := gb528) (o := .cells #[.slice A0_0 l0_0.length c0_0, .slice A0_1 l0_1.length c0_1, .slice A0_2 l0_2.length c0_2, .int .i64 a0_3] 43 (0, 0)) (by (with_reducible repeat (first | refine blk_drewN ?_ _ | refine blk_drew ?_ | refine blk_alloc ?_ _ )); exact BK528.out)) : gb529 ≠ gb528)); clear BK528; clear HB; have BK528 := n0_; have HB := n1_; have BK529 := n2_; have GW529 := n3_; have GE529 := n4_; have NB528_529 := n5_; have NB529_528 := n6_; clear n0_ n1_ n2_ n3_ n4_ n5_ n6_; clear hb hbox hg; have hnb7 := NB528_529.out; have hnc7 := NB529_528.out; have hcz8_0 : w6.cell? ⟨gb528, 0, none⟩ = some (.slice A0_0 l0_0.length c0_0) := (blk_cell BK528.out 0).trans rfl; have hcz8_1 : w6.cell? ⟨gb528, 1, none⟩ = some (.slice A0_1 l0_1.length c0_1) := (blk_cell BK528.out 1).trans rfl; have hcz8_2 : w6.cell? ⟨gb528, 2, none⟩ = some (.slice A0_2 l0_2.length c0_2) := (blk_cell BK528.out 2).trans rfl; have hcz8_3 : w6.cell? ⟨gb528, 3, none⟩ = some (.int .i64 a0_3) := (blk_cell BK528.out 3).trans rfl; have hfz8_0 := blk_frozen BK528.out 0; have hfz8_1 := blk_frozen BK528.out 1; have hfz8_2 := blk_frozen BK528.out 2; have hfz8_3 := blk_frozen BK528.out 3) | ((with_reducible refine gate_callee (f := 83) rfl ?_); refine goesL_ (some 10) rfl rfl Try.func83 (by kernel_rfl) rfl #[.agg #[.slice A0_0 l0_0.length c0_0, .slice A0_1 l0_1.length c0_1, .slice A0_2 l0_2.length c0_2, .int .i64 a0_3]] rfl (by (try simp only [List.map_toArray, List.map_cons, List.map_nil]); rfl) ?_; (with_reducible refine (impl_copyPolicy.calls k _ _ l0_0 _ _ l0_1 _ _ l0_2 a0_3 t530 t533 t536 t539 _ ?side1 ?side2 ?side3 ?side4 ?side5 ?side6 A3.out).mono ?_); (case side1 => repeat (exact (Kd.C_below HR0_0.out HB.out))); (case side2 => exact HC0_0.out); (case side3 => repeat (exact (Kd.C_below HR0_1.out HB.out))); (case side4 => exact HC0_1.out); (case side5 => repeat (exact (Kd.C_below HR0_2.out HB.out))); (case side6 => exact HC0_2.out); rintro e w9 ⟨v531, v534, v537, rfl, ho0, ho1, ho2, hb⟩; refine ⟨_, rfl, ?_⟩; have n0_ := Aside0.mk (Kd.R_lower ho0 (below_size (by repeat ((with_reducible exact HB.out))))); have n1_ := Aside0.mk (Kd.R_lower ho1 (below_size (by repeat ((with_reducible exact HB.out))))); have n2_ := Aside0.mk (Kd.S_lower ho2 (below_size (by repeat ((with_reducible exact HB.out))))); have n3_ := Aside0.mk (blk_below (g := gb528) (o := .cells #[.slice A0_0 l0_0.length c0_0, .slice A0_1 l0_1.length c0_1, .slice A0_2 l0_2.length c0_2, .int .i64 a0_3] 43 (0, 0)) (by (with_reducible repeat (first | refine blk_drewN ?_ _ | refine blk_drew ?_ | refine blk_alloc ?_ _ )); exact BK528.out) hb); have n4_ := Aside0.mk (blk_below (g := gb529) (o := .cells #[.slice none 0 0, .slice none 0 0, .slice none 0 0, .int .i64 0] 43 (0, 0)) (by (with_reducible repeat (first | refine blk_drewN ?_ _ | refine blk_drew ?_ | refine blk_alloc ?_ _ )); exact BK529.out) hb); have n5_ := Aside0.mk (below_step (by repeat ((with_reducible exact HB.out))) hb); clear BK528; clear BK529; clear HB; have HO532 := n0_; have HO535 := n1_; have HO538 := n2_; have BK528 := n3_; have BK529 := n4_; have HB := n5_; clear n0_ n1_ n2_ n3_ n4_ n5_; (try clear hb); (try clear hb2); (try clear hk); (try clear hi); (try clear ho0); (try clear ho1); (try clear ho2)) | ((with_reducible refine gate_dst (N := 6) rfl ?_); refine box_event ?hg (N := 6) ?hd (cs := #[.slice none 0 0, .slice none 0 0, .slice none 0 0, .int .i64 0]) (t := 43) ?hr ?_; (case hd => rfl); (case hg => rfl); (case hr => (go_simp; done)); intro gb540 hg w10 hbox hb; have n0_ := Aside0.mk (Kd.R_below (by (with_reducible repeat (first | apply Kd.R_alloc | apply Kd.R_drewN | apply Kd.R_drew )); exact HO532.out) hb); have n1_ := Aside0.mk (Kd.R_below (by (with_reducible repeat (first | apply Kd.R_alloc | apply Kd.R_drewN | apply Kd.R_drew )); exact HO535.out) hb); have n2_ := Aside0.mk (Kd.S_below (by (with_reducible repeat (first | apply Kd.S_alloc | apply Kd.S_drewN | apply Kd.S_drew )); exact HO538.out) hb); have n3_ := Aside0.mk (blk_below (g := gb528) (o := .cells #[.slice A0_0 l0_0.length c0_0, .slice A0_1 l0_1.length c0_1, .slice A0_2 l0_2.length c0_2, .int .i64 a0_3] 43 (0, 0)) (by (with_reducible repeat (first | refine blk_drewN ?_ _ | refine blk_drew ?_ | refine blk_alloc ?_ _ )); exact BK528.out) hb); have n4_ := Aside0.mk (blk_below (g := gb529) (o := .cells #[.slice none 0 0, .slice none 0 0, .slice none 0 0, .int .i64 0] 43 (0, 0)) (by (with_reducible repeat (first | refine blk_drewN ?_ _ | refine blk_drew ?_ | refine blk_alloc ?_ _ )); exact BK529.out) hb); have n5_ := Aside0.mk (below_step (by repeat ((with_reducible exact HB.out))) hb); have n6_ := Aside0.mk (hbox); have n7_ := Aside0.mk ((by rw [hg]; exact (below_size (by repeat ((with_reducible exact HB.out)))) : w.heap.size ≤ gb540)); have n8_ := Aside0.mk ((by rw [hg]; exact (below_size (by repeat ((with_reducible exact HB.out)))) : w.heap.size ≤ gb540)); have n9_ := Aside0.mk ((by rw [hg]; exact Nat.ne_of_lt (blk_lt (g := gb528) (o := .cells #[.slice A0_0 l0_0.length c0_0, .slice A0_1 l0_1.length c0_1, .slice A0_2 l0_2.length c0_2, .int .i64 a0_3] 43 (0, 0)) (by (with_reducible repeat (first | refine blk_drewN ?_ _ | refine blk_drew ?_ | refine blk_alloc ?_ _ )); exact BK528.out)) : gb528 ≠ gb540)); have n10_ := Aside0.mk ((by rw [hg]; exact Nat.ne_of_gt (blk_lt (g := gb528) (o := .cells #[.slice A0_0 l0_0.length c0_0, .slice A0_1 l0_1.length c0_1, .slice A0_2 l0_2.length c0_2, .int .i64 a0_3] 43 (0, 0)) (by (with_reducible repeat (first | refine blk_drewN ?_ _ | refine blk_drew ?_ | refine blk_alloc ?_ _ )); exact BK528.out)) : gb540 ≠ gb528)); have n11_ := Aside0.mk ((by rw [hg]; exact Nat.ne_of_lt (blk_lt (g := gb529) (o := .cells #[.slice none 0 0, .slice none 0 0, .slice none 0 0, .int .i64 0] 43 (0, 0)) (by (with_reducible repeat (first | refine blk_drewN ?_ _ | refine blk_drew ?_ | refine blk_alloc ?_ _ )); exact BK529.out)) : gb529 ≠ gb540)); have n12_ := Aside0.mk ((by rw [hg]; exact Nat.ne_of_gt (blk_lt (g := gb529) (o := .cells #[.slice none 0 0, .slice none 0 0, .slice none 0 0, .int .i64 0] 43 (0, 0)) (by (with_reducible repeat (first | refine blk_drewN ?_ _ | refine blk_drew ?_ | refine blk_alloc ?_ _ )); exact BK529.out)) : gb540 ≠ gb529)); clear HO532; clear HO535; clear HO538; clear BK528; clear BK529; clear HB; have HO532 := n0_; have HO535 := n1_; have HO538 := n2_; have BK528 := n3_; have BK529 := n4_; have HB := n5_; have BK540 := n6_; have GW540 := n7_; have GE540 := n8_; have NB528_540 := n9_; have NB540_528 := n10_; have NB529_540 := n11_; have NB540_529 := n12_; clear n0_ n1_ n2_ n3_ n4_ n5_ n6_ n7_ n8_ n9_ n10_ n11_ n12_; clear hb hbox hg; obtain ⟨Ao11, co11, eo11⟩ := Kd.R_slice HO532.out; subst eo11; have hnb12 := NB540_528.out; have hnc12 := NB528_540.out; have hnb13 := NB540_529.out; have hnc13 := NB529_540.out; have hcz14_0 : w10.cell? ⟨gb540, 0, none⟩ = some (.slice none 0 0) := (blk_cell BK540.out 0).trans rfl; have hcz14_1 : w10.cell? ⟨gb540, 1, none⟩ = some (.slice none 0 0) := (blk_cell BK540.out 1).trans rfl; have hcz14_2 : w10.cell? ⟨gb540, 2, none⟩ = some (.slice none 0 0) := (blk_cell BK540.out 2).trans rfl; have hcz14_3 : w10.cell? ⟨gb540, 3, none⟩ = some (.int .i64 0) := (blk_cell BK540.out 3).trans rfl; have hfz14_0 := blk_frozen BK540.out 0; have hfz14_1 := blk_frozen BK540.out 1; have hfz14_2 := blk_frozen BK540.out 2; have hfz14_3 := blk_frozen BK540.out 3; obtain ⟨Ao15, co15, eo15⟩ := Kd.R_slice HO535.out; subst eo15; obtain ⟨Ao16, co16, eo16⟩ := Kd.S_slice HO538.out; subst eo16))
  (try simp only [Act.put, List.setIfInBounds_toArray, List.set_cons_zero, List.set_cons_succ])
  go_cut [18] (fun v18 wc => ∃ (kq : Nat) (x18_3 : Bool), v18 = .bool x18_3 ∧ Aside0 (impl_PolicyTouch.j0 kq a1 x18_3 l0_0 l0_1 l0_2 a0_3 t530 t533 t536 t539 = some (r1, r2, r3, r4, r5)) ∧ Aside0 (kq ≤ k) ∧ Aside0 (Kd.Q Kd.string 9 wc w.heap.size (fun k_ => some k_ ≠ ((.slice Ao15 t533.length co15) : Value).ownBlock) (.slice Ao11 t530.length co11) t530) ∧ Aside0 (Kd.R Kd.string 9 wc w.heap.size (fun k_ => some k_ ≠ ((.slice Ao11 t530.length co11) : Value).ownBlock) (.slice Ao15 t533.length co15) t533) ∧ Aside0 (Kd.S (Kd.slice 3 (Kd.int .i64)) 58 wc w.heap.size (fun _ => True) (.slice Ao16 t536.length co16) t536) ∧ Aside0 (wc.heap[gb528]? = some (.cells #[(.slice A0_0 l0_0.length c0_0), (.slice A0_1 l0_1.length c0_1), (.slice A0_2 l0_2.length c0_2), .int .i64 a0_3] 43 (0, 0))) ∧ Aside0 (wc.heap[gb529]? = some (.cells #[(.slice none 0 0), (.slice none 0 0), (.slice none 0 0), .int .i64 0] 43 (0, 0))) ∧ Aside0 (wc.heap[gb540]? = some (.cells #[(.slice Ao11 t530.length co11), (.slice Ao15 t533.length co15), (.slice Ao16 t536.length co16), .int .i64 t539] 43 (0, 0))) ∧ Aside0 (Below w.heap.size w wc))
  case first =>
    have H := HC4.out
    clear HC4
    replace H := Option.bind_eq_some_iff.mp H
    obtain ⟨t541, A170, H⟩ := H
    replace H : (if t541 = true then ((impl_isKey.f a1).bind fun t542 => (impl_PolicyTouch.j0 k a1 (!t542) l0_0 l0_1 l0_2 a0_3 t530 t533 t536 t539)) else (impl_PolicyTouch.j0 k a1 true l0_0 l0_1 l0_2 a0_3 t530 t533 t536 t539)) = some (r1, r2, r3, r4, r5) := H
    have A17 := Aside0.mk A170
    clear A170
    by_cases c18 : t541 = true
    · subst c18
      have H1 : ((impl_isKey.f a1).bind fun t542 => (impl_PolicyTouch.j0 k a1 (!t542) l0_0 l0_1 l0_2 a0_3 t530 t533 t536 t539)) = some (r1, r2, r3, r4, r5) := by rw [if_pos rfl] at H; exact H
      clear H
      have H := H1
      clear H1
      replace H := Option.bind_eq_some_iff.mp H
      obtain ⟨t542, A190, H⟩ := H
      replace H : (impl_PolicyTouch.j0 k a1 (!t542) l0_0 l0_1 l0_2 a0_3 t530 t533 t536 t539) = some (r1, r2, r3, r4, r5) := H
      have A19 := Aside0.mk A190
      clear A190
      have H' := Aside0.mk H
      clear H
      have hnb20 := NB528_529.out
      have hnc20 := NB529_528.out
      have hnb21 := NB528_540.out
      have hnc21 := NB540_528.out
      have hcz22_0 : w10.cell? ⟨gb528, 0, none⟩ = some (.slice A0_0 l0_0.length c0_0) := (blk_cell BK528.out 0).trans rfl
      have hcz22_1 : w10.cell? ⟨gb528, 1, none⟩ = some (.slice A0_1 l0_1.length c0_1) := (blk_cell BK528.out 1).trans rfl
      have hcz22_2 : w10.cell? ⟨gb528, 2, none⟩ = some (.slice A0_2 l0_2.length c0_2) := (blk_cell BK528.out 2).trans rfl
      have hcz22_3 : w10.cell? ⟨gb528, 3, none⟩ = some (.int .i64 a0_3) := (blk_cell BK528.out 3).trans rfl
      have hfz22_0 := blk_frozen BK528.out 0
      have hfz22_1 := blk_frozen BK528.out 1
      have hfz22_2 := blk_frozen BK528.out 2
      have hfz22_3 := blk_frozen BK528.out 3
      go_wp2_with (first | ((with_reducible refine gate_callee (f := 43) rfl ?_); refine goesL_ (some 12) rfl rfl Try.func43 (by kernel_rfl) rfl #[.agg #[.slice A0_0 l0_0.length c0_0, .slice A0_1 l0_1.length c0_1, .slice A0_2 l0_2.length c0_2, .int .i64 a0_3]] rfl (by (try simp only [List.map_toArray, List.map_cons, List.map_nil]); rfl) ?_; (with_reducible refine (impl_PolicyOk.calls k _ _ l0_0 _ _ l0_1 _ _ l0_2 a0_3 true _ ?side1 ?side2 ?side3 ?side4 ?side5 ?side6 A17.out).mono ?_); (case side1 => exact Kd.C_below HR0_0.out (by repeat ((with_reducible first | exact HB.out | refine below_set ?_ GE540.out)))); (case side2 => exact HC0_0.out); (case side3 => exact Kd.C_below HR0_1.out (by repeat ((with_reducible first | exact HB.out | refine below_set ?_ GE540.out)))); (case side4 => exact HC0_1.out); (case side5 => exact Kd.C_below HR0_2.out (by repeat ((with_reducible first | exact HB.out | refine below_set ?_ GE540.out)))); (case side6 => exact HC0_2.out); rintro e w23 ⟨rfl, hb⟩; refine ⟨_, rfl, ?_⟩; have n0_ := Aside0.mk (Kd.R_below (by (with_reducible repeat (first | apply Kd.R_alloc | apply Kd.R_drewN | apply Kd.R_drew )); exact (Kd.R_mono (Kd.R_far (p := ⟨gb540, 3, none⟩) (Kd.R_far (p := ⟨gb540, 2, none⟩) (Kd.R_far (p := ⟨gb540, 1, none⟩) (Kd.R_far (p := ⟨gb540, 0, none⟩) (Kd.R_types HO532.out BK540.out (by decide)) (fun _ hk => hk.2) (.slice Ao11 t530.length co11)) (fun _ hk => hk.2) (.slice Ao15 t533.length co15)) (fun _ hk => hk.2) (.slice Ao16 t536.length co16)) (fun _ hk => hk.2) (.int .i64 t539)) (fun _ h_ => by exact h_.1))) hb); have n1_ := Aside0.mk (Kd.R_below (by (with_reducible repeat (first | apply Kd.R_alloc | apply Kd.R_drewN | apply Kd.R_drew )); exact (Kd.R_mono (Kd.R_far (p := ⟨gb540, 3, none⟩) (Kd.R_far (p := ⟨gb540, 2, none⟩) (Kd.R_far (p := ⟨gb540, 1, none⟩) (Kd.R_far (p := ⟨gb540, 0, none⟩) (Kd.R_types HO535.out BK540.out (by decide)) (fun _ hk => hk.2) (.slice Ao11 t530.length co11)) (fun _ hk => hk.2) (.slice Ao15 t533.length co15)) (fun _ hk => hk.2) (.slice Ao16 t536.length co16)) (fun _ hk => hk.2) (.int .i64 t539)) (fun _ h_ => by exact h_.1))) hb); have n2_ := Aside0.mk (Kd.S_below (by (with_reducible repeat (first | apply Kd.S_alloc | apply Kd.S_drewN | apply Kd.S_drew )); exact (Kd.S_mono (Kd.S_far (p := ⟨gb540, 3, none⟩) (Kd.S_far (p := ⟨gb540, 2, none⟩) (Kd.S_far (p := ⟨gb540, 1, none⟩) (Kd.S_far (p := ⟨gb540, 0, none⟩) (Kd.S_types HO538.out BK540.out (by decide)) (fun _ hk => hk.2) (.slice Ao11 t530.length co11)) (fun _ hk => hk.2) (.slice Ao15 t533.length co15)) (fun _ hk => hk.2) (.slice Ao16 t536.length co16)) (fun _ hk => hk.2) (.int .i64 t539)) (fun _ h_ => by exact h_.1))) hb); have n3_ := Aside0.mk (blk_below (g := gb528) (o := .cells #[.slice A0_0 l0_0.length c0_0, .slice A0_1 l0_1.length c0_1, .slice A0_2 l0_2.length c0_2, .int .i64 a0_3] 43 (0, 0)) (by (with_reducible repeat (first | refine blk_drewN ?_ _ | refine blk_drew ?_ | refine blk_alloc ?_ _ )); refine blk_far ?_ NB528_540.out _; (with_reducible repeat (first | refine blk_drewN ?_ _ | refine blk_drew ?_ | refine blk_alloc ?_ _ )); refine blk_far ?_ NB528_540.out _; (with_reducible repeat (first | refine blk_drewN ?_ _ | refine blk_drew ?_ | refine blk_alloc ?_ _ )); refine blk_far ?_ NB528_540.out _; (with_reducible repeat (first | refine blk_drewN ?_ _ | refine blk_drew ?_ | refine blk_alloc ?_ _ )); refine blk_far ?_ NB528_540.out _; (with_reducible repeat (first | refine blk_drewN ?_ _ | refine blk_drew ?_ | refine blk_alloc ?_ _ )); exact BK528.out) hb); have n4_ := Aside0.mk (blk_below (g := gb529) (o := .cells #[.slice none 0 0, .slice none 0 0, .slice none 0 0, .int .i64 0] 43 (0, 0)) (by (with_reducible repeat (first | refine blk_drewN ?_ _ | refine blk_drew ?_ | refine blk_alloc ?_ _ )); refine blk_far ?_ NB529_540.out _; (with_reducible repeat (first | refine blk_drewN ?_ _ | refine blk_drew ?_ | refine blk_alloc ?_ _ )); refine blk_far ?_ NB529_540.out _; (with_reducible repeat (first | refine blk_drewN ?_ _ | refine blk_drew ?_ | refine blk_alloc ?_ _ )); refine blk_far ?_ NB529_540.out _; (with_reducible repeat (first | refine blk_drewN ?_ _ | refine blk_drew ?_ | refine blk_alloc ?_ _ )); refine blk_far ?_ NB529_540.out _; (with_reducible repeat (first | refine blk_drewN ?_ _ | refine blk_drew ?_ | refine blk_alloc ?_ _ )); exact BK529.out) hb); have n5_ := Aside0.mk (blk_below (g := gb540) (o := .cells #[.slice Ao11 t530.length co11, .slice Ao15 t533.length co15, .slice Ao16 t536.length co16, .int .i64 t539] 43 (0, 0)) (by (with_reducible repeat (first | refine blk_drewN ?_ _ | refine blk_drew ?_ | refine blk_alloc ?_ _ )); refine blk_put (cs := #[.slice Ao11 t530.length co11, .slice Ao15 t533.length co15, .slice Ao16 t536.length co16, .int .i64 0]) ?_ 3 _ rfl; (with_reducible repeat (first | refine blk_drewN ?_ _ | refine blk_drew ?_ | refine blk_alloc ?_ _ )); refine blk_put (cs := #[.slice Ao11 t530.length co11, .slice Ao15 t533.length co15, .slice none 0 0, .int .i64 0]) ?_ 2 _ rfl; (with_reducible repeat (first | refine blk_drewN ?_ _ | refine blk_drew ?_ | refine blk_alloc ?_ _ )); refine blk_put (cs := #[.slice Ao11 t530.length co11, .slice none 0 0, .slice none 0 0, .int .i64 0]) ?_ 1 _ rfl; (with_reducible repeat (first | refine blk_drewN ?_ _ | refine blk_drew ?_ | refine blk_alloc ?_ _ )); refine blk_put (cs := #[.slice none 0 0, .slice none 0 0, .slice none 0 0, .int .i64 0]) ?_ 0 _ rfl; (with_reducible repeat (first | refine blk_drewN ?_ _ | refine blk_drew ?_ | refine blk_alloc ?_ _ )); exact BK540.out) hb); have n6_ := Aside0.mk (below_step (by repeat ((with_reducible first | exact HB.out | refine below_set ?_ GE540.out))) hb); clear HO532; clear HO535; clear HO538; clear BK528; clear BK529; clear BK540; clear HB; have HO532 := n0_; have HO535 := n1_; have HO538 := n2_; have BK528 := n3_; have BK529 := n4_; have BK540 := n5_; have HB := n6_; clear n0_ n1_ n2_ n3_ n4_ n5_ n6_; (try clear hb); (try clear hb2); (try clear hk); (try clear hi)) | (go_at_call 81; (with_reducible refine (impl_isKey.calls a1 t542 _ A19.out).mono ?_); rintro e w' ⟨rfl, rfl⟩))
      go_meet
      case rel => exact ⟨_, (!t542), (by rfl), H', ⟨by omega⟩, ⟨Kd.Q_of_R (by (with_reducible repeat (first | apply Kd.R_alloc | apply Kd.R_drewN | apply Kd.R_drew )); exact HO532.out)⟩, ⟨by (with_reducible repeat (first | apply Kd.R_alloc | apply Kd.R_drewN | apply Kd.R_drew )); exact HO535.out⟩, ⟨by (with_reducible repeat (first | apply Kd.S_alloc | apply Kd.S_drewN | apply Kd.S_drew )); exact HO538.out⟩, ⟨by (with_reducible repeat (first | refine blk_drewN ?_ _ | refine blk_drew ?_ | refine blk_alloc ?_ _ )); exact BK528.out⟩, ⟨by (with_reducible repeat (first | refine blk_drewN ?_ _ | refine blk_drew ?_ | refine blk_alloc ?_ _ )); exact BK529.out⟩, ⟨by (with_reducible repeat (first | refine blk_drewN ?_ _ | refine blk_drew ?_ | refine blk_alloc ?_ _ )); exact BK540.out⟩, ⟨by repeat ((with_reducible exact HB.out))⟩⟩
    · replace c18 := Bool.eq_false_iff.mpr c18
      subst c18
      have H1 : (impl_PolicyTouch.j0 k a1 true l0_0 l0_1 l0_2 a0_3 t530 t533 t536 t539) = some (r1, r2, r3, r4, r5) := by rw [if_neg (show ¬ (false = true) by decide)] at H; exact H
      clear H
      have H := H1
      clear H1
      have H' := Aside0.mk H
      clear H
      have hnb24 := NB528_529.out
      have hnc24 := NB529_528.out
      have hnb25 := NB528_540.out
      have hnc25 := NB540_528.out
      have hcz26_0 : w10.cell? ⟨gb528, 0, none⟩ = some (.slice A0_0 l0_0.length c0_0) := (blk_cell BK528.out 0).trans rfl
      have hcz26_1 : w10.cell? ⟨gb528, 1, none⟩ = some (.slice A0_1 l0_1.length c0_1) := (blk_cell BK528.out 1).trans rfl
      have hcz26_2 : w10.cell? ⟨gb528, 2, none⟩ = some (.slice A0_2 l0_2.length c0_2) := (blk_cell BK528.out 2).trans rfl
      have hcz26_3 : w10.cell? ⟨gb528, 3, none⟩ = some (.int .i64 a0_3) := (blk_cell BK528.out 3).trans rfl
      have hfz26_0 := blk_frozen BK528.out 0
      have hfz26_1 := blk_frozen BK528.out 1
      have hfz26_2 := blk_frozen BK528.out 2
      have hfz26_3 := blk_frozen BK528.out 3
      go_wp2_with (((with_reducible refine gate_callee (f := 43) rfl ?_); refine goesL_ (some 12) rfl rfl Try.func43 (by kernel_rfl) rfl #[.agg #[.slice A0_0 l0_0.length c0_0, .slice A0_1 l0_1.length c0_1, .slice A0_2 l0_2.length c0_2, .int .i64 a0_3]] rfl (by (try simp only [List.map_toArray, List.map_cons, List.map_nil]); rfl) ?_; (with_reducible refine (impl_PolicyOk.calls k _ _ l0_0 _ _ l0_1 _ _ l0_2 a0_3 false _ ?side1 ?side2 ?side3 ?side4 ?side5 ?side6 A17.out).mono ?_); (case side1 => exact Kd.C_below HR0_0.out (by repeat ((with_reducible first | exact HB.out | refine below_set ?_ GE540.out)))); (case side2 => exact HC0_0.out); (case side3 => exact Kd.C_below HR0_1.out (by repeat ((with_reducible first | exact HB.out | refine below_set ?_ GE540.out)))); (case side4 => exact HC0_1.out); (case side5 => exact Kd.C_below HR0_2.out (by repeat ((with_reducible first | exact HB.out | refine below_set ?_ GE540.out)))); (case side6 => exact HC0_2.out); rintro e w27 ⟨rfl, hb⟩; refine ⟨_, rfl, ?_⟩; have n0_ := Aside0.mk (Kd.R_below (by (with_reducible repeat (first | apply Kd.R_alloc | apply Kd.R_drewN | apply Kd.R_drew )); exact (Kd.R_mono (Kd.R_far (p := ⟨gb540, 3, none⟩) (Kd.R_far (p := ⟨gb540, 2, none⟩) (Kd.R_far (p := ⟨gb540, 1, none⟩) (Kd.R_far (p := ⟨gb540, 0, none⟩) (Kd.R_types HO532.out BK540.out (by decide)) (fun _ hk => hk.2) (.slice Ao11 t530.length co11)) (fun _ hk => hk.2) (.slice Ao15 t533.length co15)) (fun _ hk => hk.2) (.slice Ao16 t536.length co16)) (fun _ hk => hk.2) (.int .i64 t539)) (fun _ h_ => by exact h_.1))) hb); have n1_ := Aside0.mk (Kd.R_below (by (with_reducible repeat (first | apply Kd.R_alloc | apply Kd.R_drewN | apply Kd.R_drew )); exact (Kd.R_mono (Kd.R_far (p := ⟨gb540, 3, none⟩) (Kd.R_far (p := ⟨gb540, 2, none⟩) (Kd.R_far (p := ⟨gb540, 1, none⟩) (Kd.R_far (p := ⟨gb540, 0, none⟩) (Kd.R_types HO535.out BK540.out (by decide)) (fun _ hk => hk.2) (.slice Ao11 t530.length co11)) (fun _ hk => hk.2) (.slice Ao15 t533.length co15)) (fun _ hk => hk.2) (.slice Ao16 t536.length co16)) (fun _ hk => hk.2) (.int .i64 t539)) (fun _ h_ => by exact h_.1))) hb); have n2_ := Aside0.mk (Kd.S_below (by (with_reducible repeat (first | apply Kd.S_alloc | apply Kd.S_drewN | apply Kd.S_drew )); exact (Kd.S_mono (Kd.S_far (p := ⟨gb540, 3, none⟩) (Kd.S_far (p := ⟨gb540, 2, none⟩) (Kd.S_far (p := ⟨gb540, 1, none⟩) (Kd.S_far (p := ⟨gb540, 0, none⟩) (Kd.S_types HO538.out BK540.out (by decide)) (fun _ hk => hk.2) (.slice Ao11 t530.length co11)) (fun _ hk => hk.2) (.slice Ao15 t533.length co15)) (fun _ hk => hk.2) (.slice Ao16 t536.length co16)) (fun _ hk => hk.2) (.int .i64 t539)) (fun _ h_ => by exact h_.1))) hb); have n3_ := Aside0.mk (blk_below (g := gb528) (o := .cells #[.slice A0_0 l0_0.length c0_0, .slice A0_1 l0_1.length c0_1, .slice A0_2 l0_2.length c0_2, .int .i64 a0_3] 43 (0, 0)) (by (with_reducible repeat (first | refine blk_drewN ?_ _ | refine blk_drew ?_ | refine blk_alloc ?_ _ )); refine blk_far ?_ NB528_540.out _; (with_reducible repeat (first | refine blk_drewN ?_ _ | refine blk_drew ?_ | refine blk_alloc ?_ _ )); refine blk_far ?_ NB528_540.out _; (with_reducible repeat (first | refine blk_drewN ?_ _ | refine blk_drew ?_ | refine blk_alloc ?_ _ )); refine blk_far ?_ NB528_540.out _; (with_reducible repeat (first | refine blk_drewN ?_ _ | refine blk_drew ?_ | refine blk_alloc ?_ _ )); refine blk_far ?_ NB528_540.out _; (with_reducible repeat (first | refine blk_drewN ?_ _ | refine blk_drew ?_ | refine blk_alloc ?_ _ )); exact BK528.out) hb); have n4_ := Aside0.mk (blk_below (g := gb529) (o := .cells #[.slice none 0 0, .slice none 0 0, .slice none 0 0, .int .i64 0] 43 (0, 0)) (by (with_reducible repeat (first | refine blk_drewN ?_ _ | refine blk_drew ?_ | refine blk_alloc ?_ _ )); refine blk_far ?_ NB529_540.out _; (with_reducible repeat (first | refine blk_drewN ?_ _ | refine blk_drew ?_ | refine blk_alloc ?_ _ )); refine blk_far ?_ NB529_540.out _; (with_reducible repeat (first | refine blk_drewN ?_ _ | refine blk_drew ?_ | refine blk_alloc ?_ _ )); refine blk_far ?_ NB529_540.out _; (with_reducible repeat (first | refine blk_drewN ?_ _ | refine blk_drew ?_ | refine blk_alloc ?_ _ )); refine blk_far ?_ NB529_540.out _; (with_reducible repeat (first | refine blk_drewN ?_ _ | refine blk_drew ?_ | refine blk_alloc ?_ _ )); exact BK529.out) hb); have n5_ := Aside0.mk (blk_below (g := gb540) (o := .cells #[.slice Ao11 t530.length co11, .slice Ao15 t533.length co15, .slice Ao16 t536.length co16, .int .i64 t539] 43 (0, 0)) (by (with_reducible repeat (first | refine blk_drewN ?_ _ | refine blk_drew ?_ | refine blk_alloc ?_ _ )); refine blk_put (cs := #[.slice Ao11 t530.length co11, .slice Ao15 t533.length co15, .slice Ao16 t536.length co16, .int .i64 0]) ?_ 3 _ rfl; (with_reducible repeat (first | refine blk_drewN ?_ _ | refine blk_drew ?_ | refine blk_alloc ?_ _ )); refine blk_put (cs := #[.slice Ao11 t530.length co11, .slice Ao15 t533.length co15, .slice none 0 0, .int .i64 0]) ?_ 2 _ rfl; (with_reducible repeat (first | refine blk_drewN ?_ _ | refine blk_drew ?_ | refine blk_alloc ?_ _ )); refine blk_put (cs := #[.slice Ao11 t530.length co11, .slice none 0 0, .slice none 0 0, .int .i64 0]) ?_ 1 _ rfl; (with_reducible repeat (first | refine blk_drewN ?_ _ | refine blk_drew ?_ | refine blk_alloc ?_ _ )); refine blk_put (cs := #[.slice none 0 0, .slice none 0 0, .slice none 0 0, .int .i64 0]) ?_ 0 _ rfl; (with_reducible repeat (first | refine blk_drewN ?_ _ | refine blk_drew ?_ | refine blk_alloc ?_ _ )); exact BK540.out) hb); have n6_ := Aside0.mk (below_step (by repeat ((with_reducible first | exact HB.out | refine below_set ?_ GE540.out))) hb); clear HO532; clear HO535; clear HO538; clear BK528; clear BK529; clear BK540; clear HB; have HO532 := n0_; have HO535 := n1_; have HO538 := n2_; have BK528 := n3_; have BK529 := n4_; have BK540 := n5_; have HB := n6_; clear n0_ n1_ n2_ n3_ n4_ n5_ n6_; (try clear hb); (try clear hb2); (try clear hk); (try clear hi)))
      go_meet
      case rel => exact ⟨_, (true), (by rfl), H', ⟨by omega⟩, ⟨Kd.Q_of_R (by (with_reducible repeat (first | apply Kd.R_alloc | apply Kd.R_drewN | apply Kd.R_drew )); exact HO532.out)⟩, ⟨by (with_reducible repeat (first | apply Kd.R_alloc | apply Kd.R_drewN | apply Kd.R_drew )); exact HO535.out⟩, ⟨by (with_reducible repeat (first | apply Kd.S_alloc | apply Kd.S_drewN | apply Kd.S_drew )); exact HO538.out⟩, ⟨by (with_reducible repeat (first | refine blk_drewN ?_ _ | refine blk_drew ?_ | refine blk_alloc ?_ _ )); exact BK528.out⟩, ⟨by (with_reducible repeat (first | refine blk_drewN ?_ _ | refine blk_drew ?_ | refine blk_alloc ?_ _ )); exact BK529.out⟩, ⟨by (with_reducible repeat (first | refine blk_drewN ?_ _ | refine blk_drew ?_ | refine blk_alloc ?_ _ )); exact BK540.out⟩, ⟨by repeat ((with_reducible exact HB.out))⟩⟩
  case rest =>
    clear HC4
    clear hcz14_0
    clear hcz14_1
    clear hcz14_2
    clear hcz14_3
    clear hcz8_0
    clear hcz8_1
    clear hcz8_2
    clear hcz8_3
    clear hfz14_0
    clear hfz14_1
    clear hfz14_2
    clear hfz14_3
    clear hfz8_0
    clear hfz8_1
    clear hfz8_2
    clear hfz8_3
    obtain ⟨kq, x18_3, rfl, HA, HJ3, HO_541000, HO_541001, HO_541002, BK528, BK529, BK540, HB⟩ := hcut
    cases kq with
    | zero => exact absurd HA.out (by simp [impl_PolicyTouch.j0])
    | succ kj3 =>
      have H := HA.out
      clear HA
      simp only [impl_PolicyTouch.j0] at H
      by_cases c28 : x18_3 = true
      · subst c28
        have H1 : (some (t530, t533, t536, t539, (⟨#[]⟩ : ByteArray))) = some (r1, r2, r3, r4, r5) := by rw [if_pos rfl] at H; exact H
        clear H
        have H := H1
        clear H1
        simp only [Option.some.injEq, Prod.mk.injEq] at H
        obtain ⟨rfl, rfl, rfl, rfl, rfl⟩ := H
        have hnb29 := NB540_528.out
        have hnc29 := NB528_540.out
        have hnb30 := NB540_529.out
        have hnc30 := NB529_540.out
        have hcz31_0 : wc.cell? ⟨gb540, 0, none⟩ = some (.slice Ao11 t530.length co11) := (blk_cell BK540.out 0).trans rfl
        have hcz31_1 : wc.cell? ⟨gb540, 1, none⟩ = some (.slice Ao15 t533.length co15) := (blk_cell BK540.out 1).trans rfl
        have hcz31_2 : wc.cell? ⟨gb540, 2, none⟩ = some (.slice Ao16 t536.length co16) := (blk_cell BK540.out 2).trans rfl
        have hcz31_3 : wc.cell? ⟨gb540, 3, none⟩ = some (.int .i64 t539) := (blk_cell BK540.out 3).trans rfl
        have hfz31_0 := blk_frozen BK540.out 0
        have hfz31_1 := blk_frozen BK540.out 1
        have hfz31_2 := blk_frozen BK540.out 2
        have hfz31_3 := blk_frozen BK540.out 3
        have hnb32 := NB529_528.out
        have hnc32 := NB528_529.out
        have hcz33_0 : wc.cell? ⟨gb529, 0, none⟩ = some (.slice none 0 0) := (blk_cell BK529.out 0).trans rfl
        have hcz33_1 : wc.cell? ⟨gb529, 1, none⟩ = some (.slice none 0 0) := (blk_cell BK529.out 1).trans rfl
        have hcz33_2 : wc.cell? ⟨gb529, 2, none⟩ = some (.slice none 0 0) := (blk_cell BK529.out 2).trans rfl
        have hcz33_3 : wc.cell? ⟨gb529, 3, none⟩ = some (.int .i64 0) := (blk_cell BK529.out 3).trans rfl
        have hfz33_0 := blk_frozen BK529.out 0
        have hfz33_1 := blk_frozen BK529.out 1
        have hfz33_2 := blk_frozen BK529.out 2
        have hfz33_3 := blk_frozen BK529.out 3
        go_wp2
        refine bodyPost_ret (results_ct rfl _ _ gb529 43 #[.slice Ao11 t530.length co11, .slice Ao15 t533.length co15, .slice Ao16 t536.length co16, .int .i64 t539] (0, 0) _ rfl (by (with_reducible repeat (first | refine blk_drewN ?_ _ | refine blk_drew ?_ | refine blk_alloc ?_ _ )); refine blk_put (cs := #[.slice Ao11 t530.length co11, .slice Ao15 t533.length co15, .slice Ao16 t536.length co16, .int .i64 0]) ?_ 3 _ rfl; (with_reducible repeat (first | refine blk_drewN ?_ _ | refine blk_drew ?_ | refine blk_alloc ?_ _ )); refine blk_put (cs := #[.slice Ao11 t530.length co11, .slice Ao15 t533.length co15, .slice none 0 0, .int .i64 0]) ?_ 2 _ rfl; (with_reducible repeat (first | refine blk_drewN ?_ _ | refine blk_drew ?_ | refine blk_alloc ?_ _ )); refine blk_put (cs := #[.slice Ao11 t530.length co11, .slice none 0 0, .slice none 0 0, .int .i64 0]) ?_ 1 _ rfl; (with_reducible repeat (first | refine blk_drewN ?_ _ | refine blk_drew ?_ | refine blk_alloc ?_ _ )); refine blk_put (cs := #[.slice none 0 0, .slice none 0 0, .slice none 0 0, .int .i64 0]) ?_ 0 _ rfl; (with_reducible repeat (first | refine blk_drewN ?_ _ | refine blk_drew ?_ | refine blk_alloc ?_ _ )); exact BK529.out) Try.underlying43 rfl (by kernel_rfl)) rfl ?_
        exact ⟨_, _, _, by rfl, by (with_reducible repeat (first | apply Kd.Q_alloc | apply Kd.Q_drewN | apply Kd.Q_drew )); exact Kd.Q_mono (Kd.Q_far (p := ⟨gb529, 3, none⟩) (Kd.Q_far (p := ⟨gb529, 2, none⟩) (Kd.Q_far (p := ⟨gb529, 1, none⟩) (Kd.Q_far (p := ⟨gb529, 0, none⟩) (Kd.Q_types HO_541000.out BK529.out (by decide)) (fun _ hk => hk.2) (.slice Ao11 t530.length co11)) (fun _ hk => hk.2) (.slice Ao15 t533.length co15)) (fun _ hk => hk.2) (.slice Ao16 t536.length co16)) (fun _ hk => hk.2) (.int .i64 t539)) (fun _ hk => hk.1), Kd.Q_of_R (by (with_reducible repeat (first | apply Kd.R_alloc | apply Kd.R_drewN | apply Kd.R_drew )); exact Kd.R_mono (Kd.R_far (p := ⟨gb529, 3, none⟩) (Kd.R_far (p := ⟨gb529, 2, none⟩) (Kd.R_far (p := ⟨gb529, 1, none⟩) (Kd.R_far (p := ⟨gb529, 0, none⟩) (Kd.R_types HO_541001.out BK529.out (by decide)) (fun _ hk => hk.2) (.slice Ao11 t530.length co11)) (fun _ hk => hk.2) (.slice Ao15 t533.length co15)) (fun _ hk => hk.2) (.slice Ao16 t536.length co16)) (fun _ hk => hk.2) (.int .i64 t539)) (fun _ hk => hk.1)), by (with_reducible repeat (first | apply Kd.S_alloc | apply Kd.S_drewN | apply Kd.S_drew )); exact Kd.S_mono (Kd.S_far (p := ⟨gb529, 3, none⟩) (Kd.S_far (p := ⟨gb529, 2, none⟩) (Kd.S_far (p := ⟨gb529, 1, none⟩) (Kd.S_far (p := ⟨gb529, 0, none⟩) (Kd.S_types HO_541002.out BK529.out (by decide)) (fun _ hk => hk.2) (.slice Ao11 t530.length co11)) (fun _ hk => hk.2) (.slice Ao15 t533.length co15)) (fun _ hk => hk.2) (.slice Ao16 t536.length co16)) (fun _ hk => hk.2) (.int .i64 t539)) (fun _ hk => trivial), by repeat ((with_reducible first | exact HB.out | refine below_set ?_ GE529.out))⟩
      · replace c28 := Bool.eq_false_iff.mpr c28
        subst c28
        have H1 : ((impl_SketchBump.f kj3 l0_2 a0_3 a1).bind fun bt543 => ((slices_Contains_string_string.f kj3 l0_1 a1).bind fun t547 => (if t547 = true then ((impl_withoutKey.f l0_1 a1).bind fun t548 => (if t548.length < 8796093022208 then (some (t530, (t548 ++ [a1]), bt543.1, bt543.2, (⟨#[]⟩ : ByteArray))) else (none))) else ((impl_withoutKey.f l0_0 a1).bind fun t554 => (if t554.length < 8796093022208 then ((some (t554 ++ [a1] : List ByteArray)).bind fun y557 => (if (y557.length : Int) ≤ 2 then (some (y557, t533, bt543.1, bt543.2, (⟨#[]⟩ : ByteArray))) else (if 0 < (y557.length : Int) then (if 1 ≤ (y557.length : Int) then ((some (y557.drop (1 : Int).toNat : List ByteArray)).bind fun y561 => (if (t533.length : Int) < 4 then (if t533.length < 8796093022208 then (some (y561, (t533 ++ [rdOf ByteArray.empty y557 0]), bt543.1, bt543.2, (⟨#[]⟩ : ByteArray))) else (none)) else (if 0 < (t533.length : Int) then ((impl_SketchGuess.f kj3 bt543.1 bt543.2 (rdOf ByteArray.empty y557 0)).bind fun t568 => ((impl_SketchGuess.f kj3 bt543.1 bt543.2 (rdOf ByteArray.empty t533 0)).bind fun t569 => (if t568 > t569 then (if 1 ≤ (t533.length : Int) then ((some (t533.drop (1 : Int).toNat : List ByteArray)).bind fun y570 => (if y570.length < 8796093022208 then (some (y561, (y570 ++ [rdOf ByteArray.empty y557 0]), bt543.1, bt543.2, rdOf ByteArray.empty t533 0)) else (none))) else (none)) else (some (y561, t533, bt543.1, bt543.2, rdOf ByteArray.empty y557 0))))) else (none)))) else (none)) else (none)))) else (none)))))) = some (r1, r2, r3, r4, r5) := by rw [if_neg (show ¬ (false = true) by decide)] at H; exact H
        clear H
        have H := H1
        clear H1
        replace H := Option.bind_eq_some_iff.mp H
        obtain ⟨⟨t543, t546⟩, A340, H⟩ := H
        replace H : ((slices_Contains_string_string.f kj3 l0_1 a1).bind fun t547 => (if t547 = true then ((impl_withoutKey.f l0_1 a1).bind fun t548 => (if t548.length < 8796093022208 then (some (t530, (t548 ++ [a1]), t543, t546, (⟨#[]⟩ : ByteArray))) else (none))) else ((impl_withoutKey.f l0_0 a1).bind fun t554 => (if t554.length < 8796093022208 then ((some (t554 ++ [a1] : List ByteArray)).bind fun y557 => (if (y557.length : Int) ≤ 2 then (some (y557, t533, t543, t546, (⟨#[]⟩ : ByteArray))) else (if 0 < (y557.length : Int) then (if 1 ≤ (y557.length : Int) then ((some (y557.drop (1 : Int).toNat : List ByteArray)).bind fun y561 => (if (t533.length : Int) < 4 then (if t533.length < 8796093022208 then (some (y561, (t533 ++ [rdOf ByteArray.empty y557 0]), t543, t546, (⟨#[]⟩ : ByteArray))) else (none)) else (if 0 < (t533.length : Int) then ((impl_SketchGuess.f kj3 t543 t546 (rdOf ByteArray.empty y557 0)).bind fun t568 => ((impl_SketchGuess.f kj3 t543 t546 (rdOf ByteArray.empty t533 0)).bind fun t569 => (if t568 > t569 then (if 1 ≤ (t533.length : Int) then ((some (t533.drop (1 : Int).toNat : List ByteArray)).bind fun y570 => (if y570.length < 8796093022208 then (some (y561, (y570 ++ [rdOf ByteArray.empty y557 0]), t543, t546, rdOf ByteArray.empty t533 0)) else (none))) else (none)) else (some (y561, t533, t543, t546, rdOf ByteArray.empty y557 0))))) else (none)))) else (none)) else (none)))) else (none))))) = some (r1, r2, r3, r4, r5) := H
        have A34 := Aside0.mk A340
        clear A340
        replace H := Option.bind_eq_some_iff.mp H
        obtain ⟨t547, A350, H⟩ := H
        replace H : (if t547 = true then ((impl_withoutKey.f l0_1 a1).bind fun t548 => (if t548.length < 8796093022208 then (some (t530, (t548 ++ [a1]), t543, t546, (⟨#[]⟩ : ByteArray))) else (none))) else ((impl_withoutKey.f l0_0 a1).bind fun t554 => (if t554.length < 8796093022208 then ((some (t554 ++ [a1] : List ByteArray)).bind fun y557 => (if (y557.length : Int) ≤ 2 then (some (y557, t533, t543, t546, (⟨#[]⟩ : ByteArray))) else (if 0 < (y557.length : Int) then (if 1 ≤ (y557.length : Int) then ((some (y557.drop (1 : Int).toNat : List ByteArray)).bind fun y561 => (if (t533.length : Int) < 4 then (if t533.length < 8796093022208 then (some (y561, (t533 ++ [rdOf ByteArray.empty y557 0]), t543, t546, (⟨#[]⟩ : ByteArray))) else (none)) else (if 0 < (t533.length : Int) then ((impl_SketchGuess.f kj3 t543 t546 (rdOf ByteArray.empty y557 0)).bind fun t568 => ((impl_SketchGuess.f kj3 t543 t546 (rdOf ByteArray.empty t533 0)).bind fun t569 => (if t568 > t569 then (if 1 ≤ (t533.length : Int) then ((some (t533.drop (1 : Int).toNat : List ByteArray)).bind fun y570 => (if y570.length < 8796093022208 then (some (y561, (y570 ++ [rdOf ByteArray.empty y557 0]), t543, t546, rdOf ByteArray.empty t533 0)) else (none))) else (none)) else (some (y561, t533, t543, t546, rdOf ByteArray.empty y557 0))))) else (none)))) else (none)) else (none)))) else (none)))) = some (r1, r2, r3, r4, r5) := H
        have A35 := Aside0.mk A350
        clear A350
        have HS36 := Aside0.mk H
        clear H
        have hnb37 := NB528_529.out
        have hnc37 := NB529_528.out
        have hnb38 := NB528_540.out
        have hnc38 := NB540_528.out
        have hcz39_0 : wc.cell? ⟨gb528, 0, none⟩ = some (.slice A0_0 l0_0.length c0_0) := (blk_cell BK528.out 0).trans rfl
        have hcz39_1 : wc.cell? ⟨gb528, 1, none⟩ = some (.slice A0_1 l0_1.length c0_1) := (blk_cell BK528.out 1).trans rfl
        have hcz39_2 : wc.cell? ⟨gb528, 2, none⟩ = some (.slice A0_2 l0_2.length c0_2) := (blk_cell BK528.out 2).trans rfl
        have hcz39_3 : wc.cell? ⟨gb528, 3, none⟩ = some (.int .i64 a0_3) := (blk_cell BK528.out 3).trans rfl
        have hfz39_0 := blk_frozen BK528.out 0
        have hfz39_1 := blk_frozen BK528.out 1
        have hfz39_2 := blk_frozen BK528.out 2
        have hfz39_3 := blk_frozen BK528.out 3
        go_upto_if 28 with (first | ((with_reducible refine gate_callee (f := 30) rfl ?_); refine goesL_ (some 23) rfl rfl Try.func30 (by kernel_rfl) rfl #[.agg #[.slice A0_2 l0_2.length c0_2, .int .i64 a0_3], .string a1] rfl (by (try simp only [List.map_toArray, List.map_cons, List.map_nil]); rfl) ?_; (with_reducible refine (impl_SketchBump.calls kj3 _ _ l0_2 a0_3 a1 t543 t546 _ ?side1 ?side2 A34.out).mono ?_); (case side1 => repeat (exact (Kd.C_below HR0_2.out HB.out))); (case side2 => exact HC0_2.out); rintro e w40 ⟨v544, rfl, ho0, hb⟩; refine ⟨_, rfl, ?_⟩; have n0_ := Aside0.mk (Kd.Q_below (by (with_reducible repeat (first | apply Kd.Q_alloc | apply Kd.Q_drewN | apply Kd.Q_drew )); exact HO_541000.out) hb); have n1_ := Aside0.mk (Kd.R_below (by (with_reducible repeat (first | apply Kd.R_alloc | apply Kd.R_drewN | apply Kd.R_drew )); exact HO_541001.out) hb); have n2_ := Aside0.mk (Kd.S_elder' (by (with_reducible repeat (first | apply Kd.S_alloc | apply Kd.S_drewN | apply Kd.S_drew )); exact HO_541002.out) (Kd.S_base ho0) hb); have n3_ := Aside0.mk (Kd.S_lower (Kd.S_new' ho0 (Kd.S_lt (by (with_reducible repeat (first | apply Kd.S_alloc | apply Kd.S_drewN | apply Kd.S_drew )); exact HO_541002.out))) (below_size (by repeat ((with_reducible exact HB.out))))); have n4_ := Aside0.mk (blk_below (g := gb528) (o := .cells #[.slice A0_0 l0_0.length c0_0, .slice A0_1 l0_1.length c0_1, .slice A0_2 l0_2.length c0_2, .int .i64 a0_3] 43 (0, 0)) (by (with_reducible repeat (first | refine blk_drewN ?_ _ | refine blk_drew ?_ | refine blk_alloc ?_ _ )); exact BK528.out) hb); have n5_ := Aside0.mk (blk_below (g := gb529) (o := .cells #[.slice none 0 0, .slice none 0 0, .slice none 0 0, .int .i64 0] 43 (0, 0)) (by (with_reducible repeat (first | refine blk_drewN ?_ _ | refine blk_drew ?_ | refine blk_alloc ?_ _ )); exact BK529.out) hb); have n6_ := Aside0.mk (blk_below (g := gb540) (o := .cells #[.slice Ao11 t530.length co11, .slice Ao15 t533.length co15, .slice Ao16 t536.length co16, .int .i64 t539] 43 (0, 0)) (by (with_reducible repeat (first | refine blk_drewN ?_ _ | refine blk_drew ?_ | refine blk_alloc ?_ _ )); exact BK540.out) hb); have n7_ := Aside0.mk (below_step (by repeat ((with_reducible exact HB.out))) hb); clear HO_541000; clear HO_541001; clear HO_541002; clear BK528; clear BK529; clear BK540; clear HB; have HO_541000 := n0_; have HO_541001 := n1_; have HO_541002 := n2_; have HO545 := n3_; have BK528 := n4_; have BK529 := n5_; have BK540 := n6_; have HB := n7_; clear n0_ n1_ n2_ n3_ n4_ n5_ n6_ n7_; (try clear hb); (try clear hb2); (try clear hk); (try clear hi); (try clear ho0); obtain ⟨Ao41, co41, eo41⟩ := Kd.S_slice HO545.out; subst eo41; have hnb42 := NB540_529.out; have hnc42 := NB529_540.out; have hcz43_0 : w40.cell? ⟨gb540, 0, none⟩ = some (.slice Ao11 t530.length co11) := (blk_cell BK540.out 0).trans rfl; have hcz43_1 : w40.cell? ⟨gb540, 1, none⟩ = some (.slice Ao15 t533.length co15) := (blk_cell BK540.out 1).trans rfl; have hcz43_2 : w40.cell? ⟨gb540, 2, none⟩ = some (.slice Ao16 t536.length co16) := (blk_cell BK540.out 2).trans rfl; have hcz43_3 : w40.cell? ⟨gb540, 3, none⟩ = some (.int .i64 t539) := (blk_cell BK540.out 3).trans rfl; have hfz43_0 := blk_frozen BK540.out 0; have hfz43_1 := blk_frozen BK540.out 1; have hfz43_2 := blk_frozen BK540.out 2; have hfz43_3 := blk_frozen BK540.out 3; have hcz44_0 : w40.cell? ⟨gb528, 0, none⟩ = some (.slice A0_0 l0_0.length c0_0) := (blk_cell BK528.out 0).trans rfl; have hcz44_1 : w40.cell? ⟨gb528, 1, none⟩ = some (.slice A0_1 l0_1.length c0_1) := (blk_cell BK528.out 1).trans rfl; have hcz44_2 : w40.cell? ⟨gb528, 2, none⟩ = some (.slice A0_2 l0_2.length c0_2) := (blk_cell BK528.out 2).trans rfl; have hcz44_3 : w40.cell? ⟨gb528, 3, none⟩ = some (.int .i64 a0_3) := (blk_cell BK528.out 3).trans rfl; have hfz44_0 := blk_frozen BK528.out 0; have hfz44_1 := blk_frozen BK528.out 1; have hfz44_2 := blk_frozen BK528.out 2; have hfz44_3 := blk_frozen BK528.out 3) | ((with_reducible refine gate_callee (f := 78) rfl ?_); refine goesL_ (some 28) rfl rfl Try.func78 (by kernel_rfl) rfl #[.slice A0_1 l0_1.length c0_1, .string a1] rfl (by (try simp only [List.map_toArray, List.map_cons, List.map_nil]); rfl) ?_; (with_reducible refine (slices_Contains_string_string.calls kj3 _ _ l0_1 a1 t547 _ ?side1 ?side2 A35.out).mono ?_); (case side1 => exact Kd.C_below HR0_1.out (by repeat ((with_reducible first | exact HB.out | refine below_set ?_ GE540.out)))); (case side2 => exact HC0_1.out); rintro e w' ⟨rfl, ⟨nd, rfl⟩⟩; refine ⟨_, rfl, ?_⟩))
        (try simp only [Act.put, List.setIfInBounds_toArray, List.set_cons_zero, List.set_cons_succ])
        have H := HS36.out
        clear HS36
        by_cases c45 : t547 = true
        · subst c45
          have H1 : ((impl_withoutKey.f l0_1 a1).bind fun t548 => (if t548.length < 8796093022208 then (some (t530, (t548 ++ [a1]), t543, t546, (⟨#[]⟩ : ByteArray))) else (none))) = some (r1, r2, r3, r4, r5) := by rw [if_pos rfl] at H; exact H
          clear H
          have H := H1
          clear H1
          replace H := Option.bind_eq_some_iff.mp H
          obtain ⟨t548, A460, H⟩ := H
          replace H : (if t548.length < 8796093022208 then (some (t530, (t548 ++ [a1]), t543, t546, (⟨#[]⟩ : ByteArray))) else (none)) = some (r1, r2, r3, r4, r5) := H
          have A46 := Aside0.mk A460
          clear A460
          by_cases c47 : t548.length < 8796093022208
          · rw [if_pos c47] at H
            have LMc47 := Aside0.mk c47
            clear c47
            obtain ⟨y551, hy551⟩ : ∃ y_ : List ByteArray, y_ = (t548 ++ [a1]) := ⟨_, rfl⟩
            replace H : (some (t530, y551, t543, t546, (⟨#[]⟩ : ByteArray))) = some (r1, r2, r3, r4, r5) := by (rw [hy551]; with_reducible exact H)
            have Ny551 := Aside0.mk hy551
            clear hy551
            simp only [Option.some.injEq, Prod.mk.injEq] at H
            obtain ⟨rfl, rfl, rfl, rfl, rfl⟩ := H
            have hnb48 := NB528_529.out
            have hnc48 := NB529_528.out
            have hnb49 := NB528_540.out
            have hnc49 := NB540_528.out
            have hcz50_0 : w40.cell? ⟨gb528, 0, none⟩ = some (.slice A0_0 l0_0.length c0_0) := (blk_cell BK528.out 0).trans rfl
            have hcz50_1 : w40.cell? ⟨gb528, 1, none⟩ = some (.slice A0_1 l0_1.length c0_1) := (blk_cell BK528.out 1).trans rfl
            have hcz50_2 : w40.cell? ⟨gb528, 2, none⟩ = some (.slice A0_2 l0_2.length c0_2) := (blk_cell BK528.out 2).trans rfl
            have hcz50_3 : w40.cell? ⟨gb528, 3, none⟩ = some (.int .i64 a0_3) := (blk_cell BK528.out 3).trans rfl
            have hfz50_0 := blk_frozen BK528.out 0
            have hfz50_1 := blk_frozen BK528.out 1
            have hfz50_2 := blk_frozen BK528.out 2
            have hfz50_3 := blk_frozen BK528.out 3
            go_wp2_with (first | ((with_reducible refine gate_callee (f := 84) rfl ?_); refine goesL_ (some 32) rfl rfl Try.func84 (by kernel_rfl) rfl #[.slice A0_1 l0_1.length c0_1, .string a1] rfl (by (try simp only [List.map_toArray, List.map_cons, List.map_nil]); rfl) ?_; (with_reducible refine (impl_withoutKey.calls _ _ l0_1 a1 t548 _ ?side1 ?side2 A46.out).mono ?_); (case side1 => exact Kd.C_below HR0_1.out (by repeat ((with_reducible first | exact HB.out | apply pw_below_drewN | refine below_set ?_ GE540.out)))); (case side2 => exact HC0_1.out); rintro e w51 ⟨v549, rfl, ho0, hb⟩; refine ⟨_, rfl, ?_⟩; have n0_ := Aside0.mk (Kd.Q_elder' (by (with_reducible repeat (apply Kd.Q_drewN)); exact (Kd.Q_mono (Kd.Q_far (p := ⟨gb540, 3, none⟩) (Kd.Q_far (p := ⟨gb540, 2, none⟩) (Kd.Q_types HO_541000.out BK540.out (by decide)) (fun _ hk => hk.2) (.slice Ao41 t543.length co41)) (fun _ hk => hk.2) (.int .i64 t546)) (fun _ h_ => by exact h_.1))) (Kd.R_base ho0) hb); have n1_ := Aside0.mk (Kd.R_elder' (by (with_reducible repeat (apply Kd.R_drewN)); exact (Kd.R_mono (Kd.R_far (p := ⟨gb540, 3, none⟩) (Kd.R_far (p := ⟨gb540, 2, none⟩) (Kd.R_types HO_541001.out BK540.out (by decide)) (fun _ hk => hk.2) (.slice Ao41 t543.length co41)) (fun _ hk => hk.2) (.int .i64 t546)) (fun _ h_ => by exact h_.1))) (Kd.R_base ho0) hb); have n2_ := Aside0.mk (Kd.S_below (by (with_reducible repeat (apply Kd.S_drewN)); exact (Kd.S_mono (Kd.S_far (p := ⟨gb540, 3, none⟩) (Kd.S_far (p := ⟨gb540, 2, none⟩) (Kd.S_types HO_541002.out BK540.out (by decide)) (fun _ hk => hk.2) (.slice Ao41 t543.length co41)) (fun _ hk => hk.2) (.int .i64 t546)) (fun _ h_ => by exact h_.1))) hb); have n3_ := Aside0.mk (Kd.S_below (by (with_reducible repeat (apply Kd.S_drewN)); exact (Kd.S_mono (Kd.S_far (p := ⟨gb540, 3, none⟩) (Kd.S_far (p := ⟨gb540, 2, none⟩) (Kd.S_types HO545.out BK540.out (by decide)) (fun _ hk => hk.2) (.slice Ao41 t543.length co41)) (fun _ hk => hk.2) (.int .i64 t546)) (fun _ h_ => by exact h_.1))) hb); have n4_ := Aside0.mk (Kd.R_lower (Kd.R_new' (Kd.R_new' ho0 (Kd.Q_lt (by (with_reducible repeat (apply Kd.Q_drewN)); exact (Kd.Q_mono (Kd.Q_far (p := ⟨gb540, 3, none⟩) (Kd.Q_far (p := ⟨gb540, 2, none⟩) (Kd.Q_types HO_541000.out BK540.out (by decide)) (fun _ hk => hk.2) (.slice Ao41 t543.length co41)) (fun _ hk => hk.2) (.int .i64 t546)) (fun _ h_ => by exact h_.1))))) (Kd.R_lt (by (with_reducible repeat (apply Kd.R_drewN)); exact (Kd.R_mono (Kd.R_far (p := ⟨gb540, 3, none⟩) (Kd.R_far (p := ⟨gb540, 2, none⟩) (Kd.R_types HO_541001.out BK540.out (by decide)) (fun _ hk => hk.2) (.slice Ao41 t543.length co41)) (fun _ hk => hk.2) (.int .i64 t546)) (fun _ h_ => by exact h_.1))))) (below_size (by repeat ((with_reducible first | exact HB.out | apply pw_below_drewN | refine below_set ?_ GE540.out))))); have n5_ := Aside0.mk (blk_below (g := gb528) (o := .cells #[.slice A0_0 l0_0.length c0_0, .slice A0_1 l0_1.length c0_1, .slice A0_2 l0_2.length c0_2, .int .i64 a0_3] 43 (0, 0)) (by (with_reducible repeat (refine blk_drewN ?_ _)); refine blk_far ?_ NB528_540.out _; (with_reducible repeat (first | refine blk_drewN ?_ _ | refine blk_drew ?_ | refine blk_alloc ?_ _ )); refine blk_far ?_ NB528_540.out _; (with_reducible repeat (first | refine blk_drewN ?_ _ | refine blk_drew ?_ | refine blk_alloc ?_ _ )); exact BK528.out) hb); have n6_ := Aside0.mk (blk_below (g := gb529) (o := .cells #[.slice none 0 0, .slice none 0 0, .slice none 0 0, .int .i64 0] 43 (0, 0)) (by (with_reducible repeat (refine blk_drewN ?_ _)); refine blk_far ?_ NB529_540.out _; (with_reducible repeat (first | refine blk_drewN ?_ _ | refine blk_drew ?_ | refine blk_alloc ?_ _ )); refine blk_far ?_ NB529_540.out _; (with_reducible repeat (first | refine blk_drewN ?_ _ | refine blk_drew ?_ | refine blk_alloc ?_ _ )); exact BK529.out) hb); have n7_ := Aside0.mk (blk_below (g := gb540) (o := .cells #[.slice Ao11 t530.length co11, .slice Ao15 t533.length co15, .slice Ao41 t543.length co41, .int .i64 t546] 43 (0, 0)) (by (with_reducible repeat (refine blk_drewN ?_ _)); refine blk_put (cs := #[.slice Ao11 t530.length co11, .slice Ao15 t533.length co15, .slice Ao41 t543.length co41, .int .i64 t539]) ?_ 3 _ rfl; (with_reducible repeat (first | refine blk_drewN ?_ _ | refine blk_drew ?_ | refine blk_alloc ?_ _ )); refine blk_put (cs := #[.slice Ao11 t530.length co11, .slice Ao15 t533.length co15, .slice Ao16 t536.length co16, .int .i64 t539]) ?_ 2 _ rfl; (with_reducible repeat (first | refine blk_drewN ?_ _ | refine blk_drew ?_ | refine blk_alloc ?_ _ )); exact BK540.out) hb); have n8_ := Aside0.mk (below_step (by repeat ((with_reducible first | exact HB.out | apply pw_below_drewN | refine below_set ?_ GE540.out))) hb); clear HO_541000; clear HO_541001; clear HO_541002; clear HO545; clear BK528; clear BK529; clear BK540; clear HB; have HO_541000 := n0_; have HO_541001 := n1_; have HO_541002 := n2_; have HO545 := n3_; have HO550 := n4_; have BK528 := n5_; have BK529 := n6_; have BK540 := n7_; have HB := n8_; clear n0_ n1_ n2_ n3_ n4_ n5_ n6_ n7_ n8_; (try clear hb); (try clear hb2); (try clear hk); (try clear hi); (try clear ho0)) | ((with_reducible refine gate_builtin (b := .append) (xs := #[.tmp 32, .tmp 34]) rfl ?_); at_builtin; refine Kd.R_append Kd.string (w0 := w) w.heap.size rfl (.tmp 32) (.tmp 34) 38 9 (.string ⟨#[]⟩) 16 rfl Try.underlying38 info9 rfl (by decide) (by omega) v549 t548 a1 [.string a1] (fun k_ => some k_ ≠ (.slice Ao11 t530.length co11 : Value).ownBlock ∧ some k_ ≠ (.slice Ao15 t533.length co15 : Value).ownBlock) (fun _ => False) rfl rfl ?aP (fun _ hk => hk.elim) ?aF ?aO ?aB ?aS ?aL ?_; (case aP => exact rfl); (case aB => exact (by repeat ((with_reducible exact HB.out)))); (case aF => exact (fun k_ hk => ⟨Kd.fresh' (Kd.Q_lt (by (with_reducible repeat (first | apply Kd.Q_alloc | apply Kd.Q_drewN | apply Kd.Q_drew )); exact HO_541000.out)) k_ hk, Kd.fresh' (Kd.R_lt (by (with_reducible repeat (first | apply Kd.R_alloc | apply Kd.R_drewN | apply Kd.R_drew )); exact HO_541001.out)) k_ hk⟩)); (case aO => exact (by (with_reducible repeat (first | apply Kd.R_alloc | apply Kd.R_drewN | apply Kd.R_drew )); exact Kd.R_mono HO550.out (fun _ hk => ⟨hk.1.2, hk.2⟩))); (case aS => exact (below_size (by repeat ((with_reducible exact HB.out))))); (case aL => have := LMc47.out; omega); intro v552 w52 ho hb hg hat; rw [← Ny551.out] at ho; have n0_ := Aside0.mk (Kd.Q_after (ok := (fun k_ => some k_ ≠ (.slice Ao15 t533.length co15 : Value).ownBlock)) (by (with_reducible repeat (first | apply Kd.Q_alloc | apply Kd.Q_drewN | apply Kd.Q_drew )); exact HO_541000.out) hg hat); have n1_ := Aside0.mk (Kd.R_after (ok := (fun k_ => some k_ ≠ (.slice Ao11 t530.length co11 : Value).ownBlock)) (by (with_reducible repeat (first | apply Kd.R_alloc | apply Kd.R_drewN | apply Kd.R_drew )); exact HO_541001.out) hg hat); have n2_ := Aside0.mk (Kd.S_over' (by (with_reducible repeat (first | apply Kd.S_alloc | apply Kd.S_drewN | apply Kd.S_drew )); exact HO_541002.out) (Kd.R_typed (by (with_reducible repeat (first | apply Kd.R_alloc | apply Kd.R_drewN | apply Kd.R_drew )); exact HO550.out)) (by decide) hg); have n3_ := Aside0.mk (blk_grown (g := gb528) (o := .cells #[.slice A0_0 l0_0.length c0_0, .slice A0_1 l0_1.length c0_1, .slice A0_2 l0_2.length c0_2, .int .i64 a0_3] 43 (0, 0)) (by (with_reducible repeat (first | refine blk_drewN ?_ _ | refine blk_drew ?_ | refine blk_alloc ?_ _ )); exact BK528.out) hg (Kd.R_ne HO550.out BK528.out (by decide))); have n4_ := Aside0.mk (blk_grown (g := gb529) (o := .cells #[.slice none 0 0, .slice none 0 0, .slice none 0 0, .int .i64 0] 43 (0, 0)) (by (with_reducible repeat (first | refine blk_drewN ?_ _ | refine blk_drew ?_ | refine blk_alloc ?_ _ )); exact BK529.out) hg (Kd.R_ne HO550.out BK529.out (by decide))); have n5_ := Aside0.mk (blk_grown (g := gb540) (o := .cells #[.slice Ao11 t530.length co11, .slice Ao15 t533.length co15, .slice Ao41 t543.length co41, .int .i64 t546] 43 (0, 0)) (by (with_reducible repeat (first | refine blk_drewN ?_ _ | refine blk_drew ?_ | refine blk_alloc ?_ _ )); exact BK540.out) hg (Kd.R_ne HO550.out BK540.out (by decide))); have n6_ := Aside0.mk (Kd.S_over' (by (with_reducible repeat (first | apply Kd.S_alloc | apply Kd.S_drewN | apply Kd.S_drew )); exact HO545.out) (Kd.R_typed (by (with_reducible repeat (first | apply Kd.R_alloc | apply Kd.R_drewN | apply Kd.R_drew )); exact HO550.out)) (by decide) hg); have n7_ := Aside0.mk (hb); have n8_ := Aside0.mk (ho); clear HO_541000; clear HO_541001; clear HO_541002; clear BK528; clear BK529; clear BK540; clear HO545; clear HB; clear HO550; have HO_541000 := n0_; have HO_541001 := n1_; have HO_541002 := n2_; have BK528 := n3_; have BK529 := n4_; have BK540 := n5_; have HO545 := n6_; have HB := n7_; have HO553 := n8_; clear n0_ n1_ n2_ n3_ n4_ n5_ n6_ n7_ n8_; clear ho hb hg hat; obtain ⟨Ao53, co53, eo53⟩ := Kd.R_slice HO553.out; subst eo53; have hnb54 := NB540_529.out; have hnc54 := NB529_540.out; have hcz55_0 : w52.cell? ⟨gb540, 0, none⟩ = some (.slice Ao11 t530.length co11) := (blk_cell BK540.out 0).trans rfl; have hcz55_1 : w52.cell? ⟨gb540, 1, none⟩ = some (.slice Ao15 t533.length co15) := (blk_cell BK540.out 1).trans rfl; have hcz55_2 : w52.cell? ⟨gb540, 2, none⟩ = some (.slice Ao41 t543.length co41) := (blk_cell BK540.out 2).trans rfl; have hcz55_3 : w52.cell? ⟨gb540, 3, none⟩ = some (.int .i64 t546) := (blk_cell BK540.out 3).trans rfl; have hfz55_0 := blk_frozen BK540.out 0; have hfz55_1 := blk_frozen BK540.out 1; have hfz55_2 := blk_frozen BK540.out 2; have hfz55_3 := blk_frozen BK540.out 3; have hcz56_0 : w52.cell? ⟨gb529, 0, none⟩ = some (.slice none 0 0) := (blk_cell BK529.out 0).trans rfl; have hcz56_1 : w52.cell? ⟨gb529, 1, none⟩ = some (.slice none 0 0) := (blk_cell BK529.out 1).trans rfl; have hcz56_2 : w52.cell? ⟨gb529, 2, none⟩ = some (.slice none 0 0) := (blk_cell BK529.out 2).trans rfl; have hcz56_3 : w52.cell? ⟨gb529, 3, none⟩ = some (.int .i64 0) := (blk_cell BK529.out 3).trans rfl; have hfz56_0 := blk_frozen BK529.out 0; have hfz56_1 := blk_frozen BK529.out 1; have hfz56_2 := blk_frozen BK529.out 2; have hfz56_3 := blk_frozen BK529.out 3))
            refine bodyPost_ret (results_ct rfl _ _ gb529 43 #[.slice Ao11 t530.length co11, .slice Ao53 y551.length co53, .slice Ao41 t543.length co41, .int .i64 t546] (0, 0) _ rfl (by (with_reducible repeat (first | refine blk_drewN ?_ _ | refine blk_drew ?_ | refine blk_alloc ?_ _ )); refine blk_put (cs := #[.slice Ao11 t530.length co11, .slice Ao53 y551.length co53, .slice Ao41 t543.length co41, .int .i64 0]) ?_ 3 _ rfl; (with_reducible repeat (first | refine blk_drewN ?_ _ | refine blk_drew ?_ | refine blk_alloc ?_ _ )); refine blk_put (cs := #[.slice Ao11 t530.length co11, .slice Ao53 y551.length co53, .slice none 0 0, .int .i64 0]) ?_ 2 _ rfl; (with_reducible repeat (first | refine blk_drewN ?_ _ | refine blk_drew ?_ | refine blk_alloc ?_ _ )); refine blk_put (cs := #[.slice Ao11 t530.length co11, .slice none 0 0, .slice none 0 0, .int .i64 0]) ?_ 1 _ rfl; (with_reducible repeat (first | refine blk_drewN ?_ _ | refine blk_drew ?_ | refine blk_alloc ?_ _ )); refine blk_put (cs := #[.slice none 0 0, .slice none 0 0, .slice none 0 0, .int .i64 0]) ?_ 0 _ rfl; (with_reducible repeat (first | refine blk_drewN ?_ _ | refine blk_drew ?_ | refine blk_alloc ?_ _ )); refine blk_far ?_ NB529_540.out _; (with_reducible repeat (first | refine blk_drewN ?_ _ | refine blk_drew ?_ | refine blk_alloc ?_ _ )); exact BK529.out) Try.underlying43 rfl (by kernel_rfl)) rfl ?_
            exact ⟨_, _, _, by rfl, by (with_reducible repeat (first | apply Kd.Q_alloc | apply Kd.Q_drewN | apply Kd.Q_drew )); exact Kd.Q_mono (Kd.Q_far (p := ⟨gb529, 3, none⟩) (Kd.Q_far (p := ⟨gb529, 2, none⟩) (Kd.Q_far (p := ⟨gb529, 1, none⟩) (Kd.Q_far (p := ⟨gb529, 0, none⟩) (Kd.Q_far (p := ⟨gb540, 1, none⟩) (Kd.Q_types (Kd.Q_types HO_541000.out BK540.out (by decide)) BK529.out (by decide)) (fun _ hk => hk.1.2) (.slice Ao53 y551.length co53)) (fun _ hk => hk.2) (.slice Ao11 t530.length co11)) (fun _ hk => hk.2) (.slice Ao53 y551.length co53)) (fun _ hk => hk.2) (.slice Ao41 t543.length co41)) (fun _ hk => hk.2) (.int .i64 t546)) (fun _ hk => hk.1.1.2), Kd.Q_of_R (by (with_reducible repeat (first | apply Kd.R_alloc | apply Kd.R_drewN | apply Kd.R_drew )); exact Kd.R_mono (Kd.R_far (p := ⟨gb529, 3, none⟩) (Kd.R_far (p := ⟨gb529, 2, none⟩) (Kd.R_far (p := ⟨gb529, 1, none⟩) (Kd.R_far (p := ⟨gb529, 0, none⟩) (Kd.R_far (p := ⟨gb540, 1, none⟩) (Kd.R_types (Kd.R_types HO553.out BK540.out (by decide)) BK529.out (by decide)) (fun _ hk => hk.1.2) (.slice Ao53 y551.length co53)) (fun _ hk => hk.2) (.slice Ao11 t530.length co11)) (fun _ hk => hk.2) (.slice Ao53 y551.length co53)) (fun _ hk => hk.2) (.slice Ao41 t543.length co41)) (fun _ hk => hk.2) (.int .i64 t546)) (fun _ hk => hk.1.1.1)), by (with_reducible repeat (first | apply Kd.S_alloc | apply Kd.S_drewN | apply Kd.S_drew )); exact Kd.S_mono (Kd.S_far (p := ⟨gb529, 3, none⟩) (Kd.S_far (p := ⟨gb529, 2, none⟩) (Kd.S_far (p := ⟨gb529, 1, none⟩) (Kd.S_far (p := ⟨gb529, 0, none⟩) (Kd.S_far (p := ⟨gb540, 1, none⟩) (Kd.S_types (Kd.S_types HO545.out BK540.out (by decide)) BK529.out (by decide)) (fun _ hk => hk.1.2) (.slice Ao53 y551.length co53)) (fun _ hk => hk.2) (.slice Ao11 t530.length co11)) (fun _ hk => hk.2) (.slice Ao53 y551.length co53)) (fun _ hk => hk.2) (.slice Ao41 t543.length co41)) (fun _ hk => hk.2) (.int .i64 t546)) (fun _ hk => trivial), by repeat ((with_reducible first | exact HB.out | refine below_set ?_ GE529.out | refine below_set ?_ GE540.out))⟩
          · rw [if_neg c47] at H
            exact absurd H (by simp)
        · replace c45 := Bool.eq_false_iff.mpr c45
          subst c45
          have H1 : ((impl_withoutKey.f l0_0 a1).bind fun t554 => (if t554.length < 8796093022208 then ((some (t554 ++ [a1] : List ByteArray)).bind fun y557 => (if (y557.length : Int) ≤ 2 then (some (y557, t533, t543, t546, (⟨#[]⟩ : ByteArray))) else (if 0 < (y557.length : Int) then (if 1 ≤ (y557.length : Int) then ((some (y557.drop (1 : Int).toNat : List ByteArray)).bind fun y561 => (if (t533.length : Int) < 4 then (if t533.length < 8796093022208 then (some (y561, (t533 ++ [rdOf ByteArray.empty y557 0]), t543, t546, (⟨#[]⟩ : ByteArray))) else (none)) else (if 0 < (t533.length : Int) then ((impl_SketchGuess.f kj3 t543 t546 (rdOf ByteArray.empty y557 0)).bind fun t568 => ((impl_SketchGuess.f kj3 t543 t546 (rdOf ByteArray.empty t533 0)).bind fun t569 => (if t568 > t569 then (if 1 ≤ (t533.length : Int) then ((some (t533.drop (1 : Int).toNat : List ByteArray)).bind fun y570 => (if y570.length < 8796093022208 then (some (y561, (y570 ++ [rdOf ByteArray.empty y557 0]), t543, t546, rdOf ByteArray.empty t533 0)) else (none))) else (none)) else (some (y561, t533, t543, t546, rdOf ByteArray.empty y557 0))))) else (none)))) else (none)) else (none)))) else (none))) = some (r1, r2, r3, r4, r5) := by rw [if_neg (show ¬ (false = true) by decide)] at H; exact H
          clear H
          have H := H1
          clear H1
          replace H := Option.bind_eq_some_iff.mp H
          obtain ⟨t554, A570, H⟩ := H
          replace H : (if t554.length < 8796093022208 then ((some (t554 ++ [a1] : List ByteArray)).bind fun y557 => (if (y557.length : Int) ≤ 2 then (some (y557, t533, t543, t546, (⟨#[]⟩ : ByteArray))) else (if 0 < (y557.length : Int) then (if 1 ≤ (y557.length : Int) then ((some (y557.drop (1 : Int).toNat : List ByteArray)).bind fun y561 => (if (t533.length : Int) < 4 then (if t533.length < 8796093022208 then (some (y561, (t533 ++ [rdOf ByteArray.empty y557 0]), t543, t546, (⟨#[]⟩ : ByteArray))) else (none)) else (if 0 < (t533.length : Int) then ((impl_SketchGuess.f kj3 t543 t546 (rdOf ByteArray.empty y557 0)).bind fun t568 => ((impl_SketchGuess.f kj3 t543 t546 (rdOf ByteArray.empty t533 0)).bind fun t569 => (if t568 > t569 then (if 1 ≤ (t533.length : Int) then ((some (t533.drop (1 : Int).toNat : List ByteArray)).bind fun y570 => (if y570.length < 8796093022208 then (some (y561, (y570 ++ [rdOf ByteArray.empty y557 0]), t543, t546, rdOf ByteArray.empty t533 0)) else (none))) else (none)) else (some (y561, t533, t543, t546, rdOf ByteArray.empty y557 0))))) else (none)))) else (none)) else (none)))) else (none)) = some (r1, r2, r3, r4, r5) := H
          have A57 := Aside0.mk A570
          clear A570
          by_cases c58 : t554.length < 8796093022208
          · rw [if_pos c58] at H
            have LMc58 := Aside0.mk c58
            clear c58
            obtain ⟨y557, hy557⟩ : ∃ y_ : List ByteArray, y_ = (t554 ++ [a1]) := ⟨_, rfl⟩
            replace H : (if (y557.length : Int) ≤ 2 then (some (y557, t533, t543, t546, (⟨#[]⟩ : ByteArray))) else (if 0 < (y557.length : Int) then (if 1 ≤ (y557.length : Int) then ((some (y557.drop (1 : Int).toNat : List ByteArray)).bind fun y561 => (if (t533.length : Int) < 4 then (if t533.length < 8796093022208 then (some (y561, (t533 ++ [rdOf ByteArray.empty y557 0]), t543, t546, (⟨#[]⟩ : ByteArray))) else (none)) else (if 0 < (t533.length : Int) then ((impl_SketchGuess.f kj3 t543 t546 (rdOf ByteArray.empty y557 0)).bind fun t568 => ((impl_SketchGuess.f kj3 t543 t546 (rdOf ByteArray.empty t533 0)).bind fun t569 => (if t568 > t569 then (if 1 ≤ (t533.length : Int) then ((some (t533.drop (1 : Int).toNat : List ByteArray)).bind fun y570 => (if y570.length < 8796093022208 then (some (y561, (y570 ++ [rdOf ByteArray.empty y557 0]), t543, t546, rdOf ByteArray.empty t533 0)) else (none))) else (none)) else (some (y561, t533, t543, t546, rdOf ByteArray.empty y557 0))))) else (none)))) else (none)) else (none))) = some (r1, r2, r3, r4, r5) := by (have H2_ := (Option.bind_some _ _).symm.trans H; rw [hy557]; with_reducible exact H2_)
            have Ny557 := Aside0.mk hy557
            clear hy557
            have HS59 := Aside0.mk H
            clear H
            have hnb60 := NB528_529.out
            have hnc60 := NB529_528.out
            have hnb61 := NB528_540.out
            have hnc61 := NB540_528.out
            have hcz62_0 : w40.cell? ⟨gb528, 0, none⟩ = some (.slice A0_0 l0_0.length c0_0) := (blk_cell BK528.out 0).trans rfl
            have hcz62_1 : w40.cell? ⟨gb528, 1, none⟩ = some (.slice A0_1 l0_1.length c0_1) := (blk_cell BK528.out 1).trans rfl
            have hcz62_2 : w40.cell? ⟨gb528, 2, none⟩ = some (.slice A0_2 l0_2.length c0_2) := (blk_cell BK528.out 2).trans rfl
            have hcz62_3 : w40.cell? ⟨gb528, 3, none⟩ = some (.int .i64 a0_3) := (blk_cell BK528.out 3).trans rfl
            have hfz62_0 := blk_frozen BK528.out 0
            have hfz62_1 := blk_frozen BK528.out 1
            have hfz62_2 := blk_frozen BK528.out 2
            have hfz62_3 := blk_frozen BK528.out 3
            go_upto_if 49 with (first | ((with_reducible refine gate_callee (f := 84) rfl ?_); refine goesL_ (some 41) rfl rfl Try.func84 (by kernel_rfl) rfl #[.slice A0_0 l0_0.length c0_0, .string a1] rfl (by (try simp only [List.map_toArray, List.map_cons, List.map_nil]); rfl) ?_; (with_reducible refine (impl_withoutKey.calls _ _ l0_0 a1 t554 _ ?side1 ?side2 A57.out).mono ?_); (case side1 => exact Kd.C_below HR0_0.out (by repeat ((with_reducible first | exact HB.out | apply pw_below_drewN | refine below_set ?_ GE540.out)))); (case side2 => exact HC0_0.out); rintro e w63 ⟨v555, rfl, ho0, hb⟩; refine ⟨_, rfl, ?_⟩; have n0_ := Aside0.mk (Kd.Q_elder' (by (with_reducible repeat (apply Kd.Q_drewN)); exact (Kd.Q_mono (Kd.Q_far (p := ⟨gb540, 3, none⟩) (Kd.Q_far (p := ⟨gb540, 2, none⟩) (Kd.Q_types HO_541000.out BK540.out (by decide)) (fun _ hk => hk.2) (.slice Ao41 t543.length co41)) (fun _ hk => hk.2) (.int .i64 t546)) (fun _ h_ => by exact h_.1))) (Kd.R_base ho0) hb); have n1_ := Aside0.mk (Kd.R_elder' (by (with_reducible repeat (apply Kd.R_drewN)); exact (Kd.R_mono (Kd.R_far (p := ⟨gb540, 3, none⟩) (Kd.R_far (p := ⟨gb540, 2, none⟩) (Kd.R_types HO_541001.out BK540.out (by decide)) (fun _ hk => hk.2) (.slice Ao41 t543.length co41)) (fun _ hk => hk.2) (.int .i64 t546)) (fun _ h_ => by exact h_.1))) (Kd.R_base ho0) hb); have n2_ := Aside0.mk (Kd.S_below (by (with_reducible repeat (apply Kd.S_drewN)); exact (Kd.S_mono (Kd.S_far (p := ⟨gb540, 3, none⟩) (Kd.S_far (p := ⟨gb540, 2, none⟩) (Kd.S_types HO_541002.out BK540.out (by decide)) (fun _ hk => hk.2) (.slice Ao41 t543.length co41)) (fun _ hk => hk.2) (.int .i64 t546)) (fun _ h_ => by exact h_.1))) hb); have n3_ := Aside0.mk (Kd.S_below (by (with_reducible repeat (apply Kd.S_drewN)); exact (Kd.S_mono (Kd.S_far (p := ⟨gb540, 3, none⟩) (Kd.S_far (p := ⟨gb540, 2, none⟩) (Kd.S_types HO545.out BK540.out (by decide)) (fun _ hk => hk.2) (.slice Ao41 t543.length co41)) (fun _ hk => hk.2) (.int .i64 t546)) (fun _ h_ => by exact h_.1))) hb); have n4_ := Aside0.mk (Kd.R_lower (Kd.R_new' (Kd.R_new' ho0 (Kd.Q_lt (by (with_reducible repeat (apply Kd.Q_drewN)); exact (Kd.Q_mono (Kd.Q_far (p := ⟨gb540, 3, none⟩) (Kd.Q_far (p := ⟨gb540, 2, none⟩) (Kd.Q_types HO_541000.out BK540.out (by decide)) (fun _ hk => hk.2) (.slice Ao41 t543.length co41)) (fun _ hk => hk.2) (.int .i64 t546)) (fun _ h_ => by exact h_.1))))) (Kd.R_lt (by (with_reducible repeat (apply Kd.R_drewN)); exact (Kd.R_mono (Kd.R_far (p := ⟨gb540, 3, none⟩) (Kd.R_far (p := ⟨gb540, 2, none⟩) (Kd.R_types HO_541001.out BK540.out (by decide)) (fun _ hk => hk.2) (.slice Ao41 t543.length co41)) (fun _ hk => hk.2) (.int .i64 t546)) (fun _ h_ => by exact h_.1))))) (below_size (by repeat ((with_reducible first | exact HB.out | apply pw_below_drewN | refine below_set ?_ GE540.out))))); have n5_ := Aside0.mk (blk_below (g := gb528) (o := .cells #[.slice A0_0 l0_0.length c0_0, .slice A0_1 l0_1.length c0_1, .slice A0_2 l0_2.length c0_2, .int .i64 a0_3] 43 (0, 0)) (by (with_reducible repeat (refine blk_drewN ?_ _)); refine blk_far ?_ NB528_540.out _; (with_reducible repeat (first | refine blk_drewN ?_ _ | refine blk_drew ?_ | refine blk_alloc ?_ _ )); refine blk_far ?_ NB528_540.out _; (with_reducible repeat (first | refine blk_drewN ?_ _ | refine blk_drew ?_ | refine blk_alloc ?_ _ )); exact BK528.out) hb); have n6_ := Aside0.mk (blk_below (g := gb529) (o := .cells #[.slice none 0 0, .slice none 0 0, .slice none 0 0, .int .i64 0] 43 (0, 0)) (by (with_reducible repeat (refine blk_drewN ?_ _)); refine blk_far ?_ NB529_540.out _; (with_reducible repeat (first | refine blk_drewN ?_ _ | refine blk_drew ?_ | refine blk_alloc ?_ _ )); refine blk_far ?_ NB529_540.out _; (with_reducible repeat (first | refine blk_drewN ?_ _ | refine blk_drew ?_ | refine blk_alloc ?_ _ )); exact BK529.out) hb); have n7_ := Aside0.mk (blk_below (g := gb540) (o := .cells #[.slice Ao11 t530.length co11, .slice Ao15 t533.length co15, .slice Ao41 t543.length co41, .int .i64 t546] 43 (0, 0)) (by (with_reducible repeat (refine blk_drewN ?_ _)); refine blk_put (cs := #[.slice Ao11 t530.length co11, .slice Ao15 t533.length co15, .slice Ao41 t543.length co41, .int .i64 t539]) ?_ 3 _ rfl; (with_reducible repeat (first | refine blk_drewN ?_ _ | refine blk_drew ?_ | refine blk_alloc ?_ _ )); refine blk_put (cs := #[.slice Ao11 t530.length co11, .slice Ao15 t533.length co15, .slice Ao16 t536.length co16, .int .i64 t539]) ?_ 2 _ rfl; (with_reducible repeat (first | refine blk_drewN ?_ _ | refine blk_drew ?_ | refine blk_alloc ?_ _ )); exact BK540.out) hb); have n8_ := Aside0.mk (below_step (by repeat ((with_reducible first | exact HB.out | apply pw_below_drewN | refine below_set ?_ GE540.out))) hb); clear HO_541000; clear HO_541001; clear HO_541002; clear HO545; clear BK528; clear BK529; clear BK540; clear HB; have HO_541000 := n0_; have HO_541001 := n1_; have HO_541002 := n2_; have HO545 := n3_; have HO556 := n4_; have BK528 := n5_; have BK529 := n6_; have BK540 := n7_; have HB := n8_; clear n0_ n1_ n2_ n3_ n4_ n5_ n6_ n7_ n8_; (try clear hb); (try clear hb2); (try clear hk); (try clear hi); (try clear ho0)) | ((with_reducible refine gate_builtin (b := .append) (xs := #[.tmp 41, .tmp 43]) rfl ?_); at_builtin; refine Kd.R_append Kd.string (w0 := w) w.heap.size rfl (.tmp 41) (.tmp 43) 38 9 (.string ⟨#[]⟩) 16 rfl Try.underlying38 info9 rfl (by decide) (by omega) v555 t554 a1 [.string a1] (fun k_ => some k_ ≠ (.slice Ao11 t530.length co11 : Value).ownBlock ∧ some k_ ≠ (.slice Ao15 t533.length co15 : Value).ownBlock) (fun _ => False) rfl rfl ?aP (fun _ hk => hk.elim) ?aF ?aO ?aB ?aS ?aL ?_; (case aP => exact rfl); (case aB => exact (by repeat ((with_reducible exact HB.out)))); (case aF => exact (fun k_ hk => ⟨Kd.fresh' (Kd.Q_lt (by (with_reducible repeat (first | apply Kd.Q_alloc | apply Kd.Q_drewN | apply Kd.Q_drew )); exact HO_541000.out)) k_ hk, Kd.fresh' (Kd.R_lt (by (with_reducible repeat (first | apply Kd.R_alloc | apply Kd.R_drewN | apply Kd.R_drew )); exact HO_541001.out)) k_ hk⟩)); (case aO => exact (by (with_reducible repeat (first | apply Kd.R_alloc | apply Kd.R_drewN | apply Kd.R_drew )); exact Kd.R_mono HO556.out (fun _ hk => ⟨hk.1.2, hk.2⟩))); (case aS => exact (below_size (by repeat ((with_reducible exact HB.out))))); (case aL => have := LMc58.out; omega); intro v558 w64 ho hb hg hat; rw [← Ny557.out] at ho; have n0_ := Aside0.mk (Kd.Q_after (ok := (fun k_ => some k_ ≠ (.slice Ao15 t533.length co15 : Value).ownBlock)) (by (with_reducible repeat (first | apply Kd.Q_alloc | apply Kd.Q_drewN | apply Kd.Q_drew )); exact HO_541000.out) hg hat); have n1_ := Aside0.mk (Kd.R_after (ok := (fun k_ => some k_ ≠ (.slice Ao11 t530.length co11 : Value).ownBlock)) (by (with_reducible repeat (first | apply Kd.R_alloc | apply Kd.R_drewN | apply Kd.R_drew )); exact HO_541001.out) hg hat); have n2_ := Aside0.mk (Kd.S_over' (by (with_reducible repeat (first | apply Kd.S_alloc | apply Kd.S_drewN | apply Kd.S_drew )); exact HO_541002.out) (Kd.R_typed (by (with_reducible repeat (first | apply Kd.R_alloc | apply Kd.R_drewN | apply Kd.R_drew )); exact HO556.out)) (by decide) hg); have n3_ := Aside0.mk (blk_grown (g := gb528) (o := .cells #[.slice A0_0 l0_0.length c0_0, .slice A0_1 l0_1.length c0_1, .slice A0_2 l0_2.length c0_2, .int .i64 a0_3] 43 (0, 0)) (by (with_reducible repeat (first | refine blk_drewN ?_ _ | refine blk_drew ?_ | refine blk_alloc ?_ _ )); exact BK528.out) hg (Kd.R_ne HO556.out BK528.out (by decide))); have n4_ := Aside0.mk (blk_grown (g := gb529) (o := .cells #[.slice none 0 0, .slice none 0 0, .slice none 0 0, .int .i64 0] 43 (0, 0)) (by (with_reducible repeat (first | refine blk_drewN ?_ _ | refine blk_drew ?_ | refine blk_alloc ?_ _ )); exact BK529.out) hg (Kd.R_ne HO556.out BK529.out (by decide))); have n5_ := Aside0.mk (blk_grown (g := gb540) (o := .cells #[.slice Ao11 t530.length co11, .slice Ao15 t533.length co15, .slice Ao41 t543.length co41, .int .i64 t546] 43 (0, 0)) (by (with_reducible repeat (first | refine blk_drewN ?_ _ | refine blk_drew ?_ | refine blk_alloc ?_ _ )); exact BK540.out) hg (Kd.R_ne HO556.out BK540.out (by decide))); have n6_ := Aside0.mk (Kd.S_over' (by (with_reducible repeat (first | apply Kd.S_alloc | apply Kd.S_drewN | apply Kd.S_drew )); exact HO545.out) (Kd.R_typed (by (with_reducible repeat (first | apply Kd.R_alloc | apply Kd.R_drewN | apply Kd.R_drew )); exact HO556.out)) (by decide) hg); have n7_ := Aside0.mk (hb); have n8_ := Aside0.mk (ho); clear HO_541000; clear HO_541001; clear HO_541002; clear BK528; clear BK529; clear BK540; clear HO545; clear HB; clear HO556; have HO_541000 := n0_; have HO_541001 := n1_; have HO_541002 := n2_; have BK528 := n3_; have BK529 := n4_; have BK540 := n5_; have HO545 := n6_; have HB := n7_; have HO559 := n8_; clear n0_ n1_ n2_ n3_ n4_ n5_ n6_ n7_ n8_; clear ho hb hg hat; obtain ⟨Ao65, co65, eo65⟩ := Kd.R_slice HO559.out; subst eo65; have hnb66 := NB540_529.out; have hnc66 := NB529_540.out; have hcz67_0 : w64.cell? ⟨gb540, 0, none⟩ = some (.slice Ao11 t530.length co11) := (blk_cell BK540.out 0).trans rfl; have hcz67_1 : w64.cell? ⟨gb540, 1, none⟩ = some (.slice Ao15 t533.length co15) := (blk_cell BK540.out 1).trans rfl; have hcz67_2 : w64.cell? ⟨gb540, 2, none⟩ = some (.slice Ao41 t543.length co41) := (blk_cell BK540.out 2).trans rfl; have hcz67_3 : w64.cell? ⟨gb540, 3, none⟩ = some (.int .i64 t546) := (blk_cell BK540.out 3).trans rfl; have hfz67_0 := blk_frozen BK540.out 0; have hfz67_1 := blk_frozen BK540.out 1; have hfz67_2 := blk_frozen BK540.out 2; have hfz67_3 := blk_frozen BK540.out 3))
            (try simp only [Act.put, List.setIfInBounds_toArray, List.set_cons_zero, List.set_cons_succ])
            have H := HS59.out
            clear HS59
            by_cases c68 : (y557.length : Int) ≤ 2
            · rw [if_pos c68] at H
              have c68b0 : decide ((y557.length : Int) ≤ 2) = true := decide_eq_true c68
              have c68b1 : decide (y557.length ≤ 2) = true := decide_eq_true (by omega)
              clear c68
              (rw [c68b0])
              simp only [Option.some.injEq, Prod.mk.injEq] at H
              obtain ⟨rfl, rfl, rfl, rfl, rfl⟩ := H
              have hnb69 := NB540_528.out
              have hnc69 := NB528_540.out
              have hnb70 := NB540_529.out
              have hnc70 := NB529_540.out
              have hcz71_0 : w64.cell? ⟨gb540, 0, none⟩ = some (.slice Ao11 t530.length co11) := (blk_cell BK540.out 0).trans rfl
              have hcz71_1 : w64.cell? ⟨gb540, 1, none⟩ = some (.slice Ao15 t533.length co15) := (blk_cell BK540.out 1).trans rfl
              have hcz71_2 : w64.cell? ⟨gb540, 2, none⟩ = some (.slice Ao41 t543.length co41) := (blk_cell BK540.out 2).trans rfl
              have hcz71_3 : w64.cell? ⟨gb540, 3, none⟩ = some (.int .i64 t546) := (blk_cell BK540.out 3).trans rfl
              have hfz71_0 := blk_frozen BK540.out 0
              have hfz71_1 := blk_frozen BK540.out 1
              have hfz71_2 := blk_frozen BK540.out 2
              have hfz71_3 := blk_frozen BK540.out 3
              have hnb72 := NB529_528.out
              have hnc72 := NB528_529.out
              have hcz73_0 : w64.cell? ⟨gb529, 0, none⟩ = some (.slice none 0 0) := (blk_cell BK529.out 0).trans rfl
              have hcz73_1 : w64.cell? ⟨gb529, 1, none⟩ = some (.slice none 0 0) := (blk_cell BK529.out 1).trans rfl
              have hcz73_2 : w64.cell? ⟨gb529, 2, none⟩ = some (.slice none 0 0) := (blk_cell BK529.out 2).trans rfl
              have hcz73_3 : w64.cell? ⟨gb529, 3, none⟩ = some (.int .i64 0) := (blk_cell BK529.out 3).trans rfl
              have hfz73_0 := blk_frozen BK529.out 0
              have hfz73_1 := blk_frozen BK529.out 1
              have hfz73_2 := blk_frozen BK529.out 2
              have hfz73_3 := blk_frozen BK529.out 3
              go_wp2
              refine bodyPost_ret (results_ct rfl _ _ gb529 43 #[.slice Ao65 y557.length co65, .slice Ao15 t533.length co15, .slice Ao41 t543.length co41, .int .i64 t546] (0, 0) _ rfl (by (with_reducible repeat (first | refine blk_drewN ?_ _ | refine blk_drew ?_ | refine blk_alloc ?_ _ )); refine blk_put (cs := #[.slice Ao65 y557.length co65, .slice Ao15 t533.length co15, .slice Ao41 t543.length co41, .int .i64 0]) ?_ 3 _ rfl; (with_reducible repeat (first | refine blk_drewN ?_ _ | refine blk_drew ?_ | refine blk_alloc ?_ _ )); refine blk_put (cs := #[.slice Ao65 y557.length co65, .slice Ao15 t533.length co15, .slice none 0 0, .int .i64 0]) ?_ 2 _ rfl; (with_reducible repeat (first | refine blk_drewN ?_ _ | refine blk_drew ?_ | refine blk_alloc ?_ _ )); refine blk_put (cs := #[.slice Ao65 y557.length co65, .slice none 0 0, .slice none 0 0, .int .i64 0]) ?_ 1 _ rfl; (with_reducible repeat (first | refine blk_drewN ?_ _ | refine blk_drew ?_ | refine blk_alloc ?_ _ )); refine blk_put (cs := #[.slice none 0 0, .slice none 0 0, .slice none 0 0, .int .i64 0]) ?_ 0 _ rfl; (with_reducible repeat (first | refine blk_drewN ?_ _ | refine blk_drew ?_ | refine blk_alloc ?_ _ )); refine blk_far ?_ NB529_540.out _; (with_reducible repeat (first | refine blk_drewN ?_ _ | refine blk_drew ?_ | refine blk_alloc ?_ _ )); exact BK529.out) Try.underlying43 rfl (by kernel_rfl)) rfl ?_
              exact ⟨_, _, _, by rfl, Kd.Q_of_R (by (with_reducible repeat (first | apply Kd.R_alloc | apply Kd.R_drewN | apply Kd.R_drew )); exact Kd.R_mono (Kd.R_far (p := ⟨gb529, 3, none⟩) (Kd.R_far (p := ⟨gb529, 2, none⟩) (Kd.R_far (p := ⟨gb529, 1, none⟩) (Kd.R_far (p := ⟨gb529, 0, none⟩) (Kd.R_far (p := ⟨gb540, 0, none⟩) (Kd.R_types (Kd.R_types HO559.out BK540.out (by decide)) BK529.out (by decide)) (fun _ hk => hk.1.2) (.slice Ao65 y557.length co65)) (fun _ hk => hk.2) (.slice Ao65 y557.length co65)) (fun _ hk => hk.2) (.slice Ao15 t533.length co15)) (fun _ hk => hk.2) (.slice Ao41 t543.length co41)) (fun _ hk => hk.2) (.int .i64 t546)) (fun _ hk => hk.1.1.2)), Kd.Q_of_R (by (with_reducible repeat (first | apply Kd.R_alloc | apply Kd.R_drewN | apply Kd.R_drew )); exact Kd.R_mono (Kd.R_far (p := ⟨gb529, 3, none⟩) (Kd.R_far (p := ⟨gb529, 2, none⟩) (Kd.R_far (p := ⟨gb529, 1, none⟩) (Kd.R_far (p := ⟨gb529, 0, none⟩) (Kd.R_far (p := ⟨gb540, 0, none⟩) (Kd.R_types (Kd.R_types HO_541001.out BK540.out (by decide)) BK529.out (by decide)) (fun _ hk => hk.1.2) (.slice Ao65 y557.length co65)) (fun _ hk => hk.2) (.slice Ao65 y557.length co65)) (fun _ hk => hk.2) (.slice Ao15 t533.length co15)) (fun _ hk => hk.2) (.slice Ao41 t543.length co41)) (fun _ hk => hk.2) (.int .i64 t546)) (fun _ hk => hk.1.1.2)), by (with_reducible repeat (first | apply Kd.S_alloc | apply Kd.S_drewN | apply Kd.S_drew )); exact Kd.S_mono (Kd.S_far (p := ⟨gb529, 3, none⟩) (Kd.S_far (p := ⟨gb529, 2, none⟩) (Kd.S_far (p := ⟨gb529, 1, none⟩) (Kd.S_far (p := ⟨gb529, 0, none⟩) (Kd.S_far (p := ⟨gb540, 0, none⟩) (Kd.S_types (Kd.S_types HO545.out BK540.out (by decide)) BK529.out (by decide)) (fun _ hk => hk.1.2) (.slice Ao65 y557.length co65)) (fun _ hk => hk.2) (.slice Ao65 y557.length co65)) (fun _ hk => hk.2) (.slice Ao15 t533.length co15)) (fun _ hk => hk.2) (.slice Ao41 t543.length co41)) (fun _ hk => hk.2) (.int .i64 t546)) (fun _ hk => trivial), by repeat ((with_reducible first | exact HB.out | refine below_set ?_ GE529.out | refine below_set ?_ GE540.out))⟩
            · rw [if_neg c68] at H
              have c68b0 : decide ((y557.length : Int) ≤ 2) = false := decide_eq_false c68
              have c68b1 : decide (y557.length ≤ 2) = false := decide_eq_false (by omega)
              clear c68
              (rw [c68b0])
              by_cases c74 : 0 < (y557.length : Int)
              · rw [if_pos c74] at H
                have c74b0 : decide (0 < (y557.length : Int)) = true := decide_eq_true c74
                have c74b1 : decide (0 < y557.length) = true := decide_eq_true (by omega)
                clear c74
                by_cases c75 : 1 ≤ (y557.length : Int)
                · rw [if_pos c75] at H
                  have c75b0 := eq_true c75
                  have c75b1 : decide (1 ≤ (y557.length : Int)) = true := decide_eq_true c75
                  clear c75
                  obtain ⟨y561, hy561⟩ : ∃ y_ : List ByteArray, y_ = (y557.drop (1 : Int).toNat) := ⟨_, rfl⟩
                  replace H : (if (t533.length : Int) < 4 then (if t533.length < 8796093022208 then (some (y561, (t533 ++ [rdOf ByteArray.empty y557 0]), t543, t546, (⟨#[]⟩ : ByteArray))) else (none)) else (if 0 < (t533.length : Int) then ((impl_SketchGuess.f kj3 t543 t546 (rdOf ByteArray.empty y557 0)).bind fun t568 => ((impl_SketchGuess.f kj3 t543 t546 (rdOf ByteArray.empty t533 0)).bind fun t569 => (if t568 > t569 then (if 1 ≤ (t533.length : Int) then ((some (t533.drop (1 : Int).toNat : List ByteArray)).bind fun y570 => (if y570.length < 8796093022208 then (some (y561, (y570 ++ [rdOf ByteArray.empty y557 0]), t543, t546, rdOf ByteArray.empty t533 0)) else (none))) else (none)) else (some (y561, t533, t543, t546, rdOf ByteArray.empty y557 0))))) else (none))) = some (r1, r2, r3, r4, r5) := by (have H2_ := (Option.bind_some _ _).symm.trans H; rw [hy561]; with_reducible exact H2_)
                  have Ny561 := Aside0.mk hy561
                  clear hy561
                  have HS76 := Aside0.mk H
                  clear H
                  have hnb77 := NB540_528.out
                  have hnc77 := NB528_540.out
                  have hnb78 := NB540_529.out
                  have hnc78 := NB529_540.out
                  have hcz79_0 : w64.cell? ⟨gb540, 0, none⟩ = some (.slice Ao11 t530.length co11) := (blk_cell BK540.out 0).trans rfl
                  have hcz79_1 : w64.cell? ⟨gb540, 1, none⟩ = some (.slice Ao15 t533.length co15) := (blk_cell BK540.out 1).trans rfl
                  have hcz79_2 : w64.cell? ⟨gb540, 2, none⟩ = some (.slice Ao41 t543.length co41) := (blk_cell BK540.out 2).trans rfl
                  have hcz79_3 : w64.cell? ⟨gb540, 3, none⟩ = some (.int .i64 t546) := (blk_cell BK540.out 3).trans rfl
                  have hfz79_0 := blk_frozen BK540.out 0
                  have hfz79_1 := blk_frozen BK540.out 1
                  have hfz79_2 := blk_frozen BK540.out 2
                  have hfz79_3 := blk_frozen BK540.out 3
                  have p560 : 0 ≤ (0 : Int) := (by omega)
                  have q560 : 0 < (y557.length : Int) := of_decide_eq_true (by (with_reducible assumption))
                  obtain ⟨ad560, e560, hx560_0⟩ := Kd.at_string (Kd.R_reads' HO559.out).2.2 0 p560 q560
                  cases e560
                  have qi560 : (0 < y557.length) = True := eq_true (by omega)
                  (try rw [show ((0 : Int)).toNat = 0 from rfl] at hx560_0)
                  (try rw [Addr.add_zero'] at hx560_0)
                  have hn560_0 : ad560.block ≠ gb540 := Kd.own_blk (Kd.R_ne HO559.out BK540.out (by decide))
                  replace hx560_0 := (cell_far (p := ⟨gb540, 0, none⟩) (by exact hn560_0) (.slice (some ad560) y557.length co65)).trans hx560_0
                  clear hn560_0
                  replace p560 := eq_true p560
                  replace q560 := eq_true q560
                  have q80 : (1 : Int) ≤ ((y557.length : Int) : Int) := of_decide_eq_true (by (with_reducible assumption))
                  obtain ⟨i080, hi080, _, hsz80, _⟩ := info_parts info9
                  have hcut80 := cut_from (P := Try.prog) 38 9 .i64 Try.underlying38 hi080 1 hsz80 (some ad560) y557.length co65 1 (by omega) q80
                  have hr80 := Kd.Q_drop (k := (1 : Int).toNat) (Kd.Q_of_R HO559.out) (by omega)
                  obtain ⟨A80, hA80⟩ : ∃ A1, A1 = (if co65 = (1 : Int).toNat then (some ad560) else ((some ad560) : Option Addr).map (·.add ((1 : Int).toNat * 1))) := ⟨_, rfl⟩
                  obtain ⟨c80, hc80⟩ : ∃ c1, c1 = co65 - (1 : Int).toNat := ⟨_, rfl⟩
                  have hy80 : y561.length = y557.length - (1 : Int).toNat := (by rw [Ny561.out, List.length_drop])
                  rw [← Ny561.out] at hr80
                  rw [← hy80, ← hA80, ← hc80] at hcut80
                  replace hr80 : Kd.Q Kd.string 9 w64 w.heap.size (fun k_ => some k_ ≠ (.slice Ao11 t530.length co11 : Value).ownBlock ∧ some k_ ≠ (.slice Ao15 t533.length co15 : Value).ownBlock) (.slice A80 y561.length c80) y561 := (by rw [hA80, hc80, hy80]; exact hr80)
                  have HE80 : Aside0 ((Value.slice A80 y561.length c80).ownBlock = (.slice (some ad560) y557.length co65 : Value).ownBlock) := ⟨by rw [hA80]; split <;> (cases ((some ad560) : Option Addr) <;> rfl)⟩
                  clear hy80 hi080 hsz80 HO559 hA80 hc80
                  have HO563 := Aside0.mk hr80
                  clear hr80
                  replace q80 := eq_true q80
                  have n_ := Aside0.mk (Kd.Q_mono (ok' := fun k_ => (some k_ ≠ (.slice Ao15 t533.length co15 : Value).ownBlock ∧ some k_ ≠ (.slice A80 y561.length c80 : Value).ownBlock)) HO_541000.out (fun k_ hk => ⟨hk.1, (by rw [HE80.out]; exact hk.2)⟩))
                  clear HO_541000
                  have HO_541000 := n_
                  clear n_
                  have n_ := Aside0.mk (Kd.R_mono (ok' := fun k_ => (some k_ ≠ (.slice Ao11 t530.length co11 : Value).ownBlock ∧ some k_ ≠ (.slice A80 y561.length c80 : Value).ownBlock)) HO_541001.out (fun k_ hk => ⟨hk.1, (by rw [HE80.out]; exact hk.2)⟩))
                  clear HO_541001
                  have HO_541001 := n_
                  clear n_
                  go_upto_if 62 with (fail)
                  have H := HS76.out
                  clear HS76
                  by_cases c81 : (t533.length : Int) < 4
                  · rw [if_pos c81] at H
                    have c81b0 : decide ((t533.length : Int) < 4) = true := decide_eq_true c81
                    have c81b1 : decide (t533.length < 4) = true := decide_eq_true (by omega)
                    clear c81
                    (rw [c81b0])
                    by_cases c82 : t533.length < 8796093022208
                    · rw [if_pos c82] at H
                      have LMc82 := Aside0.mk c82
                      clear c82
                      obtain ⟨y564, hy564⟩ : ∃ y_ : List ByteArray, y_ = (t533 ++ [rdOf ByteArray.empty y557 0]) := ⟨_, rfl⟩
                      replace H : (some (y561, y564, t543, t546, (⟨#[]⟩ : ByteArray))) = some (r1, r2, r3, r4, r5) := by (rw [hy564]; with_reducible exact H)
                      have Ny564 := Aside0.mk hy564
                      clear hy564
                      simp only [Option.some.injEq, Prod.mk.injEq] at H
                      obtain ⟨rfl, rfl, rfl, rfl, rfl⟩ := H
                      have hnb83 := NB540_528.out
                      have hnc83 := NB528_540.out
                      have hnb84 := NB540_529.out
                      have hnc84 := NB529_540.out
                      have hcz85_0 : w64.cell? ⟨gb540, 0, none⟩ = some (.slice Ao11 t530.length co11) := (blk_cell BK540.out 0).trans rfl
                      have hcz85_1 : w64.cell? ⟨gb540, 1, none⟩ = some (.slice Ao15 t533.length co15) := (blk_cell BK540.out 1).trans rfl
                      have hcz85_2 : w64.cell? ⟨gb540, 2, none⟩ = some (.slice Ao41 t543.length co41) := (blk_cell BK540.out 2).trans rfl
                      have hcz85_3 : w64.cell? ⟨gb540, 3, none⟩ = some (.int .i64 t546) := (blk_cell BK540.out 3).trans rfl
                      have hfz85_0 := blk_frozen BK540.out 0
                      have hfz85_1 := blk_frozen BK540.out 1
                      have hfz85_2 := blk_frozen BK540.out 2
                      have hfz85_3 := blk_frozen BK540.out 3
                      go_wp2_with (((with_reducible refine gate_builtin (b := .append) (xs := #[.tmp 64, .tmp 66]) rfl ?_); at_builtin; refine Kd.R_append Kd.string (w0 := w) w.heap.size rfl (.tmp 64) (.tmp 66) 38 9 (.string ⟨#[]⟩) 16 rfl Try.underlying38 info9 rfl (by decide) (by omega) (.slice Ao15 t533.length co15) t533 (rdOf ByteArray.empty y557 0) [.string (rdOf ByteArray.empty y557 0)] (fun k_ => some k_ ≠ (.slice Ao11 t530.length co11 : Value).ownBlock ∧ some k_ ≠ (.slice A80 y561.length c80 : Value).ownBlock) (fun _ => False) rfl (by (go_simp; done)) ?aP (fun _ hk => hk.elim) ?aF ?aO ?aB ?aS ?aL ?_; (case aP => exact rfl); (case aB => exact (by repeat ((with_reducible first | exact HB.out | refine below_set ?_ GE540.out)))); (case aF => exact (fun k_ hk => ⟨Kd.fresh' (Kd.Q_lt (by (with_reducible repeat (first | apply Kd.Q_alloc | apply Kd.Q_drewN | apply Kd.Q_drew )); exact (Kd.Q_mono (Kd.Q_far (p := ⟨gb540, 0, none⟩) (Kd.Q_far (p := ⟨gb540, 0, none⟩) (Kd.Q_types HO_541000.out BK540.out (by decide)) (fun _ hk => hk.2) (.slice (some ad560) y557.length co65)) (fun _ hk => hk.2) (.slice A80 y561.length c80)) (fun _ h_ => by exact h_.1)))) k_ hk, Kd.fresh' (Kd.Q_lt (by (with_reducible repeat (first | apply Kd.Q_alloc | apply Kd.Q_drewN | apply Kd.Q_drew )); exact (Kd.Q_mono (Kd.Q_far (p := ⟨gb540, 0, none⟩) (Kd.Q_far (p := ⟨gb540, 0, none⟩) (Kd.Q_types HO563.out BK540.out (by decide)) (fun _ hk => hk.2) (.slice (some ad560) y557.length co65)) (fun _ hk => hk.2) (.slice A80 y561.length c80)) (fun _ h_ => by exact h_.1)))) k_ hk⟩)); (case aO => exact (by (with_reducible repeat (first | apply Kd.R_alloc | apply Kd.R_drewN | apply Kd.R_drew )); exact Kd.R_mono (Kd.R_far (p := ⟨gb540, 0, none⟩) (Kd.R_far (p := ⟨gb540, 0, none⟩) (Kd.R_types HO_541001.out BK540.out (by decide)) (fun _ hk => hk.2) (.slice (some ad560) y557.length co65)) (fun _ hk => hk.2) (.slice A80 y561.length c80)) (fun _ hk => ⟨hk.1.1, hk.1.2⟩))); (case aS => exact (below_size (by repeat ((with_reducible first | exact HB.out | refine below_set ?_ GE540.out))))); (case aL => have := LMc82.out; omega); intro v565 w86 ho hb hg hat; rw [← Ny564.out] at ho; have n0_ := Aside0.mk (Kd.Q_after (ok := (fun k_ => some k_ ≠ (.slice A80 y561.length c80 : Value).ownBlock)) (by (with_reducible repeat (first | apply Kd.Q_alloc | apply Kd.Q_drewN | apply Kd.Q_drew )); exact Kd.Q_mono (Kd.Q_far (p := ⟨gb540, 0, none⟩) (Kd.Q_far (p := ⟨gb540, 0, none⟩) (Kd.Q_types HO_541000.out BK540.out (by decide)) (fun _ hk => hk.2) (.slice (some ad560) y557.length co65)) (fun _ hk => hk.2) (.slice A80 y561.length c80)) (fun _ hk => ⟨hk.1.2, hk.1.1⟩)) hg hat); have n1_ := Aside0.mk (Kd.S_over' (by (with_reducible repeat (first | apply Kd.S_alloc | apply Kd.S_drewN | apply Kd.S_drew )); exact (Kd.S_mono (Kd.S_far (p := ⟨gb540, 0, none⟩) (Kd.S_far (p := ⟨gb540, 0, none⟩) (Kd.S_types HO_541002.out BK540.out (by decide)) (fun _ hk => hk.2) (.slice (some ad560) y557.length co65)) (fun _ hk => hk.2) (.slice A80 y561.length c80)) (fun _ h_ => by exact h_.1))) (Kd.R_typed (by (with_reducible repeat (first | apply Kd.R_alloc | apply Kd.R_drewN | apply Kd.R_drew )); exact (Kd.R_mono (Kd.R_far (p := ⟨gb540, 0, none⟩) (Kd.R_far (p := ⟨gb540, 0, none⟩) (Kd.R_types HO_541001.out BK540.out (by decide)) (fun _ hk => hk.2) (.slice (some ad560) y557.length co65)) (fun _ hk => hk.2) (.slice A80 y561.length c80)) (fun _ h_ => by exact h_.1)))) (by decide) hg); have n2_ := Aside0.mk (blk_grown (g := gb528) (o := .cells #[.slice A0_0 l0_0.length c0_0, .slice A0_1 l0_1.length c0_1, .slice A0_2 l0_2.length c0_2, .int .i64 a0_3] 43 (0, 0)) (by (with_reducible repeat (first | refine blk_drewN ?_ _ | refine blk_drew ?_ | refine blk_alloc ?_ _ )); refine blk_far ?_ NB528_540.out _; (with_reducible repeat (first | refine blk_drewN ?_ _ | refine blk_drew ?_ | refine blk_alloc ?_ _ )); refine blk_far ?_ NB528_540.out _; (with_reducible repeat (first | refine blk_drewN ?_ _ | refine blk_drew ?_ | refine blk_alloc ?_ _ )); exact BK528.out) hg (Kd.R_ne HO_541001.out BK528.out (by decide))); have n3_ := Aside0.mk (blk_grown (g := gb529) (o := .cells #[.slice none 0 0, .slice none 0 0, .slice none 0 0, .int .i64 0] 43 (0, 0)) (by (with_reducible repeat (first | refine blk_drewN ?_ _ | refine blk_drew ?_ | refine blk_alloc ?_ _ )); refine blk_far ?_ NB529_540.out _; (with_reducible repeat (first | refine blk_drewN ?_ _ | refine blk_drew ?_ | refine blk_alloc ?_ _ )); refine blk_far ?_ NB529_540.out _; (with_reducible repeat (first | refine blk_drewN ?_ _ | refine blk_drew ?_ | refine blk_alloc ?_ _ )); exact BK529.out) hg (Kd.R_ne HO_541001.out BK529.out (by decide))); have n4_ := Aside0.mk (blk_grown (g := gb540) (o := .cells #[.slice A80 y561.length c80, .slice Ao15 t533.length co15, .slice Ao41 t543.length co41, .int .i64 t546] 43 (0, 0)) (by (with_reducible repeat (first | refine blk_drewN ?_ _ | refine blk_drew ?_ | refine blk_alloc ?_ _ )); refine blk_put (cs := #[.slice (some ad560) y557.length co65, .slice Ao15 t533.length co15, .slice Ao41 t543.length co41, .int .i64 t546]) ?_ 0 _ rfl; (with_reducible repeat (first | refine blk_drewN ?_ _ | refine blk_drew ?_ | refine blk_alloc ?_ _ )); refine blk_put (cs := #[.slice Ao11 t530.length co11, .slice Ao15 t533.length co15, .slice Ao41 t543.length co41, .int .i64 t546]) ?_ 0 _ rfl; (with_reducible repeat (first | refine blk_drewN ?_ _ | refine blk_drew ?_ | refine blk_alloc ?_ _ )); exact BK540.out) hg (Kd.R_ne HO_541001.out BK540.out (by decide))); have n5_ := Aside0.mk (Kd.S_over' (by (with_reducible repeat (first | apply Kd.S_alloc | apply Kd.S_drewN | apply Kd.S_drew )); exact (Kd.S_mono (Kd.S_far (p := ⟨gb540, 0, none⟩) (Kd.S_far (p := ⟨gb540, 0, none⟩) (Kd.S_types HO545.out BK540.out (by decide)) (fun _ hk => hk.2) (.slice (some ad560) y557.length co65)) (fun _ hk => hk.2) (.slice A80 y561.length c80)) (fun _ h_ => by exact h_.1))) (Kd.R_typed (by (with_reducible repeat (first | apply Kd.R_alloc | apply Kd.R_drewN | apply Kd.R_drew )); exact (Kd.R_mono (Kd.R_far (p := ⟨gb540, 0, none⟩) (Kd.R_far (p := ⟨gb540, 0, none⟩) (Kd.R_types HO_541001.out BK540.out (by decide)) (fun _ hk => hk.2) (.slice (some ad560) y557.length co65)) (fun _ hk => hk.2) (.slice A80 y561.length c80)) (fun _ h_ => by exact h_.1)))) (by decide) hg); have n6_ := Aside0.mk (Kd.Q_after (ok := (fun k_ => some k_ ≠ (.slice Ao11 t530.length co11 : Value).ownBlock)) (by (with_reducible repeat (first | apply Kd.Q_alloc | apply Kd.Q_drewN | apply Kd.Q_drew )); exact Kd.Q_mono (Kd.Q_far (p := ⟨gb540, 0, none⟩) (Kd.Q_far (p := ⟨gb540, 0, none⟩) (Kd.Q_types HO563.out BK540.out (by decide)) (fun _ hk => hk.2) (.slice (some ad560) y557.length co65)) (fun _ hk => hk.2) (.slice A80 y561.length c80)) (fun _ hk => ⟨hk.1.1, hk.1.2⟩)) hg hat); have n7_ := Aside0.mk (hb); have n8_ := Aside0.mk (ho); clear HO_541000; clear HO_541002; clear BK528; clear BK529; clear BK540; clear HO545; clear HO563; clear HB; clear HO_541001; have HO_541000 := n0_; have HO_541002 := n1_; have BK528 := n2_; have BK529 := n3_; have BK540 := n4_; have HO545 := n5_; have HO563 := n6_; have HB := n7_; have HO566 := n8_; clear n0_ n1_ n2_ n3_ n4_ n5_ n6_ n7_ n8_; clear ho hb hg hat; obtain ⟨Ao87, co87, eo87⟩ := Kd.R_slice HO566.out; subst eo87; have hcz88_0 : w86.cell? ⟨gb540, 0, none⟩ = some (.slice A80 y561.length c80) := (blk_cell BK540.out 0).trans rfl; have hcz88_1 : w86.cell? ⟨gb540, 1, none⟩ = some (.slice Ao15 t533.length co15) := (blk_cell BK540.out 1).trans rfl; have hcz88_2 : w86.cell? ⟨gb540, 2, none⟩ = some (.slice Ao41 t543.length co41) := (blk_cell BK540.out 2).trans rfl; have hcz88_3 : w86.cell? ⟨gb540, 3, none⟩ = some (.int .i64 t546) := (blk_cell BK540.out 3).trans rfl; have hfz88_0 := blk_frozen BK540.out 0; have hfz88_1 := blk_frozen BK540.out 1; have hfz88_2 := blk_frozen BK540.out 2; have hfz88_3 := blk_frozen BK540.out 3; have hnb89 := NB529_528.out; have hnc89 := NB528_529.out; have hcz90_0 : w86.cell? ⟨gb529, 0, none⟩ = some (.slice none 0 0) := (blk_cell BK529.out 0).trans rfl; have hcz90_1 : w86.cell? ⟨gb529, 1, none⟩ = some (.slice none 0 0) := (blk_cell BK529.out 1).trans rfl; have hcz90_2 : w86.cell? ⟨gb529, 2, none⟩ = some (.slice none 0 0) := (blk_cell BK529.out 2).trans rfl; have hcz90_3 : w86.cell? ⟨gb529, 3, none⟩ = some (.int .i64 0) := (blk_cell BK529.out 3).trans rfl; have hfz90_0 := blk_frozen BK529.out 0; have hfz90_1 := blk_frozen BK529.out 1; have hfz90_2 := blk_frozen BK529.out 2; have hfz90_3 := blk_frozen BK529.out 3))
                      refine bodyPost_ret (results_ct rfl _ _ gb529 43 #[.slice A80 y561.length c80, .slice Ao87 y564.length co87, .slice Ao41 t543.length co41, .int .i64 t546] (0, 0) _ rfl (by (with_reducible repeat (first | refine blk_drewN ?_ _ | refine blk_drew ?_ | refine blk_alloc ?_ _ )); refine blk_put (cs := #[.slice A80 y561.length c80, .slice Ao87 y564.length co87, .slice Ao41 t543.length co41, .int .i64 0]) ?_ 3 _ rfl; (with_reducible repeat (first | refine blk_drewN ?_ _ | refine blk_drew ?_ | refine blk_alloc ?_ _ )); refine blk_put (cs := #[.slice A80 y561.length c80, .slice Ao87 y564.length co87, .slice none 0 0, .int .i64 0]) ?_ 2 _ rfl; (with_reducible repeat (first | refine blk_drewN ?_ _ | refine blk_drew ?_ | refine blk_alloc ?_ _ )); refine blk_put (cs := #[.slice A80 y561.length c80, .slice none 0 0, .slice none 0 0, .int .i64 0]) ?_ 1 _ rfl; (with_reducible repeat (first | refine blk_drewN ?_ _ | refine blk_drew ?_ | refine blk_alloc ?_ _ )); refine blk_put (cs := #[.slice none 0 0, .slice none 0 0, .slice none 0 0, .int .i64 0]) ?_ 0 _ rfl; (with_reducible repeat (first | refine blk_drewN ?_ _ | refine blk_drew ?_ | refine blk_alloc ?_ _ )); refine blk_far ?_ NB529_540.out _; (with_reducible repeat (first | refine blk_drewN ?_ _ | refine blk_drew ?_ | refine blk_alloc ?_ _ )); exact BK529.out) Try.underlying43 rfl (by kernel_rfl)) rfl ?_
                      exact ⟨_, _, _, by rfl, by (with_reducible repeat (first | apply Kd.Q_alloc | apply Kd.Q_drewN | apply Kd.Q_drew )); exact Kd.Q_mono (Kd.Q_far (p := ⟨gb529, 3, none⟩) (Kd.Q_far (p := ⟨gb529, 2, none⟩) (Kd.Q_far (p := ⟨gb529, 1, none⟩) (Kd.Q_far (p := ⟨gb529, 0, none⟩) (Kd.Q_far (p := ⟨gb540, 1, none⟩) (Kd.Q_types (Kd.Q_types HO563.out BK540.out (by decide)) BK529.out (by decide)) (fun _ hk => hk.1.2) (.slice Ao87 y564.length co87)) (fun _ hk => hk.2) (.slice A80 y561.length c80)) (fun _ hk => hk.2) (.slice Ao87 y564.length co87)) (fun _ hk => hk.2) (.slice Ao41 t543.length co41)) (fun _ hk => hk.2) (.int .i64 t546)) (fun _ hk => hk.1.1.2), Kd.Q_of_R (by (with_reducible repeat (first | apply Kd.R_alloc | apply Kd.R_drewN | apply Kd.R_drew )); exact Kd.R_mono (Kd.R_far (p := ⟨gb529, 3, none⟩) (Kd.R_far (p := ⟨gb529, 2, none⟩) (Kd.R_far (p := ⟨gb529, 1, none⟩) (Kd.R_far (p := ⟨gb529, 0, none⟩) (Kd.R_far (p := ⟨gb540, 1, none⟩) (Kd.R_types (Kd.R_types HO566.out BK540.out (by decide)) BK529.out (by decide)) (fun _ hk => hk.1.2) (.slice Ao87 y564.length co87)) (fun _ hk => hk.2) (.slice A80 y561.length c80)) (fun _ hk => hk.2) (.slice Ao87 y564.length co87)) (fun _ hk => hk.2) (.slice Ao41 t543.length co41)) (fun _ hk => hk.2) (.int .i64 t546)) (fun _ hk => hk.1.1.2)), by (with_reducible repeat (first | apply Kd.S_alloc | apply Kd.S_drewN | apply Kd.S_drew )); exact Kd.S_mono (Kd.S_far (p := ⟨gb529, 3, none⟩) (Kd.S_far (p := ⟨gb529, 2, none⟩) (Kd.S_far (p := ⟨gb529, 1, none⟩) (Kd.S_far (p := ⟨gb529, 0, none⟩) (Kd.S_far (p := ⟨gb540, 1, none⟩) (Kd.S_types (Kd.S_types HO545.out BK540.out (by decide)) BK529.out (by decide)) (fun _ hk => hk.1.2) (.slice Ao87 y564.length co87)) (fun _ hk => hk.2) (.slice A80 y561.length c80)) (fun _ hk => hk.2) (.slice Ao87 y564.length co87)) (fun _ hk => hk.2) (.slice Ao41 t543.length co41)) (fun _ hk => hk.2) (.int .i64 t546)) (fun _ hk => trivial), by repeat ((with_reducible first | exact HB.out | refine below_set ?_ GE529.out | refine below_set ?_ GE540.out))⟩
                    · rw [if_neg c82] at H
                      exact absurd H (by simp)
                  · rw [if_neg c81] at H
                    have c81b0 : decide ((t533.length : Int) < 4) = false := decide_eq_false c81
                    have c81b1 : decide (t533.length < 4) = false := decide_eq_false (by omega)
                    clear c81
                    (rw [c81b0])
                    by_cases c91 : 0 < (t533.length : Int)
                    · rw [if_pos c91] at H
                      have c91b0 : decide (0 < (t533.length : Int)) = true := decide_eq_true c91
                      have c91b1 : decide (0 < t533.length) = true := decide_eq_true (by omega)
                      clear c91
                      replace H := Option.bind_eq_some_iff.mp H
                      obtain ⟨t568, A920, H⟩ := H
                      replace H : ((impl_SketchGuess.f kj3 t543 t546 (rdOf ByteArray.empty t533 0)).bind fun t569 => (if t568 > t569 then (if 1 ≤ (t533.length : Int) then ((some (t533.drop (1 : Int).toNat : List ByteArray)).bind fun y570 => (if y570.length < 8796093022208 then (some (y561, (y570 ++ [rdOf ByteArray.empty y557 0]), t543, t546, rdOf ByteArray.empty t533 0)) else (none))) else (none)) else (some (y561, t533, t543, t546, rdOf ByteArray.empty y557 0)))) = some (r1, r2, r3, r4, r5) := H
                      have A92 := Aside0.mk A920
                      clear A920
                      replace H := Option.bind_eq_some_iff.mp H
                      obtain ⟨t569, A930, H⟩ := H
                      replace H : (if t568 > t569 then (if 1 ≤ (t533.length : Int) then ((some (t533.drop (1 : Int).toNat : List ByteArray)).bind fun y570 => (if y570.length < 8796093022208 then (some (y561, (y570 ++ [rdOf ByteArray.empty y557 0]), t543, t546, rdOf ByteArray.empty t533 0)) else (none))) else (none)) else (some (y561, t533, t543, t546, rdOf ByteArray.empty y557 0))) = some (r1, r2, r3, r4, r5) := H
                      have A93 := Aside0.mk A930
                      clear A930
                      have HS94 := Aside0.mk H
                      clear H
                      have hnb95 := NB540_528.out
                      have hnc95 := NB528_540.out
                      have hnb96 := NB540_529.out
                      have hnc96 := NB529_540.out
                      have hcz97_0 : w64.cell? ⟨gb540, 0, none⟩ = some (.slice Ao11 t530.length co11) := (blk_cell BK540.out 0).trans rfl
                      have hcz97_1 : w64.cell? ⟨gb540, 1, none⟩ = some (.slice Ao15 t533.length co15) := (blk_cell BK540.out 1).trans rfl
                      have hcz97_2 : w64.cell? ⟨gb540, 2, none⟩ = some (.slice Ao41 t543.length co41) := (blk_cell BK540.out 2).trans rfl
                      have hcz97_3 : w64.cell? ⟨gb540, 3, none⟩ = some (.int .i64 t546) := (blk_cell BK540.out 3).trans rfl
                      have hfz97_0 := blk_frozen BK540.out 0
                      have hfz97_1 := blk_frozen BK540.out 1
                      have hfz97_2 := blk_frozen BK540.out 2
                      have hfz97_3 := blk_frozen BK540.out 3
                      have p567 : 0 ≤ (0 : Int) := (by omega)
                      have q567 : 0 < (t533.length : Int) := of_decide_eq_true (by (with_reducible assumption))
                      obtain ⟨ad567, e567, hx567_0⟩ := Kd.at_string (Kd.R_reads' HO_541001.out).2.2 0 p567 q567
                      cases e567
                      have qi567 : (0 < t533.length) = True := eq_true (by omega)
                      (try rw [show ((0 : Int)).toNat = 0 from rfl] at hx567_0)
                      (try rw [Addr.add_zero'] at hx567_0)
                      have hn567_0 : ad567.block ≠ gb540 := Kd.own_blk (Kd.R_ne HO_541001.out BK540.out (by decide))
                      have hn567_1 : ad567.block ≠ gb540 := Kd.own_blk (Kd.R_ne HO_541001.out BK540.out (by decide))
                      replace hx567_0 := (cell_far (p := ⟨gb540, 0, none⟩) (by exact hn567_0) (.slice (some ad560) y557.length co65)).trans hx567_0
                      replace hx567_0 := (cell_far (p := ⟨gb540, 0, none⟩) (by exact hn567_1) (.slice A80 y561.length c80)).trans hx567_0
                      clear hn567_0
                      clear hn567_1
                      replace p567 := eq_true p567
                      replace q567 := eq_true q567
                      go_wp2
                      have n0_ : Aside0 (Kd.Q Kd.string 9 ((w64.setCell ⟨gb540, 0, none⟩ (.slice (some ad560) y557.length co65)).setCell ⟨gb540, 0, none⟩ (.slice A80 y561.length c80)) w.heap.size (fun k_ => some k_ ≠ (.slice (some ad567) t533.length co15 : Value).ownBlock ∧ some k_ ≠ (.slice A80 y561.length c80 : Value).ownBlock) (.slice Ao11 t530.length co11) t530) := ⟨by (with_reducible repeat (first | apply Kd.Q_alloc | apply Kd.Q_drewN | apply Kd.Q_drew )); exact Kd.Q_mono (Kd.Q_far (p := ⟨gb540, 0, none⟩) (Kd.Q_far (p := ⟨gb540, 0, none⟩) (Kd.Q_types HO_541000.out BK540.out (by decide)) (fun _ hk => hk.2) (.slice (some ad560) y557.length co65)) (fun _ hk => hk.2) (.slice A80 y561.length c80)) (fun _ hk => ⟨hk.1.1, hk.1.2⟩)⟩
                      have n1_ : Aside0 (Kd.R Kd.string 9 ((w64.setCell ⟨gb540, 0, none⟩ (.slice (some ad560) y557.length co65)).setCell ⟨gb540, 0, none⟩ (.slice A80 y561.length c80)) w.heap.size (fun k_ => some k_ ≠ (.slice Ao11 t530.length co11 : Value).ownBlock ∧ some k_ ≠ (.slice A80 y561.length c80 : Value).ownBlock) (.slice (some ad567) t533.length co15) t533) := ⟨by (with_reducible repeat (first | apply Kd.R_alloc | apply Kd.R_drewN | apply Kd.R_drew )); exact Kd.R_mono (Kd.R_far (p := ⟨gb540, 0, none⟩) (Kd.R_far (p := ⟨gb540, 0, none⟩) (Kd.R_types HO_541001.out BK540.out (by decide)) (fun _ hk => hk.2) (.slice (some ad560) y557.length co65)) (fun _ hk => hk.2) (.slice A80 y561.length c80)) (fun _ hk => ⟨hk.1.1, hk.1.2⟩)⟩
                      have n2_ : Aside0 (Kd.S (Kd.slice 3 (Kd.int .i64)) 58 ((w64.setCell ⟨gb540, 0, none⟩ (.slice (some ad560) y557.length co65)).setCell ⟨gb540, 0, none⟩ (.slice A80 y561.length c80)) w.heap.size (fun k_ => some k_ ≠ (.slice Ao41 t543.length co41 : Value).ownBlock) (.slice Ao16 t536.length co16) t536) := ⟨by (with_reducible repeat (first | apply Kd.S_alloc | apply Kd.S_drewN | apply Kd.S_drew )); exact Kd.S_mono (Kd.S_far (p := ⟨gb540, 0, none⟩) (Kd.S_far (p := ⟨gb540, 0, none⟩) (Kd.S_types HO_541002.out BK540.out (by decide)) (fun _ hk => hk.2) (.slice (some ad560) y557.length co65)) (fun _ hk => hk.2) (.slice A80 y561.length c80)) (fun _ hk => hk.1.2)⟩
                      have n3_ : Aside0 (Kd.S (Kd.slice 3 (Kd.int .i64)) 58 ((w64.setCell ⟨gb540, 0, none⟩ (.slice (some ad560) y557.length co65)).setCell ⟨gb540, 0, none⟩ (.slice A80 y561.length c80)) w.heap.size (fun k_ => some k_ ≠ (.slice Ao16 t536.length co16 : Value).ownBlock) (.slice Ao41 t543.length co41) t543) := ⟨by (with_reducible repeat (first | apply Kd.S_alloc | apply Kd.S_drewN | apply Kd.S_drew )); exact Kd.S_mono (Kd.S_far (p := ⟨gb540, 0, none⟩) (Kd.S_far (p := ⟨gb540, 0, none⟩) (Kd.S_types HO545.out BK540.out (by decide)) (fun _ hk => hk.2) (.slice (some ad560) y557.length co65)) (fun _ hk => hk.2) (.slice A80 y561.length c80)) (fun _ hk => hk.1.2)⟩
                      have n4_ : Aside0 (Kd.Q Kd.string 9 ((w64.setCell ⟨gb540, 0, none⟩ (.slice (some ad560) y557.length co65)).setCell ⟨gb540, 0, none⟩ (.slice A80 y561.length c80)) w.heap.size (fun k_ => some k_ ≠ (.slice Ao11 t530.length co11 : Value).ownBlock ∧ some k_ ≠ (.slice (some ad567) t533.length co15 : Value).ownBlock) (.slice A80 y561.length c80) y561) := ⟨by (with_reducible repeat (first | apply Kd.Q_alloc | apply Kd.Q_drewN | apply Kd.Q_drew )); exact Kd.Q_mono (Kd.Q_far (p := ⟨gb540, 0, none⟩) (Kd.Q_far (p := ⟨gb540, 0, none⟩) (Kd.Q_types HO563.out BK540.out (by decide)) (fun _ hk => hk.2) (.slice (some ad560) y557.length co65)) (fun _ hk => hk.2) (.slice A80 y561.length c80)) (fun _ hk => ⟨hk.1.1, hk.1.2⟩)⟩
                      have n5_ : Aside0 (((w64.setCell ⟨gb540, 0, none⟩ (.slice (some ad560) y557.length co65)).setCell ⟨gb540, 0, none⟩ (.slice A80 y561.length c80)).heap[gb528]? = some (.cells #[.slice A0_0 l0_0.length c0_0, .slice A0_1 l0_1.length c0_1, .slice A0_2 l0_2.length c0_2, .int .i64 a0_3] 43 (0, 0))) := ⟨by (with_reducible repeat (first | refine blk_drewN ?_ _ | refine blk_drew ?_ | refine blk_alloc ?_ _ )); refine blk_far ?_ NB528_540.out _; (with_reducible repeat (first | refine blk_drewN ?_ _ | refine blk_drew ?_ | refine blk_alloc ?_ _ )); refine blk_far ?_ NB528_540.out _; (with_reducible repeat (first | refine blk_drewN ?_ _ | refine blk_drew ?_ | refine blk_alloc ?_ _ )); exact BK528.out⟩
                      have n6_ : Aside0 (((w64.setCell ⟨gb540, 0, none⟩ (.slice (some ad560) y557.length co65)).setCell ⟨gb540, 0, none⟩ (.slice A80 y561.length c80)).heap[gb529]? = some (.cells #[.slice none 0 0, .slice none 0 0, .slice none 0 0, .int .i64 0] 43 (0, 0))) := ⟨by (with_reducible repeat (first | refine blk_drewN ?_ _ | refine blk_drew ?_ | refine blk_alloc ?_ _ )); refine blk_far ?_ NB529_540.out _; (with_reducible repeat (first | refine blk_drewN ?_ _ | refine blk_drew ?_ | refine blk_alloc ?_ _ )); refine blk_far ?_ NB529_540.out _; (with_reducible repeat (first | refine blk_drewN ?_ _ | refine blk_drew ?_ | refine blk_alloc ?_ _ )); exact BK529.out⟩
                      have n7_ : Aside0 (((w64.setCell ⟨gb540, 0, none⟩ (.slice (some ad560) y557.length co65)).setCell ⟨gb540, 0, none⟩ (.slice A80 y561.length c80)).heap[gb540]? = some (.cells #[.slice A80 y561.length c80, .slice (some ad567) t533.length co15, .slice Ao41 t543.length co41, .int .i64 t546] 43 (0, 0))) := ⟨by (with_reducible repeat (first | refine blk_drewN ?_ _ | refine blk_drew ?_ | refine blk_alloc ?_ _ )); refine blk_put (cs := #[.slice (some ad560) y557.length co65, .slice (some ad567) t533.length co15, .slice Ao41 t543.length co41, .int .i64 t546]) ?_ 0 _ rfl; (with_reducible repeat (first | refine blk_drewN ?_ _ | refine blk_drew ?_ | refine blk_alloc ?_ _ )); refine blk_put (cs := #[.slice Ao11 t530.length co11, .slice (some ad567) t533.length co15, .slice Ao41 t543.length co41, .int .i64 t546]) ?_ 0 _ rfl; (with_reducible repeat (first | refine blk_drewN ?_ _ | refine blk_drew ?_ | refine blk_alloc ?_ _ )); exact BK540.out⟩
                      have n8_ : Aside0 (Below w.heap.size w ((w64.setCell ⟨gb540, 0, none⟩ (.slice (some ad560) y557.length co65)).setCell ⟨gb540, 0, none⟩ (.slice A80 y561.length c80))) := ⟨by repeat ((with_reducible first | exact HB.out | refine below_set ?_ GE540.out))⟩
                      (try clear HO_541000)
                      (try clear HO_541001)
                      (try clear HO_541002)
                      (try clear HO545)
                      (try clear HO563)
                      (try clear BK528)
                      (try clear BK529)
                      (try clear BK540)
                      (try clear HB)
                      generalize ((w64.setCell ⟨gb540, 0, none⟩ (.slice (some ad560) y557.length co65)).setCell ⟨gb540, 0, none⟩ (.slice A80 y561.length c80)) = w98 at n0_ n1_ n2_ n3_ n4_ n5_ n6_ n7_ n8_ ⊢
                      have HO_541000 := n0_
                      have HO_541001 := n1_
                      have HO_541002 := n2_
                      have HO545 := n3_
                      have HO563 := n4_
                      have BK528 := n5_
                      have BK529 := n6_
                      have BK540 := n7_
                      have HB := n8_
                      clear n0_ n1_ n2_ n3_ n4_ n5_ n6_ n7_ n8_
                      have n0_ := Aside0.mk (Kd.Q_drew HO_541000.out)
                      have n1_ := Aside0.mk (Kd.R_drew HO_541001.out)
                      have n2_ := Aside0.mk (Kd.S_drew HO_541002.out)
                      have n3_ := Aside0.mk (Kd.S_drew HO545.out)
                      have n4_ := Aside0.mk (Kd.Q_drew HO563.out)
                      have n5_ := Aside0.mk (blk_drew BK528.out)
                      have n6_ := Aside0.mk (blk_drew BK529.out)
                      have n7_ := Aside0.mk (blk_drew BK540.out)
                      have n8_ := Aside0.mk (below_drew1 HB.out)
                      clear HO_541000
                      clear HO_541001
                      clear HO_541002
                      clear HO545
                      clear HO563
                      clear BK528
                      clear BK529
                      clear BK540
                      clear HB
                      have HO_541000 := n0_
                      have HO_541001 := n1_
                      have HO_541002 := n2_
                      have HO545 := n3_
                      have HO563 := n4_
                      have BK528 := n5_
                      have BK529 := n6_
                      have BK540 := n7_
                      have HB := n8_
                      clear n0_ n1_ n2_ n3_ n4_ n5_ n6_ n7_ n8_
                      refine start_ (n := 9) (S := fun w' => w'.cell? ⟨gb540, 0, none⟩ = some (.slice A80 y561.length c80) ∧ w'.cell? ⟨gb540, 1, none⟩ = some (.slice (some ad567) t533.length co15) ∧ w'.cell? ⟨gb540, 2, none⟩ = some (.slice Ao41 t543.length co41) ∧ w'.cell? ⟨gb540, 3, none⟩ = some (.int .i64 t546)) (ds := []) #[false, false, false, false, false, false, false, false, false] (by kernel_rfl) rfl rfl ⟨(blk_cell BK540.out 0).trans rfl, (blk_cell BK540.out 1).trans rfl, (blk_cell BK540.out 2).trans rfl, (blk_cell BK540.out 3).trans rfl⟩ (fun hHeld => ?_); refine with_tabW impl_PolicyTouch.tab17 impl_PolicyTouch.bits17 (fun HT_ HW_ => ?_)
                      generalize w98.drew = w99 at HO_541000 HO_541001 HO_541002 HO545 HO563 BK528 BK529 BK540 HB hHeld ⊢
                      refine pure_ (i := 0) (N := some 74) (v := ?_) (a' := ?_) #[true, false, false, false, false, false, false, false, false] rfl rfl (any_of HT_.out (by kernel_rfl)) (fun _ _ _ h => h) (Or.inl ⟨by rfl, ?_⟩) ?_ ?_
                      rotate_left
                      · intro w'
                        go_simp
                        with_reducible rfl
                      rotate_left
                      · simp only [Act.put, List.setIfInBounds_toArray, List.set_cons_zero, List.set_cons_succ, i64_w, i32_w]
                        rfl
                      refine pure_ (i := 2) (N := some 76) (v := ?_) (a' := ?_) #[true, false, true, false, false, false, false, false, false] rfl rfl (any_of HT_.out (by kernel_rfl)) (fun _ _ _ h => h) (Or.inl ⟨by rfl, ?_⟩) ?_ ?_
                      rotate_left
                      · intro w'
                        go_simp
                        with_reducible rfl
                      rotate_left
                      · simp only [Act.put, List.setIfInBounds_toArray, List.set_cons_zero, List.set_cons_succ, i64_w, i32_w]
                        rfl
                      refine pure_ (i := 4) (N := some 78) (v := ?_) (a' := ?_) #[true, false, true, false, true, false, false, false, false] rfl rfl (any_of HT_.out (by kernel_rfl)) (fun _ _ _ h => h) (Or.inl ⟨by rfl, ?_⟩) ?_ ?_
                      rotate_left
                      · intro w'
                        go_simp
                        with_reducible rfl
                      rotate_left
                      · simp only [Act.put, List.setIfInBounds_toArray, List.set_cons_zero, List.set_cons_succ, i64_w, i32_w]
                        rfl
                      refine pure_ (i := 6) (N := some 80) (v := ?_) (a' := ?_) #[true, false, true, false, true, false, true, false, false] rfl rfl (any_of HT_.out (by kernel_rfl)) (fun _ _ _ h => h) (Or.inl ⟨by rfl, ?_⟩) ?_ ?_
                      rotate_left
                      · intro w'
                        go_simp
                        with_reducible rfl
                      rotate_left
                      · simp only [Act.put, List.setIfInBounds_toArray, List.set_cons_zero, List.set_cons_succ, i64_w, i32_w]
                        rfl
                      refine take_ (i := 1) (N := some 75) (v := ?_) (a' := ?_) #[true, true, true, false, true, false, true, false, false] rfl rfl (take_ofW HT_.out HW_.out (by kernel_rfl)) (fun _ _ _ h => h) (Or.inl ⟨by rfl, ?_⟩) hHeld ?_ ?_
                      rotate_left
                      · rintro w' ⟨s0, s1, s2, s3⟩
                        go_simp
                        with_reducible rfl
                      rotate_left
                      · simp only [Act.put, List.setIfInBounds_toArray, List.set_cons_zero, List.set_cons_succ, i64_w, i32_w]
                        rfl
                      refine take_ (i := 5) (N := some 79) (v := ?_) (a' := ?_) #[true, true, true, false, true, true, true, false, false] rfl rfl (take_ofW HT_.out HW_.out (by kernel_rfl)) (fun _ _ _ h => h) (Or.inl ⟨by rfl, ?_⟩) hHeld ?_ ?_
                      rotate_left
                      · rintro w' ⟨s0, s1, s2, s3⟩
                        go_simp
                        with_reducible rfl
                      rotate_left
                      · simp only [Act.put, List.setIfInBounds_toArray, List.set_cons_zero, List.set_cons_succ, i64_w, i32_w]
                        rfl
                      refine one_ (i := 3) (N := some 77) #[true, true, true, true, true, true, true, false, false] rfl rfl (one_of HT_.out (by kernel_rfl)) (by decide) (fun K hK => ?_)
                      refine goes_ Try.func31 (by kernel_rfl) rfl #[.agg #[.slice Ao41 t543.length co41, .int .i64 t546], .string (rdOf ByteArray.empty y557 0)] (by rfl) rfl rfl (by (try simp only [List.map_toArray, List.map_cons, List.map_nil]); rfl) ?_
                      with_reducible refine (impl_SketchGuess.calls kj3 _ _ t543 t546 (rdOf ByteArray.empty y557 0) t568 _ ?side1 ?side2 A92.out).mono ?_
                      (case side1 => repeat (exact (Kd.S_reads' HO545.out).2.2))
                      (case side2 => exact (Kd.S_reads' HO545.out).2.1)
                      rintro e w100 ⟨rfl, hb⟩
                      refine ⟨_, rfl, ?_⟩
                      have n0_ := Aside0.mk (Kd.Q_below (by (with_reducible repeat (first | apply Kd.Q_alloc | apply Kd.Q_drewN | apply Kd.Q_drew )); exact HO_541000.out) hb)
                      have n1_ := Aside0.mk (Kd.R_below (by (with_reducible repeat (first | apply Kd.R_alloc | apply Kd.R_drewN | apply Kd.R_drew )); exact HO_541001.out) hb)
                      have n2_ := Aside0.mk (Kd.S_below (by (with_reducible repeat (first | apply Kd.S_alloc | apply Kd.S_drewN | apply Kd.S_drew )); exact HO_541002.out) hb)
                      have n3_ := Aside0.mk (Kd.S_below (by (with_reducible repeat (first | apply Kd.S_alloc | apply Kd.S_drewN | apply Kd.S_drew )); exact HO545.out) hb)
                      have n4_ := Aside0.mk (Kd.Q_below (by (with_reducible repeat (first | apply Kd.Q_alloc | apply Kd.Q_drewN | apply Kd.Q_drew )); exact HO563.out) hb)
                      have n5_ := Aside0.mk (blk_below (g := gb528) (o := .cells #[.slice A0_0 l0_0.length c0_0, .slice A0_1 l0_1.length c0_1, .slice A0_2 l0_2.length c0_2, .int .i64 a0_3] 43 (0, 0)) (by (with_reducible repeat (first | refine blk_drewN ?_ _ | refine blk_drew ?_ | refine blk_alloc ?_ _ )); exact BK528.out) hb)
                      have n6_ := Aside0.mk (blk_below (g := gb529) (o := .cells #[.slice none 0 0, .slice none 0 0, .slice none 0 0, .int .i64 0] 43 (0, 0)) (by (with_reducible repeat (first | refine blk_drewN ?_ _ | refine blk_drew ?_ | refine blk_alloc ?_ _ )); exact BK529.out) hb)
                      have n7_ := Aside0.mk (blk_below (g := gb540) (o := .cells #[.slice A80 y561.length c80, .slice (some ad567) t533.length co15, .slice Ao41 t543.length co41, .int .i64 t546] 43 (0, 0)) (by (with_reducible repeat (first | refine blk_drewN ?_ _ | refine blk_drew ?_ | refine blk_alloc ?_ _ )); exact BK540.out) hb)
                      have n8_ := Aside0.mk (below_step (by repeat ((with_reducible exact HB.out))) hb)
                      clear HO_541000
                      clear HO_541001
                      clear HO_541002
                      clear HO545
                      clear HO563
                      clear BK528
                      clear BK529
                      clear BK540
                      clear HB
                      have HO_541000 := n0_
                      have HO_541001 := n1_
                      have HO_541002 := n2_
                      have HO545 := n3_
                      have HO563 := n4_
                      have BK528 := n5_
                      have BK529 := n6_
                      have BK540 := n7_
                      have HB := n8_
                      clear n0_ n1_ n2_ n3_ n4_ n5_ n6_ n7_ n8_
                      (try clear hb)
                      (try clear hb2)
                      (try clear hk)
                      (try clear hi)
                      refine hK.out _ _ ⟨(blk_cell BK540.out 0).trans rfl, (blk_cell BK540.out 1).trans rfl, (blk_cell BK540.out 2).trans rfl, (blk_cell BK540.out 3).trans rfl⟩ (fun hHeld => ?_)
                      clear hK K
                      refine norm_ (a' := ?_) ?_ ?_
                      rotate_left
                      · show Act.put _ (some 77) _ = _
                        simp only [Act.put, List.setIfInBounds_toArray, List.set_cons_zero, List.set_cons_succ, i64_w, i32_w]
                        rfl
                      refine one_ (i := 7) (N := some 81) #[true, true, true, true, true, true, true, true, false] rfl rfl (one_of HT_.out (by kernel_rfl)) (by decide) (fun K hK => ?_)
                      refine goes_ Try.func31 (by kernel_rfl) rfl #[.agg #[.slice Ao41 t543.length co41, .int .i64 t546], .string (rdOf ByteArray.empty t533 0)] (by rfl) rfl rfl (by (try simp only [List.map_toArray, List.map_cons, List.map_nil]); rfl) ?_
                      with_reducible refine (impl_SketchGuess.calls kj3 _ _ t543 t546 (rdOf ByteArray.empty t533 0) t569 _ ?side1 ?side2 A93.out).mono ?_
                      (case side1 => repeat (exact (Kd.S_reads' HO545.out).2.2))
                      (case side2 => exact (Kd.S_reads' HO545.out).2.1)
                      rintro e w101 ⟨rfl, hb⟩
                      refine ⟨_, rfl, ?_⟩
                      have n0_ := Aside0.mk (Kd.Q_below (by (with_reducible repeat (first | apply Kd.Q_alloc | apply Kd.Q_drewN | apply Kd.Q_drew )); exact HO_541000.out) hb)
                      have n1_ := Aside0.mk (Kd.R_below (by (with_reducible repeat (first | apply Kd.R_alloc | apply Kd.R_drewN | apply Kd.R_drew )); exact HO_541001.out) hb)
                      have n2_ := Aside0.mk (Kd.S_below (by (with_reducible repeat (first | apply Kd.S_alloc | apply Kd.S_drewN | apply Kd.S_drew )); exact HO_541002.out) hb)
                      have n3_ := Aside0.mk (Kd.S_below (by (with_reducible repeat (first | apply Kd.S_alloc | apply Kd.S_drewN | apply Kd.S_drew )); exact HO545.out) hb)
                      have n4_ := Aside0.mk (Kd.Q_below (by (with_reducible repeat (first | apply Kd.Q_alloc | apply Kd.Q_drewN | apply Kd.Q_drew )); exact HO563.out) hb)
                      have n5_ := Aside0.mk (blk_below (g := gb528) (o := .cells #[.slice A0_0 l0_0.length c0_0, .slice A0_1 l0_1.length c0_1, .slice A0_2 l0_2.length c0_2, .int .i64 a0_3] 43 (0, 0)) (by (with_reducible repeat (first | refine blk_drewN ?_ _ | refine blk_drew ?_ | refine blk_alloc ?_ _ )); exact BK528.out) hb)
                      have n6_ := Aside0.mk (blk_below (g := gb529) (o := .cells #[.slice none 0 0, .slice none 0 0, .slice none 0 0, .int .i64 0] 43 (0, 0)) (by (with_reducible repeat (first | refine blk_drewN ?_ _ | refine blk_drew ?_ | refine blk_alloc ?_ _ )); exact BK529.out) hb)
                      have n7_ := Aside0.mk (blk_below (g := gb540) (o := .cells #[.slice A80 y561.length c80, .slice (some ad567) t533.length co15, .slice Ao41 t543.length co41, .int .i64 t546] 43 (0, 0)) (by (with_reducible repeat (first | refine blk_drewN ?_ _ | refine blk_drew ?_ | refine blk_alloc ?_ _ )); exact BK540.out) hb)
                      have n8_ := Aside0.mk (below_step (by repeat ((with_reducible exact HB.out))) hb)
                      clear HO_541000
                      clear HO_541001
                      clear HO_541002
                      clear HO545
                      clear HO563
                      clear BK528
                      clear BK529
                      clear BK540
                      clear HB
                      have HO_541000 := n0_
                      have HO_541001 := n1_
                      have HO_541002 := n2_
                      have HO545 := n3_
                      have HO563 := n4_
                      have BK528 := n5_
                      have BK529 := n6_
                      have BK540 := n7_
                      have HB := n8_
                      clear n0_ n1_ n2_ n3_ n4_ n5_ n6_ n7_ n8_
                      (try clear hb)
                      (try clear hb2)
                      (try clear hk)
                      (try clear hi)
                      refine hK.out _ _ ⟨(blk_cell BK540.out 0).trans rfl, (blk_cell BK540.out 1).trans rfl, (blk_cell BK540.out 2).trans rfl, (blk_cell BK540.out 3).trans rfl⟩ (fun hHeld => ?_)
                      clear hK K
                      refine norm_ (a' := ?_) ?_ ?_
                      rotate_left
                      · show Act.put _ (some 81) _ = _
                        simp only [Act.put, List.setIfInBounds_toArray, List.set_cons_zero, List.set_cons_succ, i64_w, i32_w]
                        rfl
                      refine pure_ (i := 8) (N := some 82) (v := ?_) (a' := ?_) #[true, true, true, true, true, true, true, true, true] rfl rfl (any_of HT_.out (by kernel_rfl)) (fun _ _ _ h => h) (Or.inl ⟨by rfl, ?_⟩) ?_ ?_
                      rotate_left
                      · intro w'
                        go_simp
                        with_reducible rfl
                      rotate_left
                      · simp only [Act.put, List.setIfInBounds_toArray, List.set_cons_zero, List.set_cons_succ, i64_w, i32_w]
                        rfl
                      refine done_ (done_of HT_.out (by kernel_rfl)) ?_
                      go_upto_if 82 with (fail)
                      have H := HS94.out
                      clear HS94
                      by_cases c102 : t568 > t569
                      · rw [if_pos c102] at H
                        have c102b0 : decide (t569 < t568) = true := decide_eq_true c102
                        clear c102
                        (rw [c102b0])
                        by_cases c103 : 1 ≤ (t533.length : Int)
                        · rw [if_pos c103] at H
                          have c103b0 := eq_true c103
                          have c103b1 : decide (1 ≤ (t533.length : Int)) = true := decide_eq_true c103
                          clear c103
                          obtain ⟨y570, hy570⟩ : ∃ y_ : List ByteArray, y_ = (t533.drop (1 : Int).toNat) := ⟨_, rfl⟩
                          replace H : (if y570.length < 8796093022208 then (some (y561, (y570 ++ [rdOf ByteArray.empty y557 0]), t543, t546, rdOf ByteArray.empty t533 0)) else (none)) = some (r1, r2, r3, r4, r5) := by (have H2_ := (Option.bind_some _ _).symm.trans H; rw [hy570]; with_reducible exact H2_)
                          have Ny570 := Aside0.mk hy570
                          clear hy570
                          by_cases c104 : y570.length < 8796093022208
                          · rw [if_pos c104] at H
                            have LMc104 := Aside0.mk c104
                            clear c104
                            obtain ⟨y573, hy573⟩ : ∃ y_ : List ByteArray, y_ = (y570 ++ [rdOf ByteArray.empty y557 0]) := ⟨_, rfl⟩
                            replace H : (some (y561, y573, t543, t546, rdOf ByteArray.empty t533 0)) = some (r1, r2, r3, r4, r5) := by (rw [hy573]; with_reducible exact H)
                            have Ny573 := Aside0.mk hy573
                            clear hy573
                            simp only [Option.some.injEq, Prod.mk.injEq] at H
                            obtain ⟨rfl, rfl, rfl, rfl, rfl⟩ := H
                            have hnb105 := NB540_528.out
                            have hnc105 := NB528_540.out
                            have hnb106 := NB540_529.out
                            have hnc106 := NB529_540.out
                            have hcz107_0 : w101.cell? ⟨gb540, 0, none⟩ = some (.slice A80 y561.length c80) := (blk_cell BK540.out 0).trans rfl
                            have hcz107_1 : w101.cell? ⟨gb540, 1, none⟩ = some (.slice (some ad567) t533.length co15) := (blk_cell BK540.out 1).trans rfl
                            have hcz107_2 : w101.cell? ⟨gb540, 2, none⟩ = some (.slice Ao41 t543.length co41) := (blk_cell BK540.out 2).trans rfl
                            have hcz107_3 : w101.cell? ⟨gb540, 3, none⟩ = some (.int .i64 t546) := (blk_cell BK540.out 3).trans rfl
                            have hfz107_0 := blk_frozen BK540.out 0
                            have hfz107_1 := blk_frozen BK540.out 1
                            have hfz107_2 := blk_frozen BK540.out 2
                            have hfz107_3 := blk_frozen BK540.out 3
                            have q108 : (1 : Int) ≤ ((t533.length : Int) : Int) := of_decide_eq_true (by (with_reducible assumption))
                            obtain ⟨i0108, hi0108, _, hsz108, _⟩ := info_parts info9
                            have hcut108 := cut_from (P := Try.prog) 38 9 .i64 Try.underlying38 hi0108 1 hsz108 (some ad567) t533.length co15 1 (by omega) q108
                            have hr108 := Kd.Q_drop (k := (1 : Int).toNat) (Kd.Q_of_R HO_541001.out) (by omega)
                            obtain ⟨A108, hA108⟩ : ∃ A1, A1 = (if co15 = (1 : Int).toNat then (some ad567) else ((some ad567) : Option Addr).map (·.add ((1 : Int).toNat * 1))) := ⟨_, rfl⟩
                            obtain ⟨c108, hc108⟩ : ∃ c1, c1 = co15 - (1 : Int).toNat := ⟨_, rfl⟩
                            have hy108 : y570.length = t533.length - (1 : Int).toNat := (by rw [Ny570.out, List.length_drop])
                            rw [← Ny570.out] at hr108
                            rw [← hy108, ← hA108, ← hc108] at hcut108
                            replace hr108 : Kd.Q Kd.string 9 w101 w.heap.size (fun k_ => some k_ ≠ (.slice Ao11 t530.length co11 : Value).ownBlock ∧ some k_ ≠ (.slice A80 y561.length c80 : Value).ownBlock) (.slice A108 y570.length c108) y570 := (by rw [hA108, hc108, hy108]; exact hr108)
                            have HE108 : Aside0 ((Value.slice A108 y570.length c108).ownBlock = (.slice (some ad567) t533.length co15 : Value).ownBlock) := ⟨by rw [hA108]; split <;> (cases ((some ad567) : Option Addr) <;> rfl)⟩
                            clear hy108 hi0108 hsz108 HO_541001 hA108 hc108
                            have HO572 := Aside0.mk hr108
                            clear hr108
                            replace q108 := eq_true q108
                            have n_ := Aside0.mk (Kd.Q_mono (ok' := fun k_ => (some k_ ≠ (.slice A108 y570.length c108 : Value).ownBlock ∧ some k_ ≠ (.slice A80 y561.length c80 : Value).ownBlock)) HO_541000.out (fun k_ hk => ⟨(by rw [HE108.out]; exact hk.1), hk.2⟩))
                            clear HO_541000
                            have HO_541000 := n_
                            clear n_
                            have n_ := Aside0.mk (Kd.Q_mono (ok' := fun k_ => (some k_ ≠ (.slice Ao11 t530.length co11 : Value).ownBlock ∧ some k_ ≠ (.slice A108 y570.length c108 : Value).ownBlock)) HO563.out (fun k_ hk => ⟨hk.1, (by rw [HE108.out]; exact hk.2)⟩))
                            clear HO563
                            have HO563 := n_
                            clear n_
                            go_wp2_with (((with_reducible refine gate_builtin (b := .append) (xs := #[.tmp 85, .tmp 87]) rfl ?_); at_builtin; refine Kd.Q_append Kd.string (w0 := w) w.heap.size rfl (.tmp 85) (.tmp 87) 38 9 (.string ⟨#[]⟩) 16 rfl Try.underlying38 info9 rfl (by decide) (by omega) (.slice A108 y570.length c108) y570 (rdOf ByteArray.empty y557 0) [.string (rdOf ByteArray.empty y557 0)] (fun k_ => some k_ ≠ (.slice Ao11 t530.length co11 : Value).ownBlock ∧ some k_ ≠ (.slice A80 y561.length c80 : Value).ownBlock) (fun _ => False) rfl rfl ?aP (fun _ hk => hk.elim) ?aF ?aO ?aB ?aS ?aL ?_; (case aP => exact rfl); (case aB => exact (by repeat ((with_reducible exact HB.out)))); (case aF => exact (fun k_ hk => ⟨Kd.fresh' (Kd.Q_lt (by (with_reducible repeat (first | apply Kd.Q_alloc | apply Kd.Q_drewN | apply Kd.Q_drew )); exact HO_541000.out)) k_ hk, Kd.fresh' (Kd.Q_lt (by (with_reducible repeat (first | apply Kd.Q_alloc | apply Kd.Q_drewN | apply Kd.Q_drew )); exact HO563.out)) k_ hk⟩)); (case aO => exact (by (with_reducible repeat (first | apply Kd.Q_alloc | apply Kd.Q_drewN | apply Kd.Q_drew )); exact HO572.out)); (case aS => exact (below_size (by repeat ((with_reducible exact HB.out))))); (case aL => have := LMc104.out; omega); intro v574 w109 ho hb hg hat; rw [← Ny573.out] at ho; have n0_ := Aside0.mk (Kd.Q_after (ok := (fun k_ => some k_ ≠ (.slice A80 y561.length c80 : Value).ownBlock)) (by (with_reducible repeat (first | apply Kd.Q_alloc | apply Kd.Q_drewN | apply Kd.Q_drew )); exact Kd.Q_mono HO_541000.out (fun _ hk => ⟨hk.2, hk.1⟩)) hg hat); have n1_ := Aside0.mk (Kd.S_over' (by (with_reducible repeat (first | apply Kd.S_alloc | apply Kd.S_drewN | apply Kd.S_drew )); exact HO_541002.out) (Kd.Q_typed (by (with_reducible repeat (first | apply Kd.Q_alloc | apply Kd.Q_drewN | apply Kd.Q_drew )); exact HO572.out)) (by decide) hg); have n2_ := Aside0.mk (blk_grown (g := gb528) (o := .cells #[.slice A0_0 l0_0.length c0_0, .slice A0_1 l0_1.length c0_1, .slice A0_2 l0_2.length c0_2, .int .i64 a0_3] 43 (0, 0)) (by (with_reducible repeat (first | refine blk_drewN ?_ _ | refine blk_drew ?_ | refine blk_alloc ?_ _ )); exact BK528.out) hg (Kd.Q_ne HO572.out BK528.out (by decide))); have n3_ := Aside0.mk (blk_grown (g := gb529) (o := .cells #[.slice none 0 0, .slice none 0 0, .slice none 0 0, .int .i64 0] 43 (0, 0)) (by (with_reducible repeat (first | refine blk_drewN ?_ _ | refine blk_drew ?_ | refine blk_alloc ?_ _ )); exact BK529.out) hg (Kd.Q_ne HO572.out BK529.out (by decide))); have n4_ := Aside0.mk (blk_grown (g := gb540) (o := .cells #[.slice A80 y561.length c80, .slice (some ad567) t533.length co15, .slice Ao41 t543.length co41, .int .i64 t546] 43 (0, 0)) (by (with_reducible repeat (first | refine blk_drewN ?_ _ | refine blk_drew ?_ | refine blk_alloc ?_ _ )); exact BK540.out) hg (Kd.Q_ne HO572.out BK540.out (by decide))); have n5_ := Aside0.mk (Kd.S_over' (by (with_reducible repeat (first | apply Kd.S_alloc | apply Kd.S_drewN | apply Kd.S_drew )); exact HO545.out) (Kd.Q_typed (by (with_reducible repeat (first | apply Kd.Q_alloc | apply Kd.Q_drewN | apply Kd.Q_drew )); exact HO572.out)) (by decide) hg); have n6_ := Aside0.mk (Kd.Q_after (ok := (fun k_ => some k_ ≠ (.slice Ao11 t530.length co11 : Value).ownBlock)) (by (with_reducible repeat (first | apply Kd.Q_alloc | apply Kd.Q_drewN | apply Kd.Q_drew )); exact HO563.out) hg hat); have n7_ := Aside0.mk (hb); have n8_ := Aside0.mk (ho); clear HO_541000; clear HO_541002; clear BK528; clear BK529; clear BK540; clear HO545; clear HO563; clear HB; clear HO572; have HO_541000 := n0_; have HO_541002 := n1_; have BK528 := n2_; have BK529 := n3_; have BK540 := n4_; have HO545 := n5_; have HO563 := n6_; have HB := n7_; have HO575 := n8_; clear n0_ n1_ n2_ n3_ n4_ n5_ n6_ n7_ n8_; clear ho hb hg hat; obtain ⟨Ao110, co110, eo110, _⟩ := Kd.Q_slice HO575.out; subst eo110; have hcz111_0 : w109.cell? ⟨gb540, 0, none⟩ = some (.slice A80 y561.length c80) := (blk_cell BK540.out 0).trans rfl; have hcz111_1 : w109.cell? ⟨gb540, 1, none⟩ = some (.slice (some ad567) t533.length co15) := (blk_cell BK540.out 1).trans rfl; have hcz111_2 : w109.cell? ⟨gb540, 2, none⟩ = some (.slice Ao41 t543.length co41) := (blk_cell BK540.out 2).trans rfl; have hcz111_3 : w109.cell? ⟨gb540, 3, none⟩ = some (.int .i64 t546) := (blk_cell BK540.out 3).trans rfl; have hfz111_0 := blk_frozen BK540.out 0; have hfz111_1 := blk_frozen BK540.out 1; have hfz111_2 := blk_frozen BK540.out 2; have hfz111_3 := blk_frozen BK540.out 3; have hnb112 := NB529_528.out; have hnc112 := NB528_529.out; have hcz113_0 : w109.cell? ⟨gb529, 0, none⟩ = some (.slice none 0 0) := (blk_cell BK529.out 0).trans rfl; have hcz113_1 : w109.cell? ⟨gb529, 1, none⟩ = some (.slice none 0 0) := (blk_cell BK529.out 1).trans rfl; have hcz113_2 : w109.cell? ⟨gb529, 2, none⟩ = some (.slice none 0 0) := (blk_cell BK529.out 2).trans rfl; have hcz113_3 : w109.cell? ⟨gb529, 3, none⟩ = some (.int .i64 0) := (blk_cell BK529.out 3).trans rfl; have hfz113_0 := blk_frozen BK529.out 0; have hfz113_1 := blk_frozen BK529.out 1; have hfz113_2 := blk_frozen BK529.out 2; have hfz113_3 := blk_frozen BK529.out 3))
                            refine bodyPost_ret (results_ct rfl _ _ gb529 43 #[.slice A80 y561.length c80, .slice Ao110 y573.length co110, .slice Ao41 t543.length co41, .int .i64 t546] (0, 0) _ rfl (by (with_reducible repeat (first | refine blk_drewN ?_ _ | refine blk_drew ?_ | refine blk_alloc ?_ _ )); refine blk_put (cs := #[.slice A80 y561.length c80, .slice Ao110 y573.length co110, .slice Ao41 t543.length co41, .int .i64 0]) ?_ 3 _ rfl; (with_reducible repeat (first | refine blk_drewN ?_ _ | refine blk_drew ?_ | refine blk_alloc ?_ _ )); refine blk_put (cs := #[.slice A80 y561.length c80, .slice Ao110 y573.length co110, .slice none 0 0, .int .i64 0]) ?_ 2 _ rfl; (with_reducible repeat (first | refine blk_drewN ?_ _ | refine blk_drew ?_ | refine blk_alloc ?_ _ )); refine blk_put (cs := #[.slice A80 y561.length c80, .slice none 0 0, .slice none 0 0, .int .i64 0]) ?_ 1 _ rfl; (with_reducible repeat (first | refine blk_drewN ?_ _ | refine blk_drew ?_ | refine blk_alloc ?_ _ )); refine blk_put (cs := #[.slice none 0 0, .slice none 0 0, .slice none 0 0, .int .i64 0]) ?_ 0 _ rfl; (with_reducible repeat (first | refine blk_drewN ?_ _ | refine blk_drew ?_ | refine blk_alloc ?_ _ )); refine blk_far ?_ NB529_540.out _; (with_reducible repeat (first | refine blk_drewN ?_ _ | refine blk_drew ?_ | refine blk_alloc ?_ _ )); exact BK529.out) Try.underlying43 rfl (by kernel_rfl)) rfl ?_
                            exact ⟨_, _, _, by rfl, by (with_reducible repeat (first | apply Kd.Q_alloc | apply Kd.Q_drewN | apply Kd.Q_drew )); exact Kd.Q_mono (Kd.Q_far (p := ⟨gb529, 3, none⟩) (Kd.Q_far (p := ⟨gb529, 2, none⟩) (Kd.Q_far (p := ⟨gb529, 1, none⟩) (Kd.Q_far (p := ⟨gb529, 0, none⟩) (Kd.Q_far (p := ⟨gb540, 1, none⟩) (Kd.Q_types (Kd.Q_types HO563.out BK540.out (by decide)) BK529.out (by decide)) (fun _ hk => hk.1.2) (.slice Ao110 y573.length co110)) (fun _ hk => hk.2) (.slice A80 y561.length c80)) (fun _ hk => hk.2) (.slice Ao110 y573.length co110)) (fun _ hk => hk.2) (.slice Ao41 t543.length co41)) (fun _ hk => hk.2) (.int .i64 t546)) (fun _ hk => hk.1.1.2), by (with_reducible repeat (first | apply Kd.Q_alloc | apply Kd.Q_drewN | apply Kd.Q_drew )); exact Kd.Q_mono (Kd.Q_far (p := ⟨gb529, 3, none⟩) (Kd.Q_far (p := ⟨gb529, 2, none⟩) (Kd.Q_far (p := ⟨gb529, 1, none⟩) (Kd.Q_far (p := ⟨gb529, 0, none⟩) (Kd.Q_far (p := ⟨gb540, 1, none⟩) (Kd.Q_types (Kd.Q_types HO575.out BK540.out (by decide)) BK529.out (by decide)) (fun _ hk => hk.1.2) (.slice Ao110 y573.length co110)) (fun _ hk => hk.2) (.slice A80 y561.length c80)) (fun _ hk => hk.2) (.slice Ao110 y573.length co110)) (fun _ hk => hk.2) (.slice Ao41 t543.length co41)) (fun _ hk => hk.2) (.int .i64 t546)) (fun _ hk => hk.1.1.2), by (with_reducible repeat (first | apply Kd.S_alloc | apply Kd.S_drewN | apply Kd.S_drew )); exact Kd.S_mono (Kd.S_far (p := ⟨gb529, 3, none⟩) (Kd.S_far (p := ⟨gb529, 2, none⟩) (Kd.S_far (p := ⟨gb529, 1, none⟩) (Kd.S_far (p := ⟨gb529, 0, none⟩) (Kd.S_far (p := ⟨gb540, 1, none⟩) (Kd.S_types (Kd.S_types HO545.out BK540.out (by decide)) BK529.out (by decide)) (fun _ hk => hk.1.2) (.slice Ao110 y573.length co110)) (fun _ hk => hk.2) (.slice A80 y561.length c80)) (fun _ hk => hk.2) (.slice Ao110 y573.length co110)) (fun _ hk => hk.2) (.slice Ao41 t543.length co41)) (fun _ hk => hk.2) (.int .i64 t546)) (fun _ hk => trivial), by repeat ((with_reducible first | exact HB.out | refine below_set ?_ GE529.out | refine below_set ?_ GE540.out))⟩
                          · rw [if_neg c104] at H
                            exact absurd H (by simp)
                        · rw [if_neg c103] at H
                          exact absurd H (by simp)
                      · rw [if_neg c102] at H
                        have c102b0 : decide (t569 < t568) = false := decide_eq_false c102
                        clear c102
                        (rw [c102b0])
                        simp only [Option.some.injEq, Prod.mk.injEq] at H
                        obtain ⟨rfl, rfl, rfl, rfl, rfl⟩ := H
                        have hnb114 := NB540_528.out
                        have hnc114 := NB528_540.out
                        have hnb115 := NB540_529.out
                        have hnc115 := NB529_540.out
                        have hcz116_0 : w101.cell? ⟨gb540, 0, none⟩ = some (.slice A80 y561.length c80) := (blk_cell BK540.out 0).trans rfl
                        have hcz116_1 : w101.cell? ⟨gb540, 1, none⟩ = some (.slice (some ad567) t533.length co15) := (blk_cell BK540.out 1).trans rfl
                        have hcz116_2 : w101.cell? ⟨gb540, 2, none⟩ = some (.slice Ao41 t543.length co41) := (blk_cell BK540.out 2).trans rfl
                        have hcz116_3 : w101.cell? ⟨gb540, 3, none⟩ = some (.int .i64 t546) := (blk_cell BK540.out 3).trans rfl
                        have hfz116_0 := blk_frozen BK540.out 0
                        have hfz116_1 := blk_frozen BK540.out 1
                        have hfz116_2 := blk_frozen BK540.out 2
                        have hfz116_3 := blk_frozen BK540.out 3
                        have hnb117 := NB529_528.out
                        have hnc117 := NB528_529.out
                        have hcz118_0 : w101.cell? ⟨gb529, 0, none⟩ = some (.slice none 0 0) := (blk_cell BK529.out 0).trans rfl
                        have hcz118_1 : w101.cell? ⟨gb529, 1, none⟩ = some (.slice none 0 0) := (blk_cell BK529.out 1).trans rfl
                        have hcz118_2 : w101.cell? ⟨gb529, 2, none⟩ = some (.slice none 0 0) := (blk_cell BK529.out 2).trans rfl
                        have hcz118_3 : w101.cell? ⟨gb529, 3, none⟩ = some (.int .i64 0) := (blk_cell BK529.out 3).trans rfl
                        have hfz118_0 := blk_frozen BK529.out 0
                        have hfz118_1 := blk_frozen BK529.out 1
                        have hfz118_2 := blk_frozen BK529.out 2
                        have hfz118_3 := blk_frozen BK529.out 3
                        go_wp2
                        refine bodyPost_ret (results_ct rfl _ _ gb529 43 #[.slice A80 y561.length c80, .slice (some ad567) t533.length co15, .slice Ao41 t543.length co41, .int .i64 t546] (0, 0) _ rfl (by (with_reducible repeat (first | refine blk_drewN ?_ _ | refine blk_drew ?_ | refine blk_alloc ?_ _ )); refine blk_put (cs := #[.slice A80 y561.length c80, .slice (some ad567) t533.length co15, .slice Ao41 t543.length co41, .int .i64 0]) ?_ 3 _ rfl; (with_reducible repeat (first | refine blk_drewN ?_ _ | refine blk_drew ?_ | refine blk_alloc ?_ _ )); refine blk_put (cs := #[.slice A80 y561.length c80, .slice (some ad567) t533.length co15, .slice none 0 0, .int .i64 0]) ?_ 2 _ rfl; (with_reducible repeat (first | refine blk_drewN ?_ _ | refine blk_drew ?_ | refine blk_alloc ?_ _ )); refine blk_put (cs := #[.slice A80 y561.length c80, .slice none 0 0, .slice none 0 0, .int .i64 0]) ?_ 1 _ rfl; (with_reducible repeat (first | refine blk_drewN ?_ _ | refine blk_drew ?_ | refine blk_alloc ?_ _ )); refine blk_put (cs := #[.slice none 0 0, .slice none 0 0, .slice none 0 0, .int .i64 0]) ?_ 0 _ rfl; (with_reducible repeat (first | refine blk_drewN ?_ _ | refine blk_drew ?_ | refine blk_alloc ?_ _ )); exact BK529.out) Try.underlying43 rfl (by kernel_rfl)) rfl ?_
                        exact ⟨_, _, _, by rfl, by (with_reducible repeat (first | apply Kd.Q_alloc | apply Kd.Q_drewN | apply Kd.Q_drew )); exact Kd.Q_mono (Kd.Q_far (p := ⟨gb529, 3, none⟩) (Kd.Q_far (p := ⟨gb529, 2, none⟩) (Kd.Q_far (p := ⟨gb529, 1, none⟩) (Kd.Q_far (p := ⟨gb529, 0, none⟩) (Kd.Q_types HO563.out BK529.out (by decide)) (fun _ hk => hk.2) (.slice A80 y561.length c80)) (fun _ hk => hk.2) (.slice (some ad567) t533.length co15)) (fun _ hk => hk.2) (.slice Ao41 t543.length co41)) (fun _ hk => hk.2) (.int .i64 t546)) (fun _ hk => hk.1.2), Kd.Q_of_R (by (with_reducible repeat (first | apply Kd.R_alloc | apply Kd.R_drewN | apply Kd.R_drew )); exact Kd.R_mono (Kd.R_far (p := ⟨gb529, 3, none⟩) (Kd.R_far (p := ⟨gb529, 2, none⟩) (Kd.R_far (p := ⟨gb529, 1, none⟩) (Kd.R_far (p := ⟨gb529, 0, none⟩) (Kd.R_types HO_541001.out BK529.out (by decide)) (fun _ hk => hk.2) (.slice A80 y561.length c80)) (fun _ hk => hk.2) (.slice (some ad567) t533.length co15)) (fun _ hk => hk.2) (.slice Ao41 t543.length co41)) (fun _ hk => hk.2) (.int .i64 t546)) (fun _ hk => hk.1.2)), by (with_reducible repeat (first | apply Kd.S_alloc | apply Kd.S_drewN | apply Kd.S_drew )); exact Kd.S_mono (Kd.S_far (p := ⟨gb529, 3, none⟩) (Kd.S_far (p := ⟨gb529, 2, none⟩) (Kd.S_far (p := ⟨gb529, 1, none⟩) (Kd.S_far (p := ⟨gb529, 0, none⟩) (Kd.S_types HO545.out BK529.out (by decide)) (fun _ hk => hk.2) (.slice A80 y561.length c80)) (fun _ hk => hk.2) (.slice (some ad567) t533.length co15)) (fun _ hk => hk.2) (.slice Ao41 t543.length co41)) (fun _ hk => hk.2) (.int .i64 t546)) (fun _ hk => trivial), by repeat ((with_reducible first | exact HB.out | refine below_set ?_ GE529.out))⟩
                    · rw [if_neg c91] at H
                      exact absurd H (by simp)
                · rw [if_neg c75] at H
                  exact absurd H (by simp)
              · rw [if_neg c74] at H
                exact absurd H (by simp)
          · rw [if_neg c58] at H
            exact absurd H (by simp)
def spec_DrawPlaces.l0 : Nat → List Int → Int → List Int → Int → Int → Option (List Int)
  | 0, _, _, _, _, _ => none
  | k + 1, x4, x5, x580000, x580001, x580002 => if x5 < 12 then ((spec_l01Below.f x580000 x580001 x580002 10000).bind fun bt586 => (if x4.length < 17592186044416 then (spec_DrawPlaces.l0 k (x4 ++ [bt586.1]) (wrap64 (x5 + 1)) x580000 bt586.2.1 bt586.2.2) else (none))) else (some x4)
def spec_DrawPlaces.f (k : Nat) (l0 : List Int) : Option (List Int) := (spec_l01New.f k l0).bind fun bt576 => ((spec_l01Byte.f bt576.1 bt576.2.1 bt576.2.2).bind fun bt580 => (spec_DrawPlaces.l0 k (([] : List Int)) 0 bt576.1 bt580.2.1 bt580.2.2))
set_option maxHeartbeats 8000000 in
set_option maxRecDepth 100000 in
theorem spec_DrawPlaces.calls (k : Nat) (A0 : Option Addr) (c0 : Nat) (l0 : List Int) (r : List Int) (w : World) (hr0 : Kd.C (Kd.int .u8) w A0 l0.length l0) (hc0 : l0.length ≤ c0) (h : spec_DrawPlaces.f k l0 = some r) :
    Calls Try.prog 46 #[.slice A0 l0.length c0] w fun e w' => ∃ v0_ : Value, e = .returned (v0_) ∧ Kd.R (Kd.int .i64) 3 w' w.heap.size (fun _ => True) v0_ r ∧ Below w.heap.size w w' := by
  have HR0 := Aside0.mk hr0
  have HC0 := Aside0.mk hc0
  clear hr0 hc0
  have HB := Aside0.mk (Below.refl w.heap.size w)
  have H : ((spec_l01New.f k l0).bind fun bt576 => ((spec_l01Byte.f bt576.1 bt576.2.1 bt576.2.2).bind fun bt580 => (spec_DrawPlaces.l0 k (([] : List Int)) 0 bt576.1 bt580.2.1 bt580.2.2))) = some r := h
  clear h
  replace H := Option.bind_eq_some_iff.mp H
  obtain ⟨⟨t576, t577, t578⟩, A20, H⟩ := H
  replace H : ((spec_l01Byte.f t576 t577 t578).bind fun bt580 => (spec_DrawPlaces.l0 k (([] : List Int)) 0 t576 bt580.2.1 bt580.2.2)) = some r := H
  have A2 := Aside0.mk A20
  clear A20
  replace H := Option.bind_eq_some_iff.mp H
  obtain ⟨⟨t580, t581, t582⟩, A30, H⟩ := H
  replace H : (spec_DrawPlaces.l0 k (([] : List Int)) 0 t576 t581 t582) = some r := H
  have A3 := Aside0.mk A30
  clear A30
  obtain ⟨y583, hy583⟩ : ∃ y_ : List Int, y_ = (([] : List Int)) := ⟨_, rfl⟩
  replace H : (spec_DrawPlaces.l0 k y583 0 t576 t581 t582) = some r := by (rw [hy583]; with_reducible exact H)
  have Ny583 := Aside0.mk hy583
  clear hy583
  have H' := Aside0.mk H
  clear H
  go_enter Try.func46, Try.ntmps46
  go_wp2_with (first | ((with_reducible refine gate_callee (f := 68) rfl ?_); refine goesL_ (some 7) rfl rfl Try.func68 (by kernel_rfl) rfl #[.slice A0 l0.length c0] rfl (by (try simp only [List.map_toArray, List.map_cons, List.map_nil]); rfl) ?_; (with_reducible refine (spec_l01New.calls k _ _ l0 t576 t577 t578 w _ ?side1 ?side2 ?side3 A2.out).mono ?_); (case side1 => repeat ((with_reducible exact HB.out))); (case side2 => exact HR0.out); (case side3 => exact HC0.out); rintro e w4 ⟨g579, rfl, hi, hb, hb2⟩; refine ⟨_, rfl, ?_⟩; have n0_ := Aside0.mk (hb); have n1_ := Aside0.mk (hi); clear HB; have HB := n0_; have HI579 := n1_; clear n0_ n1_; (try clear hb); (try clear hb2); (try clear hk); (try clear hi)) | ((with_reducible refine gate_callee (f := 85) rfl ?_); refine goesL_ (some 9) rfl rfl Try.func85 (by kernel_rfl) rfl #[.pointer (some ⟨g579, 0, none⟩)] rfl (by (try simp only [List.map_toArray, List.map_cons, List.map_nil]); rfl) ?_; (with_reducible refine (spec_l01Byte.calls g579 t576 t577 t578 t580 t581 t582 w _ ?side1 ?side2 A3.out).mono ?_); (case side1 => repeat ((with_reducible exact HI579.out))); (case side2 => repeat ((with_reducible exact HB.out))); rintro e w5 ⟨rfl, hi, hb, hk⟩; refine ⟨_, rfl, ?_⟩; have n0_ := Aside0.mk (hb); have n1_ := Aside0.mk (hi); clear HB; clear HI579; have HB := n0_; have HI579 := n1_; clear n0_ n1_; (try clear hb); (try clear hb2); (try clear hk); (try clear hi)) | ((with_reducible refine gate_dst (N := 10) rfl ?_); refine Kd.R_lit (Kd.int .i64) _ 3 ?hg (N := 10) ?hd (xs := ([] : List Int)) (inner := []) (ok := fun _ => True) (okp := fun _ => True) ?hr ?hp (fun _ hk => hk) trivial (Below.refl _ _) (Nat.le_refl _) (by simp) ?_; (case hd => rfl); (case hg => rfl); (case hr => (go_simp; done)); (case hp => exact (Reps.none _ _)); intro v584 w6 ho7 hb hg_ hnew_; clear hg_ hnew_; (rw [← Ny583.out] at ho7); have n0_ := Aside0.mk (Kd.R_lower ho7 (below_size (by repeat ((with_reducible exact HB.out))))); have n1_ := Aside0.mk (IsS101.below (by repeat ((with_reducible exact HI579.out))) hb); have n2_ := Aside0.mk (below_step (by repeat ((with_reducible exact HB.out))) hb); clear HI579; clear HB; have HO585 := n0_; have HI579 := n1_; have HB := n2_; clear n0_ n1_ n2_; clear hb ho7))
  go_loopg [4, 5] k (fun kq v4 v5 w' => ∃ (x4_1 : List Int) (x5_1 : Int) (x580001_1 : Int) (x580002_1 : Int), v5 = .int .i64 x5_1 ∧ Aside0 (spec_DrawPlaces.l0 kq x4_1 x5_1 t576 x580001_1 x580002_1 = some r) ∧ Aside0 (kq ≤ k) ∧ Aside0 (Kd.R (Kd.int .i64) 3 w' w.heap.size (fun _ => True) v4 x4_1) ∧ Aside0 (IsS101 w w' g579 t576 x580001_1 x580002_1) ∧ Aside0 (Below w.heap.size w w'))
  case atStart => exact ⟨(y583), (0), (t581), (t582), (by rfl), H', ⟨Nat.le_refl _⟩, ⟨by (with_reducible repeat (first | apply Kd.R_alloc | apply Kd.R_drewN | apply Kd.R_drew )); exact HO585.out⟩, ⟨by repeat ((with_reducible exact HI579.out))⟩, ⟨by repeat ((with_reducible exact HB.out))⟩⟩
  case round =>
    clear H'
    obtain ⟨x4_1, x5_1, x580001_1, x580002_1, rfl, HA, HK1, HO_4, HI579, HB⟩ := hrel
    cases gk with
    | zero => exact absurd HA.out (by simp [spec_DrawPlaces.l0])
    | succ k1 =>
      have H := HA.out
      clear HA
      simp only [spec_DrawPlaces.l0] at H
      by_cases c8 : x5_1 < 12
      · rw [if_pos c8] at H
        have c8b0 : decide (x5_1 < 12) = true := decide_eq_true c8
        clear c8
        replace H := Option.bind_eq_some_iff.mp H
        obtain ⟨⟨t586, t587, t588⟩, A90, H⟩ := H
        replace H : (if x4_1.length < 17592186044416 then (spec_DrawPlaces.l0 k1 (x4_1 ++ [t586]) (wrap64 (x5_1 + 1)) t576 t587 t588) else (none)) = some r := H
        have A9 := Aside0.mk A90
        clear A90
        by_cases c10 : x4_1.length < 17592186044416
        · rw [if_pos c10] at H
          have LMc10 := Aside0.mk c10
          clear c10
          obtain ⟨y589, hy589⟩ : ∃ y_ : List Int, y_ = (x4_1 ++ [t586]) := ⟨_, rfl⟩
          replace H : (spec_DrawPlaces.l0 k1 y589 (wrap64 (x5_1 + 1)) t576 t587 t588) = some r := by (rw [hy589]; with_reducible exact H)
          have Ny589 := Aside0.mk hy589
          clear hy589
          have H' := Aside0.mk H
          clear H
          go_wp2_with (first | ((with_reducible refine gate_callee (f := 69) rfl ?_); refine goesL_ (some 17) rfl rfl Try.func69 (by kernel_rfl) rfl #[.pointer (some ⟨g579, 0, none⟩), .int .i64 10000] rfl (by (try simp only [List.map_toArray, List.map_cons, List.map_nil]); rfl) ?_; (with_reducible refine (spec_l01Below.calls g579 t576 x580001_1 x580002_1 10000 t586 t587 t588 w _ ?side1 ?side2 A9.out).mono ?_); (case side1 => repeat ((with_reducible exact HI579.out))); (case side2 => repeat ((with_reducible exact HB.out))); rintro e w11 ⟨rfl, hi, hb, hk⟩; refine ⟨_, rfl, ?_⟩; have n0_ := Aside0.mk (Kd.R_mono (Kd.R_keep (IsS101.apart (show IsS101 w _ g579 t576 x580001_1 x580002_1 from by repeat ((with_reducible exact HI579.out))) (by (with_reducible repeat (first | apply Kd.R_alloc | apply Kd.R_drewN | apply Kd.R_drew )); exact HO_4.out) (by decide)) hk (fun _ h => h.2)) (fun _ h => h.1)); have n1_ := Aside0.mk (hb); have n2_ := Aside0.mk (hi); clear HO_4; clear HB; clear HI579; have HO_4 := n0_; have HB := n1_; have HI579 := n2_; clear n0_ n1_ n2_; (try clear hb); (try clear hb2); (try clear hk); (try clear hi)) | ((with_reducible refine gate_builtin (b := .append) (xs := #[.tmp 15, .tmp 18]) rfl ?_); at_builtin; refine Kd.R_append (Kd.int .i64) (w0 := w) w.heap.size rfl (.tmp 15) (.tmp 18) 58 3 (.int .i64 0) 8 rfl Try.underlying58 info3 rfl (by decide) (by omega) u4 x4_1 t586 [.int .i64 t586] (fun _ => True) (fun _ => False) rfl rfl ?aP (fun _ hk => hk.elim) ?aF ?aO ?aB ?aS ?aL ?_; (case aP => exact rfl); (case aB => exact (by repeat ((with_reducible exact HB.out)))); (case aF => exact (fun _ _ => trivial)); (case aO => exact (by (with_reducible repeat (first | apply Kd.R_alloc | apply Kd.R_drewN | apply Kd.R_drew )); exact HO_4.out)); (case aS => exact (below_size (by repeat ((with_reducible exact HB.out))))); (case aL => have := LMc10.out; omega); intro v590 w12 ho hb hg hat; rw [← Ny589.out] at ho; have n0_ := Aside0.mk (IsS101.grown (w0 := w) (g := g579) (f0 := t576) (f1 := t587) (f2 := t588) (by repeat ((with_reducible exact HI579.out))) hg (IsS101.own_ne HI579.out HO_4.out (by decide))); have n1_ := Aside0.mk (hb); have n2_ := Aside0.mk (ho); clear HI579; clear HB; clear HO_4; have HI579 := n0_; have HB := n1_; have HO591 := n2_; clear n0_ n1_ n2_; clear ho hb hg hat))
          go_roundg k1
          case measure => have := HK1.out; omega
          case rel => exact ⟨(y589), (wrap64 (x5_1 + 1)), (t587), (t588), (by rfl), H', ⟨by have := HK1.out; omega⟩, ⟨by (with_reducible repeat (first | apply Kd.R_alloc | apply Kd.R_drewN | apply Kd.R_drew )); exact HO591.out⟩, ⟨by repeat ((with_reducible exact HI579.out))⟩, ⟨by repeat ((with_reducible exact HB.out))⟩⟩
        · rw [if_neg c10] at H
          exact absurd H (by simp)
      · rw [if_neg c8] at H
        have c8b0 : decide (x5_1 < 12) = false := decide_eq_false c8
        clear c8
        obtain rfl := Option.some.inj H
        go_wp2
        go_ret
        exact ⟨_, by rfl, by (with_reducible repeat (first | apply Kd.R_alloc | apply Kd.R_drewN | apply Kd.R_drew )); exact HO_4.out, by repeat ((with_reducible exact HB.out))⟩
def spec_l01Figure.f (a0 : Int) : Option (Int) := if a0 < 10 then (some ((wrap64 (48 + a0)) % 256)) else (some ((wrap64 ((wrap64 (97 + a0)) - 10)) % 256))
set_option maxHeartbeats 8000000 in
set_option maxRecDepth 100000 in
theorem spec_l01Figure.calls (a0 : Int) (r : Int) (w : World) (h : spec_l01Figure.f a0 = some r) :
    Calls Try.prog 86 #[.int .i64 a0] w fun e w' => e = .returned (.int .u8 r) ∧ w = w' := by
  have H : (if a0 < 10 then (some ((wrap64 (48 + a0)) % 256)) else (some ((wrap64 ((wrap64 (97 + a0)) - 10)) % 256))) = some r := h
  clear h
  by_cases c2 : a0 < 10
  · rw [if_pos c2] at H
    have c2b0 : decide (a0 < 10) = true := decide_eq_true c2
    clear c2
    obtain rfl := Option.some.inj H
    go_enter Try.func86, Try.ntmps86
    go_wp2
    go_ret
    exact ⟨by rfl, rfl⟩
  · rw [if_neg c2] at H
    have c2b0 : decide (a0 < 10) = false := decide_eq_false c2
    clear c2
    obtain rfl := Option.some.inj H
    go_enter Try.func86, Try.ntmps86
    go_wp2
    go_ret
    exact ⟨by rfl, rfl⟩
end Go.Proofs.Ytoopdknphikgkaa.Q
