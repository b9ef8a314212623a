import Derived.Test.YtoopdknphikgkaaB0
import Derived.Test.YtoopdknphikgkaaG67
import Derived.Test.YtoopdknphikgkaaG101
import Derived.Test.YtoopdknphikgkaaWApart
import Derived.Test.YtoopdknphikgkaaWFoot
import Derived.Test.YtoopdknphikgkaaWKept
import Derived.Test.YtoopdknphikgkaaWLast
import Derived.Test.YtoopdknphikgkaaWMore
import Derived.Test.YtoopdknphikgkaaWN
import Derived.Test.YtoopdknphikgkaaWRepsOne
import Derived.Test.YtoopdknphikgkaaWShare
import Derived.Test.YtoopdknphikgkaaWWords
namespace Go.Proofs.Ytoopdknphikgkaa.Q
open Go.RowKit Go.Proofs.YtoopdknphikgkaaW.PrintWords Go.Proofs.YtoopdknphikgkaaW.PrintLast Go.Proofs.YtoopdknphikgkaaW.PrintMore
attribute [local go_sem] max2_int min2_int max_two min_two max_three min_three max_four min_four   -- for this text's walks alone
set_option linter.unusedVariables false
set_option linter.unusedSimpArgs false

/-! ### impl_SketchGuess: function 31 -/
def impl_SketchGuess.l0 : Nat → ByteArray → Int → List (List Int) → Int → Int → Option (Int)
  | 0, _, _, _, _, _ => none
  | k + 1, x1, x5, x12, x13, x14 => if x14 < x13 then (if 0 ≤ x14 then (if x14 < (x12.length : Int) then ((impl_SketchPlace.f k x14 x1).bind fun t260 => (if 0 ≤ t260 then (if t260 < ((rd_L2 x12 x14).length : Int) then (impl_SketchGuess.l0 k x1 (mn x5 (rd (rd_L2 x12 x14) t260)) x12 x13 (wrap64 (x14 + 1))) else (none)) else (none))) else (none)) else (none)) else (some x5)
def impl_SketchGuess.f (k : Nat) (l0_0 : List (List Int)) (a0_1 : Int) (a1 : ByteArray) : Option (Int) := (impl_SketchOk.f k l0_0 a0_1).bind fun t258 => (if t258 = true then (impl_SketchGuess.l0 k a1 15 l0_0 (l0_0.length : Int) 0) else (some 0))
theorem impl_SketchGuess.mono_l : ∀ k, (∀ y0 y1 y2 y3 y4, LeO (impl_SketchGuess.l0 k y0 y1 y2 y3 y4) (impl_SketchGuess.l0 (k + 1) y0 y1 y2 y3 y4))
  | 0 => fun _ _ _ _ _ r h => by simp [impl_SketchGuess.l0] at h
  | k + 1 => by
    have ih0 := impl_SketchGuess.mono_l k
    · intro y0 y1 y2 y3 y4
      unfold impl_SketchGuess.l0
      repeat' first | (with_reducible exact ih0 _ _ _ _ _) | (with_reducible exact impl_SketchPlace.mono _ _ _) | (with_reducible exact LeO.refl _) | (with_reducible refine LeO.ite ?_ ?_) | (with_reducible refine LeO.bind ?_ (fun _ => ?_))
theorem impl_SketchGuess.mono : ∀ a0 a1 a2 k, LeO (impl_SketchGuess.f k a0 a1 a2) (impl_SketchGuess.f (k + 1) a0 a1 a2) := by
  intro a0 a1 a2 k
  have ih0 := impl_SketchGuess.mono_l k
  unfold impl_SketchGuess.f
  repeat' first | (with_reducible exact ih0 _ _ _ _ _) | (with_reducible exact impl_SketchOk.mono _ _ _) | (with_reducible exact LeO.refl _) | (with_reducible refine LeO.ite ?_ ?_) | (with_reducible refine LeO.bind ?_ (fun _ => ?_))
set_option maxHeartbeats 8000000 in
set_option maxRecDepth 100000 in
theorem impl_SketchGuess.calls (k : Nat) (A0_0 : Option Addr) (c0_0 : Nat) (l0_0 : List (List Int)) (a0_1 : Int) (a1 : ByteArray) (r : Int) (w : World) (hr0_0 : Kd.C (Kd.slice 3 (Kd.int .i64)) w A0_0 l0_0.length l0_0) (hc0_0 : l0_0.length ≤ c0_0) (h : impl_SketchGuess.f k l0_0 a0_1 a1 = some r) :
    Calls Try.prog 31 #[.agg #[.slice A0_0 l0_0.length c0_0, .int .i64 a0_1], .string a1] w fun e w' => e = .returned (.int .i64 r) ∧ Below w.heap.size w w' := by
  have hu26 := Try.underlying26
  have HR0_0 := Aside0.mk hr0_0
  have HC0_0 := Aside0.mk hc0_0
  clear hr0_0 hc0_0
  have HB := Aside0.mk (Below.refl w.heap.size w)
  have H : ((impl_SketchOk.f k l0_0 a0_1).bind fun t258 => (if t258 = true then (impl_SketchGuess.l0 k a1 15 l0_0 (l0_0.length : Int) 0) else (some 0))) = some r := h
  clear h
  replace H := Option.bind_eq_some_iff.mp H
  obtain ⟨t258, A30, H⟩ := H
  replace H : (if t258 = true then (impl_SketchGuess.l0 k a1 15 l0_0 (l0_0.length : Int) 0) else (some 0)) = some r := H
  have A3 := Aside0.mk A30
  clear A30
  have HS4 := Aside0.mk H
  clear H
  go_enter Try.func31, Try.ntmps31
  go_upto_if 10 with (first | ((with_reducible refine gate_dst (N := 2) rfl ?_); refine box_event ?hg (N := 2) ?hd (cs := #[.slice A0_0 l0_0.length c0_0, .int .i64 a0_1]) (t := 26) ?hr ?_; (case hd => rfl); (case hg => rfl); (case hr => (go_simp; done)); intro gb257 hg w5 hbox hb; have n0_ := Aside0.mk (below_step (by repeat ((with_reducible exact HB.out))) hb); have n1_ := Aside0.mk (hbox); have n2_ := Aside0.mk ((by rw [hg]; exact (below_size (by repeat ((with_reducible exact HB.out)))) : w.heap.size ≤ gb257)); have n3_ := Aside0.mk ((by rw [hg]; exact (below_size (by repeat ((with_reducible exact HB.out)))) : w.heap.size ≤ gb257)); clear HB; have HB := n0_; have BK257 := n1_; have GW257 := n2_; have GE257 := n3_; clear n0_ n1_ n2_ n3_; clear hb hbox hg; have hcz6_0 : w5.cell? ⟨gb257, 0, none⟩ = some (.slice A0_0 l0_0.length c0_0) := (blk_cell BK257.out 0).trans rfl; have hcz6_1 : w5.cell? ⟨gb257, 1, none⟩ = some (.int .i64 a0_1) := (blk_cell BK257.out 1).trans rfl; have hfz6_0 := blk_frozen BK257.out 0; have hfz6_1 := blk_frozen BK257.out 1) | ((with_reducible refine gate_callee (f := 27) rfl ?_); refine goesL_ (some 9) rfl rfl Try.func27 (by kernel_rfl) rfl #[.agg #[.slice A0_0 l0_0.length c0_0, .int .i64 a0_1]] rfl (by (try simp only [List.map_toArray, List.map_cons, List.map_nil]); rfl) ?_; (with_reducible refine (impl_SketchOk.calls k _ _ l0_0 a0_1 t258 _ ?side1 ?side2 A3.out).mono ?_); (case side1 => repeat (exact (Kd.C_below HR0_0.out HB.out))); (case side2 => exact HC0_0.out); rintro e w7 ⟨rfl, hb⟩; refine ⟨_, rfl, ?_⟩; have n0_ := Aside0.mk (blk_below (g := gb257) (o := .cells #[.slice A0_0 l0_0.length c0_0, .int .i64 a0_1] 26 (0, 0)) (by (with_reducible repeat (first | refine blk_drewN ?_ _ | refine blk_drew ?_ | refine blk_alloc ?_ _ )); exact BK257.out) hb); have n1_ := Aside0.mk (below_step (by repeat ((with_reducible exact HB.out))) hb); clear BK257; clear HB; have BK257 := n0_; have HB := n1_; clear n0_ n1_; (try clear hb); (try clear hb2); (try clear hk); (try clear hi)))
  (try simp only [Act.put, List.setIfInBounds_toArray, List.set_cons_zero, List.set_cons_succ])
  have H := HS4.out
  clear HS4
  by_cases c8 : t258 = true
  · subst c8
    have H1 : (impl_SketchGuess.l0 k a1 15 l0_0 (l0_0.length : Int) 0) = some r := by rw [if_pos rfl] at H; exact H
    clear H
    have H := H1
    clear H1
    have H' := Aside0.mk H
    clear H
    have hcz9_0 : w7.cell? ⟨gb257, 0, none⟩ = some (.slice A0_0 l0_0.length c0_0) := (blk_cell BK257.out 0).trans rfl
    have hcz9_1 : w7.cell? ⟨gb257, 1, none⟩ = some (.int .i64 a0_1) := (blk_cell BK257.out 1).trans rfl
    have hfz9_0 := blk_frozen BK257.out 0
    have hfz9_1 := blk_frozen BK257.out 1
    go_wp2
    go_loopg [5, 14] k (fun kq v5 v14 w' => ∃ (x5_1 : Int) (x14_1 : Int), v5 = .int .i64 x5_1 ∧ v14 = .int .i64 x14_1 ∧ Aside0 (impl_SketchGuess.l0 kq a1 x5_1 l0_0 (l0_0.length : Int) x14_1 = some r) ∧ Aside0 (kq ≤ k) ∧ Aside0 (w'.heap[gb257]? = some (.cells #[(.slice A0_0 l0_0.length c0_0), .int .i64 a0_1] 26 (0, 0))) ∧ Aside0 (Below w.heap.size w w'))
    case atStart => exact ⟨(15), (0), (by rfl), (by rfl), H', ⟨Nat.le_refl _⟩, ⟨by (with_reducible repeat (first | refine blk_drewN ?_ _ | refine blk_drew ?_ | refine blk_alloc ?_ _ )); exact BK257.out⟩, ⟨by repeat ((with_reducible exact HB.out))⟩⟩
    case round =>
      clear H'
      clear hcz6_0
      clear hcz6_1
      clear hcz9_0
      clear hcz9_1
      clear hfz6_0
      clear hfz6_1
      clear hfz9_0
      clear hfz9_1
      obtain ⟨x5_1, x14_1, rfl, rfl, HA, HK1, BK257, HB⟩ := hrel
      cases gk with
      | zero => exact absurd HA.out (by simp [impl_SketchGuess.l0])
      | succ k1 =>
        have H := HA.out
        clear HA
        simp only [impl_SketchGuess.l0] at H
        by_cases c10 : x14_1 < (l0_0.length : Int)
        · rw [if_pos c10] at H
          have c10b0 : decide (x14_1 < (l0_0.length : Int)) = true := decide_eq_true c10
          clear c10
          (skip)
          by_cases c11 : 0 ≤ x14_1
          · rw [if_pos c11] at H
            have c11b0 : decide (0 ≤ x14_1) = true := decide_eq_true c11
            clear c11
            by_cases c12 : x14_1 < (l0_0.length : Int)
            · rw [if_pos c12] at H
              have c12b0 : decide (x14_1 < (l0_0.length : Int)) = true := decide_eq_true c12
              clear c12
              replace H := Option.bind_eq_some_iff.mp H
              obtain ⟨t260, A130, H⟩ := H
              replace H : (if 0 ≤ t260 then (if t260 < ((rd_L2 l0_0 x14_1).length : Int) then (impl_SketchGuess.l0 k1 a1 (mn x5_1 (rd (rd_L2 l0_0 x14_1) t260)) l0_0 (l0_0.length : Int) (wrap64 (x14_1 + 1))) else (none)) else (none)) = some r := H
              have A13 := Aside0.mk A130
              clear A130
              by_cases c14 : 0 ≤ t260
              · rw [if_pos c14] at H
                have c14b0 : decide (0 ≤ t260) = true := decide_eq_true c14
                clear c14
                by_cases c15 : t260 < ((rd_L2 l0_0 x14_1).length : Int)
                · rw [if_pos c15] at H
                  have c15b0 : decide (t260 < ((rd_L2 l0_0 x14_1).length : Int)) = true := decide_eq_true c15
                  clear c15
                  obtain ⟨ji16, hji16⟩ : ∃ j_ : Int, (mn x5_1 (rd (rd_L2 l0_0 x14_1) t260)) = j_ := ⟨_, rfl⟩
                  replace H : (impl_SketchGuess.l0 k1 a1 ji16 l0_0 (l0_0.length : Int) (wrap64 (x14_1 + 1))) = some r := by (rw [hji16] at H; exact H)
                  (try rw [hji16] at A13)
                  have hji16_ : (if (rd (rd_L2 l0_0 x14_1) t260) < x5_1 then (rd (rd_L2 l0_0 x14_1) t260) else x5_1) = ji16 := hji16
                  have H' := Aside0.mk H
                  clear H
                  have p259 : 0 ≤ (x14_1 : Int) := of_decide_eq_true (by (with_reducible assumption))
                  have q259 : x14_1 < (l0_0.length : Int) := of_decide_eq_true (by (with_reducible assumption))
                  obtain ⟨ad259, A259_0, c259_0, e259, hx259_0, hl259_0, hi259_0⟩ := at_L2 HR0_0.out x14_1 p259 q259
                  cases e259
                  replace hx259_0 := (HB.out.cell (World.block_lt_of_cell? w _ hx259_0)).trans hx259_0
                  have HR259_0 := Aside0.mk hi259_0
                  have HC259_0 := Aside0.mk hl259_0
                  clear hi259_0 hl259_0
                  replace p259 := eq_true p259
                  replace q259 := eq_true q259
                  go_wp2_with (((with_reducible refine gate_callee (f := 18) rfl ?_); refine goesL_ (some 23) rfl rfl Try.func18 (by kernel_rfl) rfl #[.int .i64 x14_1, .string a1] rfl (by (try simp only [List.map_toArray, List.map_cons, List.map_nil]); rfl) ?_; (with_reducible refine (impl_SketchPlace.calls k1 x14_1 a1 t260 _ A13.out).mono ?_); rintro e w17 ⟨rfl, hb⟩; refine ⟨_, rfl, ?_⟩; have n0_ := Aside0.mk (blk_below (g := gb257) (o := .cells #[.slice (some ad259) l0_0.length c0_0, .int .i64 a0_1] 26 (0, 0)) (by (with_reducible repeat (first | refine blk_drewN ?_ _ | refine blk_drew ?_ | refine blk_alloc ?_ _ )); exact BK257.out) hb); have n1_ := Aside0.mk (below_step (by repeat ((with_reducible exact HB.out))) hb); clear BK257; clear HB; have BK257 := n0_; have HB := n1_; clear n0_ n1_; (try clear hb); (try clear hb2); (try clear hk); (try clear hi); have p261 : 0 ≤ (t260 : Int) := of_decide_eq_true (by (with_reducible assumption)); have q261 : t260 < ((rd_L2 l0_0 x14_1).length : Int) := of_decide_eq_true (by (with_reducible assumption)); obtain ⟨ad261, e261, hx261_0⟩ := Kd.at_int HR259_0.out t260 p261 q261; cases e261; replace hx261_0 := (HB.out.cell (World.block_lt_of_cell? w _ hx261_0)).trans hx261_0; replace p261 := eq_true p261; replace q261 := eq_true q261))
                  go_roundg k1
                  case measure => have := HK1.out; omega
                  case rel => exact ⟨(ji16), (wrap64 (x14_1 + 1)), (by rfl), (by rfl), H', ⟨by have := HK1.out; omega⟩, ⟨by (with_reducible repeat (first | refine blk_drewN ?_ _ | refine blk_drew ?_ | refine blk_alloc ?_ _ )); exact BK257.out⟩, ⟨by repeat ((with_reducible exact HB.out))⟩⟩
                · rw [if_neg c15] at H
                  exact absurd H (by simp)
              · rw [if_neg c14] at H
                exact absurd H (by simp)
            · rw [if_neg c12] at H
              exact absurd H (by simp)
          · rw [if_neg c11] at H
            exact absurd H (by simp)
        · rw [if_neg c10] at H
          have c10b0 : decide (x14_1 < (l0_0.length : Int)) = false := decide_eq_false c10
          clear c10
          (skip)
          obtain rfl := Option.some.inj H
          go_wp2
          go_ret
          exact ⟨by rfl, by repeat ((with_reducible exact HB.out))⟩
  · replace c8 := Bool.eq_false_iff.mpr c8
    subst c8
    have H1 : (some 0) = some r := by rw [if_neg (show ¬ (false = true) by decide)] at H; exact H
    clear H
    have H := H1
    clear H1
    obtain rfl := Option.some.inj H
    go_wp2
    go_ret
    exact ⟨by rfl, by repeat ((with_reducible exact HB.out))⟩

end Go.Proofs.Ytoopdknphikgkaa.Q
