import Derived.Test.YtoopdknphikgkaaB0
import Derived.Test.YtoopdknphikgkaaG100
import Derived.Test.YtoopdknphikgkaaG102
import Derived.Test.YtoopdknphikgkaaG103
import Derived.Test.YtoopdknphikgkaaG105
import Derived.Test.YtoopdknphikgkaaG107
import Derived.Test.YtoopdknphikgkaaWApart
import Derived.Test.YtoopdknphikgkaaWFoot
import Derived.Test.YtoopdknphikgkaaWKept
import Derived.Test.YtoopdknphikgkaaWLast
import Derived.Test.YtoopdknphikgkaaWMore
import Derived.Test.YtoopdknphikgkaaWN
import Derived.Test.YtoopdknphikgkaaWRepsOne
import Derived.Test.YtoopdknphikgkaaWShare
import Derived.Test.YtoopdknphikgkaaWTab
import Derived.Test.YtoopdknphikgkaaWWords
namespace Go.Proofs.Ytoopdknphikgkaa.Q
open Go.RowKit Go.Proofs.YtoopdknphikgkaaW.PrintWords Go.Proofs.YtoopdknphikgkaaW.PrintLast Go.Proofs.YtoopdknphikgkaaW.PrintMore
attribute [local go_sem] max2_int min2_int max_two min_two max_three min_three max_four min_four   -- for this text's walks alone
set_option linter.unusedVariables false
set_option linter.unusedSimpArgs false

/-! ### spec_l12Copy: function 82 -/
def spec_l12Copy.l0 : Nat → Int → List (List Int) → Int → List (List Int) → Int → Option ((List (List Int)) × Int)
  | 0, _, _, _, _, _ => none
  | k + 1, x4, x456000, x456001, x458000, x458001 => if x4 < (x456000.length : Int) then ((some (([] : List Int) : List Int)).bind fun y458 => (if 0 ≤ x4 then (if y458.length + (rd_L2 x456000 x4).length < 17592186044416 then (if x458000.length < 5864062014805 then (spec_l12Copy.l0 k (wrap64 (x4 + 1)) x456000 x456001 (x458000 ++ [(y458 ++ (rd_L2 x456000 x4))]) x458001) else (none)) else (none)) else (none))) else (some (x458000, x458001))
def spec_l12Copy.f (k : Nat) (l0_0 : List (List Int)) (a0_1 : Int) : Option ((List (List Int)) × Int) := spec_l12Copy.l0 k 0 l0_0 a0_1 ([] : List (List Int)) a0_1
theorem spec_l12Copy.mono_l : ∀ k, (∀ y0 y1 y2 y3 y4, LeO (spec_l12Copy.l0 k y0 y1 y2 y3 y4) (spec_l12Copy.l0 (k + 1) y0 y1 y2 y3 y4))
  | 0 => fun _ _ _ _ _ r h => by simp [spec_l12Copy.l0] at h
  | k + 1 => by
    have ih0 := spec_l12Copy.mono_l k
    · intro y0 y1 y2 y3 y4
      unfold spec_l12Copy.l0
      repeat' first | (with_reducible exact ih0 _ _ _ _ _) | (with_reducible exact LeO.refl _) | (with_reducible refine LeO.ite ?_ ?_) | (with_reducible refine LeO.bind ?_ (fun _ => ?_))
theorem spec_l12Copy.mono : ∀ a0 a1 k, LeO (spec_l12Copy.f k a0 a1) (spec_l12Copy.f (k + 1) a0 a1) := by
  intro a0 a1 k
  have ih0 := spec_l12Copy.mono_l k
  unfold spec_l12Copy.f
  repeat' (with_reducible exact ih0 _ _ _ _ _)
def spec_l12Copy.T5 : Bool × List (List Nat × List Nat) := (true, [([], []), ([0], [0]), ([], []), ([], []), ([3], [3]), ([], []), ([4, 5], [4, 5]), ([6], [6]), ([2, 7], [2, 7]), ([8], [8]), ([1, 9, 8], [1, 9]), ([0, 1, 2, 3, 4, 5, 6, 7, 8, 9, 10], []), ([11, 10, 10, 0, 1, 2, 3, 4, 5, 6, 7, 8, 9, 10], [10, 11])])
def spec_l12Copy.B5 : List Nat := [0, 1, 0, 0, 8, 0, 56, 120, 252, 508, 1023, 2047, 4095]
theorem spec_l12Copy.tab5 : rtab .any (opsOf Try.f82 5) = spec_l12Copy.T5 := by kernel_rfl
theorem spec_l12Copy.bits5 : waitsOk spec_l12Copy.T5.2 spec_l12Copy.B5 = true := by kernel_rfl
set_option maxHeartbeats 8000000 in
set_option maxRecDepth 100000 in
theorem spec_l12Copy.calls (k : Nat) (A0_0 : Option Addr) (c0_0 : Nat) (l0_0 : List (List Int)) (a0_1 : Int) (r1 : List (List Int)) (r2 : Int) (w : World) (hr0_0 : Kd.C (Kd.slice 3 (Kd.int .i64)) w A0_0 l0_0.length l0_0) (hc0_0 : l0_0.length ≤ c0_0) (h : spec_l12Copy.f k l0_0 a0_1 = some (r1, r2)) :
    Calls Try.prog 82 #[.agg #[.slice A0_0 l0_0.length c0_0, .int .i64 a0_1]] w fun e w' => ∃ v0_ : Value, e = .returned (.agg #[v0_, .int .i64 r2]) ∧ Kd.S (Kd.slice 3 (Kd.int .i64)) 58 w' w.heap.size (fun _ => True) v0_ r1 ∧ Below w.heap.size w w' := by
  have hu26 := Try.underlying26
  have HR0_0 := Aside0.mk hr0_0
  have HC0_0 := Aside0.mk hc0_0
  clear hr0_0 hc0_0
  have HB := Aside0.mk (Below.refl w.heap.size w)
  have H : (spec_l12Copy.l0 k 0 l0_0 a0_1 ([] : List (List Int)) a0_1) = some (r1, r2) := h
  clear h
  have H' := Aside0.mk H
  clear H
  go_enter Try.func82, Try.ntmps82
  go_wp2_with (first | ((with_reducible refine gate_dst (N := 1) rfl ?_); refine box_event ?hg (N := 1) ?hd (cs := #[.slice A0_0 l0_0.length c0_0, .int .i64 a0_1]) (t := 26) ?hr ?_; (case hd => rfl); (case hg => rfl); (case hr => (go_simp; done)); intro gb455 hg w2 hbox hb; have n0_ := Aside0.mk (below_step (by repeat ((with_reducible exact HB.out))) hb); have n1_ := Aside0.mk (hbox); have n2_ := Aside0.mk ((by rw [hg]; exact (below_size (by repeat ((with_reducible exact HB.out)))) : w.heap.size ≤ gb455)); have n3_ := Aside0.mk ((by rw [hg]; exact (below_size (by repeat ((with_reducible exact HB.out)))) : w.heap.size ≤ gb455)); clear HB; have HB := n0_; have BK455 := n1_; have GW455 := n2_; have GE455 := n3_; clear n0_ n1_ n2_ n3_; clear hb hbox hg) | ((with_reducible refine gate_dst (N := 2) rfl ?_); refine box_event ?hg (N := 2) ?hd (cs := #[.slice none 0 0, .int .i64 0]) (t := 26) ?hr ?_; (case hd => rfl); (case hg => rfl); (case hr => (go_simp; done)); intro gb456 hg w3 hbox hb; have n0_ := Aside0.mk (blk_below (g := gb455) (o := .cells #[.slice A0_0 l0_0.length c0_0, .int .i64 a0_1] 26 (0, 0)) (by (with_reducible repeat (first | refine blk_drewN ?_ _ | refine blk_drew ?_ | refine blk_alloc ?_ _ )); exact BK455.out) hb); have n1_ := Aside0.mk (below_step (by repeat ((with_reducible exact HB.out))) hb); have n2_ := Aside0.mk (hbox); have n3_ := Aside0.mk ((by rw [hg]; exact (below_size (by repeat ((with_reducible exact HB.out)))) : w.heap.size ≤ gb456)); have n4_ := Aside0.mk ((by rw [hg]; exact (below_size (by repeat ((with_reducible exact HB.out)))) : w.heap.size ≤ gb456)); have n5_ := Aside0.mk ((by rw [hg]; exact Nat.ne_of_lt (blk_lt (g := gb455) (o := .cells #[.slice A0_0 l0_0.length c0_0, .int .i64 a0_1] 26 (0, 0)) (by (with_reducible repeat (first | refine blk_drewN ?_ _ | refine blk_drew ?_ | refine blk_alloc ?_ _ )); exact BK455.out)) : gb455 ≠ gb456)); have n6_ := Aside0.mk ((by rw [hg]; exact Nat.ne_of_gt (blk_lt (g := gb455) (o := .cells #[.slice A0_0 l0_0.length c0_0, .int .i64 a0_1] 26 (0, 0)) (by (with_reducible repeat (first | refine blk_drewN ?_ _ | refine blk_drew ?_ | refine blk_alloc ?_ _ )); exact BK455.out)) : gb456 ≠ gb455)); clear BK455; clear HB; have BK455 := n0_; have HB := n1_; have BK456 := n2_; have GW456 := n3_; have GE456 := n4_; have NB455_456 := n5_; have NB456_455 := n6_; clear n0_ n1_ n2_ n3_ n4_ n5_ n6_; clear hb hbox hg; have hnb4 := NB455_456.out; have hnc4 := NB456_455.out; have hcz5_0 : w3.cell? ⟨gb455, 0, none⟩ = some (.slice A0_0 l0_0.length c0_0) := (blk_cell BK455.out 0).trans rfl; have hcz5_1 : w3.cell? ⟨gb455, 1, none⟩ = some (.int .i64 a0_1) := (blk_cell BK455.out 1).trans rfl; have hfz5_0 := blk_frozen BK455.out 0; have hfz5_1 := blk_frozen BK455.out 1) | ((with_reducible refine gate_dst (N := 3) rfl ?_); refine box_event ?hg (N := 3) ?hd (cs := #[.slice none 0 0, .int .i64 0]) (t := 26) ?hr ?_; (case hd => rfl); (case hg => rfl); (case hr => (go_simp; done)); intro gb457 hg w6 hbox hb; have n0_ := Aside0.mk (blk_below (g := gb455) (o := .cells #[.slice A0_0 l0_0.length c0_0, .int .i64 a0_1] 26 (0, 0)) (by (with_reducible repeat (first | refine blk_drewN ?_ _ | refine blk_drew ?_ | refine blk_alloc ?_ _ )); exact BK455.out) hb); have n1_ := Aside0.mk (blk_below (g := gb456) (o := .cells #[.slice none 0 0, .int .i64 0] 26 (0, 0)) (by (with_reducible repeat (first | refine blk_drewN ?_ _ | refine blk_drew ?_ | refine blk_alloc ?_ _ )); exact BK456.out) hb); have n2_ := Aside0.mk (below_step (by repeat ((with_reducible exact HB.out))) hb); have n3_ := Aside0.mk (hbox); have n4_ := Aside0.mk ((by rw [hg]; exact (below_size (by repeat ((with_reducible exact HB.out)))) : w.heap.size ≤ gb457)); have n5_ := Aside0.mk ((by rw [hg]; exact (below_size (by repeat ((with_reducible exact HB.out)))) : w.heap.size ≤ gb457)); have n6_ := Aside0.mk ((by rw [hg]; exact Nat.ne_of_lt (blk_lt (g := gb455) (o := .cells #[.slice A0_0 l0_0.length c0_0, .int .i64 a0_1] 26 (0, 0)) (by (with_reducible repeat (first | refine blk_drewN ?_ _ | refine blk_drew ?_ | refine blk_alloc ?_ _ )); exact BK455.out)) : gb455 ≠ gb457)); have n7_ := Aside0.mk ((by rw [hg]; exact Nat.ne_of_gt (blk_lt (g := gb455) (o := .cells #[.slice A0_0 l0_0.length c0_0, .int .i64 a0_1] 26 (0, 0)) (by (with_reducible repeat (first | refine blk_drewN ?_ _ | refine blk_drew ?_ | refine blk_alloc ?_ _ )); exact BK455.out)) : gb457 ≠ gb455)); have n8_ := Aside0.mk ((by rw [hg]; exact Nat.ne_of_lt (blk_lt (g := gb456) (o := .cells #[.slice none 0 0, .int .i64 0] 26 (0, 0)) (by (with_reducible repeat (first | refine blk_drewN ?_ _ | refine blk_drew ?_ | refine blk_alloc ?_ _ )); exact BK456.out)) : gb456 ≠ gb457)); have n9_ := Aside0.mk ((by rw [hg]; exact Nat.ne_of_gt (blk_lt (g := gb456) (o := .cells #[.slice none 0 0, .int .i64 0] 26 (0, 0)) (by (with_reducible repeat (first | refine blk_drewN ?_ _ | refine blk_drew ?_ | refine blk_alloc ?_ _ )); exact BK456.out)) : gb457 ≠ gb456)); clear BK455; clear BK456; clear HB; have BK455 := n0_; have BK456 := n1_; have HB := n2_; have BK457 := n3_; have GW457 := n4_; have GE457 := n5_; have NB455_457 := n6_; have NB457_455 := n7_; have NB456_457 := n8_; have NB457_456 := n9_; clear n0_ n1_ n2_ n3_ n4_ n5_ n6_ n7_ n8_ n9_; clear hb hbox hg; have hnb7 := NB457_455.out; have hnc7 := NB455_457.out; have hnb8 := NB457_456.out; have hnc8 := NB456_457.out; have hcz9_0 : w6.cell? ⟨gb457, 0, none⟩ = some (.slice none 0 0) := (blk_cell BK457.out 0).trans rfl; have hcz9_1 : w6.cell? ⟨gb457, 1, none⟩ = some (.int .i64 0) := (blk_cell BK457.out 1).trans rfl; have hfz9_0 := blk_frozen BK457.out 0; have hfz9_1 := blk_frozen BK457.out 1))
  go_loopg [4] k (fun kq v4 w' => ∃ (x4_1 : Int) (x458000_1 : List (List Int)) (u458000 : Value), v4 = .int .i64 x4_1 ∧ Aside0 (spec_l12Copy.l0 kq x4_1 l0_0 a0_1 x458000_1 a0_1 = some (r1, r2)) ∧ Aside0 (kq ≤ k) ∧ Aside0 (Kd.S (Kd.slice 3 (Kd.int .i64)) 58 w' w.heap.size (fun _ => True) u458000 x458000_1) ∧ Aside0 (w'.heap[gb455]? = some (.cells #[(.slice A0_0 l0_0.length c0_0), .int .i64 a0_1] 26 (0, 0))) ∧ Aside0 (w'.heap[gb456]? = some (.cells #[(.slice none 0 0), .int .i64 0] 26 (0, 0))) ∧ Aside0 (w'.heap[gb457]? = some (.cells #[u458000, .int .i64 a0_1] 26 (0, 0))) ∧ Aside0 (Below w.heap.size w w'))
  case atStart => exact ⟨(0), (([] : List (List Int))), (.slice none 0 0), (by rfl), H', ⟨Nat.le_refl _⟩, ⟨by exact Kd.S_nil _ _ _ _ _⟩, ⟨by (with_reducible repeat (first | refine blk_drewN ?_ _ | refine blk_drew ?_ | refine blk_alloc ?_ _ )); refine blk_far ?_ NB455_457.out _; (with_reducible repeat (first | refine blk_drewN ?_ _ | refine blk_drew ?_ | refine blk_alloc ?_ _ )); refine blk_far ?_ NB455_457.out _; (with_reducible repeat (first | refine blk_drewN ?_ _ | refine blk_drew ?_ | refine blk_alloc ?_ _ )); exact BK455.out⟩, ⟨by (with_reducible repeat (first | refine blk_drewN ?_ _ | refine blk_drew ?_ | refine blk_alloc ?_ _ )); refine blk_far ?_ NB456_457.out _; (with_reducible repeat (first | refine blk_drewN ?_ _ | refine blk_drew ?_ | refine blk_alloc ?_ _ )); refine blk_far ?_ NB456_457.out _; (with_reducible repeat (first | refine blk_drewN ?_ _ | refine blk_drew ?_ | refine blk_alloc ?_ _ )); exact BK456.out⟩, ⟨by (with_reducible repeat (first | refine blk_drewN ?_ _ | refine blk_drew ?_ | refine blk_alloc ?_ _ )); refine blk_put (cs := #[.slice none 0 0, .int .i64 0]) ?_ 1 _ rfl; (with_reducible repeat (first | refine blk_drewN ?_ _ | refine blk_drew ?_ | refine blk_alloc ?_ _ )); refine blk_put (cs := #[.slice none 0 0, .int .i64 0]) ?_ 0 _ rfl; (with_reducible repeat (first | refine blk_drewN ?_ _ | refine blk_drew ?_ | refine blk_alloc ?_ _ )); exact BK457.out⟩, ⟨by repeat ((with_reducible first | exact HB.out | refine below_set ?_ GE457.out))⟩⟩
  case round =>
    clear H'
    clear hcz5_0
    clear hcz5_1
    clear hcz9_0
    clear hcz9_1
    clear hfz5_0
    clear hfz5_1
    clear hfz9_0
    clear hfz9_1
    obtain ⟨x4_1, x458000_1, u458000, rfl, HA, HK1, HO_458000, BK455, BK456, BK457, HB⟩ := hrel
    cases gk with
    | zero => exact absurd HA.out (by simp [spec_l12Copy.l0])
    | succ k1 =>
      have H := HA.out
      clear HA
      simp only [spec_l12Copy.l0] at H
      by_cases c10 : x4_1 < (l0_0.length : Int)
      · rw [if_pos c10] at H
        have c10b0 : decide (x4_1 < (l0_0.length : Int)) = true := decide_eq_true c10
        clear c10
        obtain ⟨y458, hy458⟩ : ∃ y_ : List Int, y_ = (([] : List Int)) := ⟨_, rfl⟩
        replace H : (if 0 ≤ x4_1 then (if y458.length + (rd_L2 l0_0 x4_1).length < 17592186044416 then (if x458000_1.length < 5864062014805 then (spec_l12Copy.l0 k1 (wrap64 (x4_1 + 1)) l0_0 a0_1 (x458000_1 ++ [(y458 ++ (rd_L2 l0_0 x4_1))]) a0_1) else (none)) else (none)) else (none)) = some (r1, r2) := by (have H2_ := (Option.bind_some _ _).symm.trans H; rw [hy458]; with_reducible exact H2_)
        have Ny458 := Aside0.mk hy458
        clear hy458
        by_cases c11 : 0 ≤ x4_1
        · rw [if_pos c11] at H
          have c11b0 : decide (0 ≤ x4_1) = true := decide_eq_true c11
          clear c11
          by_cases c12 : y458.length + (rd_L2 l0_0 x4_1).length < 17592186044416
          · rw [if_pos c12] at H
            have LMc12 := Aside0.mk c12
            clear c12
            obtain ⟨y462, hy462⟩ : ∃ y_ : List Int, y_ = (y458 ++ (rd_L2 l0_0 x4_1)) := ⟨_, rfl⟩
            replace H : (if x458000_1.length < 5864062014805 then (spec_l12Copy.l0 k1 (wrap64 (x4_1 + 1)) l0_0 a0_1 (x458000_1 ++ [y462]) a0_1) else (none)) = some (r1, r2) := by (rw [hy462]; with_reducible exact H)
            have Ny462 := Aside0.mk hy462
            clear hy462
            by_cases c13 : x458000_1.length < 5864062014805
            · rw [if_pos c13] at H
              have LMc13 := Aside0.mk c13
              clear c13
              obtain ⟨y465, hy465⟩ : ∃ y_ : List (List Int), y_ = (x458000_1 ++ [y462]) := ⟨_, rfl⟩
              replace H : (spec_l12Copy.l0 k1 (wrap64 (x4_1 + 1)) l0_0 a0_1 y465 a0_1) = some (r1, r2) := by (rw [hy465]; with_reducible exact H)
              have Ny465 := Aside0.mk hy465
              clear hy465
              have H' := Aside0.mk H
              clear H
              have hnb14 := NB455_456.out
              have hnc14 := NB456_455.out
              have hnb15 := NB455_457.out
              have hnc15 := NB457_455.out
              have hcz16_0 : wr.cell? ⟨gb455, 0, none⟩ = some (.slice A0_0 l0_0.length c0_0) := (blk_cell BK455.out 0).trans rfl
              have hcz16_1 : wr.cell? ⟨gb455, 1, none⟩ = some (.int .i64 a0_1) := (blk_cell BK455.out 1).trans rfl
              have hfz16_0 := blk_frozen BK455.out 0
              have hfz16_1 := blk_frozen BK455.out 1
              go_wp2
              have n0_ := Aside0.mk (Kd.S_drew HO_458000.out)
              have n1_ := Aside0.mk (blk_drew BK455.out)
              have n2_ := Aside0.mk (blk_drew BK456.out)
              have n3_ := Aside0.mk (blk_drew BK457.out)
              have n4_ := Aside0.mk (below_drew1 HB.out)
              clear HO_458000
              clear BK455
              clear BK456
              clear BK457
              clear HB
              have HO_458000 := n0_
              have BK455 := n1_
              have BK456 := n2_
              have BK457 := n3_
              have HB := n4_
              clear n0_ n1_ n2_ n3_ n4_
              have p461 : 0 ≤ (x4_1 : Int) := of_decide_eq_true (by (with_reducible assumption))
              have q461 : x4_1 < (l0_0.length : Int) := of_decide_eq_true (by (with_reducible assumption))
              obtain ⟨ad461, A461_0, c461_0, e461, hx461_0, hl461_0, hi461_0⟩ := at_L2 HR0_0.out x4_1 p461 q461
              have hw461_0 := hx461_0
              cases e461
              replace hx461_0 := (HB.out.cell (World.block_lt_of_cell? w _ hx461_0)).trans hx461_0
              have HR461_0 := Aside0.mk hi461_0
              have HC461_0 := Aside0.mk hl461_0
              clear hi461_0 hl461_0
              replace p461 := eq_true p461
              replace q461 := eq_true q461
              refine start_ (n := 13) (S := fun w' => w'.cell? ⟨gb457, 0, none⟩ = some (u458000) ∧ w'.cell? ⟨gb457, 1, none⟩ = some (.int .i64 a0_1) ∧ w'.cell? ⟨gb455, 0, none⟩ = some (.slice (some ad461) l0_0.length c0_0) ∧ w'.cell? ⟨gb455, 1, none⟩ = some (.int .i64 a0_1) ∧ w'.cell? (ad461.add (x4_1).toNat) = some (.slice A461_0 (rd_L2 l0_0 x4_1).length c461_0)) (ds := [12]) #[false, false, false, false, false, false, false, false, false, false, false, false, false] (by kernel_rfl) rfl rfl ⟨(blk_cell BK457.out 0).trans rfl, (blk_cell BK457.out 1).trans rfl, (blk_cell BK455.out 0).trans rfl, (blk_cell BK455.out 1).trans rfl, ((HB.out.cell (World.block_lt_of_cell? w _ hw461_0)).trans hw461_0)⟩ (fun hHeld => ?_); refine with_tabW spec_l12Copy.tab5 spec_l12Copy.bits5 (fun HT_ HW_ => ?_)
              generalize wr.drew = w17 at HO_458000 BK455 BK456 BK457 HB HR461_0 hx461_0 hHeld ⊢
              refine pure_ (i := 0) (N := some 15) (v := ?_) (a' := ?_) #[true, false, false, false, false, false, false, false, false, false, false, false, false] rfl rfl (any_of HT_.out (by kernel_rfl)) (fun _ _ _ h => h) (Or.inl ⟨by rfl, ?_⟩) ?_ ?_
              rotate_left
              · intro w'
                go_simp
                with_reducible rfl
              rotate_left
              · simp only [Act.put, List.setIfInBounds_toArray, List.set_cons_zero, List.set_cons_succ, i64_w, i32_w]
                rfl
              refine pure_ (i := 3) (N := some 18) (v := ?_) (a' := ?_) #[true, false, false, true, false, false, false, false, false, false, false, false, false] rfl rfl (any_of HT_.out (by kernel_rfl)) (fun _ _ _ h => h) (Or.inl ⟨by rfl, ?_⟩) ?_ ?_
              rotate_left
              · intro w'
                go_simp
                with_reducible rfl
              rotate_left
              · simp only [Act.put, List.setIfInBounds_toArray, List.set_cons_zero, List.set_cons_succ, i64_w, i32_w]
                rfl
              refine pure_ (i := 5) (N := some 20) (v := ?_) (a' := ?_) #[true, false, false, true, false, true, false, false, false, false, false, false, false] rfl rfl (any_of HT_.out (by kernel_rfl)) (fun _ _ _ h => h) (Or.inl ⟨by rfl, ?_⟩) ?_ ?_
              rotate_left
              · intro w'
                go_simp
                with_reducible rfl
              rotate_left
              · simp only [Act.put, List.setIfInBounds_toArray, List.set_cons_zero, List.set_cons_succ, i64_w, i32_w]
                rfl
              refine take_ (i := 1) (N := some 16) (v := ?_) (a' := ?_) #[true, true, false, true, false, true, false, false, false, false, false, false, false] rfl rfl (take_ofW HT_.out HW_.out (by kernel_rfl)) (fun _ _ _ h => h) (Or.inl ⟨by rfl, ?_⟩) hHeld ?_ ?_
              rotate_left
              · rintro w' ⟨s0, s1, s2, s3, s4⟩
                go_simp
                with_reducible rfl
              rotate_left
              · simp only [Act.put, List.setIfInBounds_toArray, List.set_cons_zero, List.set_cons_succ, i64_w, i32_w]
                rfl
              refine take_ (i := 4) (N := some 19) (v := ?_) (a' := ?_) #[true, true, false, true, true, true, false, false, false, false, false, false, false] rfl rfl (take_ofW HT_.out HW_.out (by kernel_rfl)) (fun _ _ _ h => h) (Or.inl ⟨by rfl, ?_⟩) hHeld ?_ ?_
              rotate_left
              · rintro w' ⟨s0, s1, s2, s3, s4⟩
                go_simp
                with_reducible rfl
              rotate_left
              · simp only [Act.put, List.setIfInBounds_toArray, List.set_cons_zero, List.set_cons_succ, i64_w, i32_w]
                rfl
              refine pure_ (i := 6) (N := some 21) (v := ?_) (a' := ?_) #[true, true, false, true, true, true, true, false, false, false, false, false, false] rfl rfl (any_of HT_.out (by kernel_rfl)) (fun _ _ _ h => h) (Or.inl ⟨by rfl, ?_⟩) ?_ ?_
              rotate_left
              · intro w'
                go_simp
                with_reducible rfl
              rotate_left
              · simp only [Act.put, List.setIfInBounds_toArray, List.set_cons_zero, List.set_cons_succ, i64_w, i32_w]
                rfl
              refine take_ (i := 7) (N := some 22) (v := ?_) (a' := ?_) #[true, true, false, true, true, true, true, true, false, false, false, false, false] rfl rfl (take_ofW HT_.out HW_.out (by kernel_rfl)) (fun _ _ _ h => h) (Or.inl ⟨by rfl, ?_⟩) hHeld ?_ ?_
              rotate_left
              · rintro w' ⟨s0, s1, s2, s3, s4⟩
                go_simp
                with_reducible rfl
              rotate_left
              · simp only [Act.put, List.setIfInBounds_toArray, List.set_cons_zero, List.set_cons_succ, i64_w, i32_w]
                rfl
              refine one_ (i := 2) (N := some 17) #[true, true, true, true, true, true, true, true, false, false, false, false, false] rfl rfl (one_of HT_.out (by kernel_rfl)) (by decide) (fun K hK => ?_)
              refine Kd.R_lit_step (Kd.int .i64) _ 3 ?hg (N := 17) ?hd (xs := ([] : List Int)) (inner := []) (ok := fun _ => True) (okp := fun _ => True) ?hr ?hp (fun _ hk => hk) trivial (Below.refl _ _) (Nat.le_refl _) (by simp) ?_; (case hd => rfl); (case hg => rfl); (case hr => (go_simp; done)); (case hp => exact (Reps.none _ _))
              intro v459 w18 ho19 hb hg_ hnew_
              clear hg_ hnew_
              (rw [← Ny458.out] at ho19)
              have n0_ := Aside0.mk (Kd.S_elder' (by (with_reducible repeat (first | apply Kd.S_alloc | apply Kd.S_drewN | apply Kd.S_drew )); exact HO_458000.out) (Kd.R_base ho19) hb)
              have n1_ := Aside0.mk (Kd.R_lower ho19 (below_size (by repeat ((with_reducible exact HB.out)))))
              have n2_ := Aside0.mk (blk_below (g := gb455) (o := .cells #[.slice (some ad461) l0_0.length c0_0, .int .i64 a0_1] 26 (0, 0)) (by (with_reducible repeat (first | refine blk_drewN ?_ _ | refine blk_drew ?_ | refine blk_alloc ?_ _ )); exact BK455.out) hb)
              have n3_ := Aside0.mk (blk_below (g := gb456) (o := .cells #[.slice none 0 0, .int .i64 0] 26 (0, 0)) (by (with_reducible repeat (first | refine blk_drewN ?_ _ | refine blk_drew ?_ | refine blk_alloc ?_ _ )); exact BK456.out) hb)
              have n4_ := Aside0.mk (blk_below (g := gb457) (o := .cells #[u458000, .int .i64 a0_1] 26 (0, 0)) (by (with_reducible repeat (first | refine blk_drewN ?_ _ | refine blk_drew ?_ | refine blk_alloc ?_ _ )); exact BK457.out) hb)
              have n5_ := Aside0.mk (below_step (by repeat ((with_reducible exact HB.out))) hb)
              clear HO_458000
              clear BK455
              clear BK456
              clear BK457
              clear HB
              have HO_458000 := n0_
              have HO460 := n1_
              have BK455 := n2_
              have BK456 := n3_
              have BK457 := n4_
              have HB := n5_
              clear n0_ n1_ n2_ n3_ n4_ n5_
              clear hb ho19
              refine hK.out _ _ ⟨(blk_cell BK457.out 0).trans rfl, (blk_cell BK457.out 1).trans rfl, (blk_cell BK455.out 0).trans rfl, (blk_cell BK455.out 1).trans rfl, ((HB.out.cell (World.block_lt_of_cell? w _ hw461_0)).trans hw461_0)⟩ (fun hHeld => ?_)
              clear hK K
              refine norm_ (a' := ?_) ?_ ?_
              rotate_left
              · show Act.put _ (some 17) _ = _
                simp only [Act.put, List.setIfInBounds_toArray, List.set_cons_zero, List.set_cons_succ, i64_w, i32_w]
                rfl
              refine one_ (i := 8) (N := some 23) #[true, true, true, true, true, true, true, true, true, false, false, false, false] rfl rfl (one_of HT_.out (by kernel_rfl)) (by decide) (fun K hK => ?_)
              refine Kd.R_append_rows_step (Kd.int .i64) (w0 := w) w.heap.size (by rfl) (.tmp 17) (.tmp 22) 58 3 (.int .i64 0) 8 rfl Try.underlying58 info3 rfl (by decide) (by omega) v459 y458 (rd_L2 l0_0 x4_1) _ _ _ (fun _ => True) (fun _ => False) rfl rfl ?aO ?aR (fun _ _ h => h) (fun _ h => h.elim) ?aF ?aB ?aS ?aL ?_
              (case aR => repeat (exact (Kd.C_below HR461_0.out HB.out)))
              (case aB => exact (by repeat ((with_reducible exact HB.out))))
              (case aF => exact (fun _ _ => trivial))
              (case aO => exact (by (with_reducible repeat (first | apply Kd.R_alloc | apply Kd.R_drewN | apply Kd.R_drew )); exact HO460.out))
              (case aS => exact (below_size (by repeat ((with_reducible exact HB.out)))))
              (case aL => have := LMc12.out; omega)
              intro v463 w20 ho hb hg hat
              rw [← Ny462.out] at ho
              have n0_ := Aside0.mk (Kd.S_after (ok := (fun _ => True)) (by (with_reducible repeat (first | apply Kd.S_alloc | apply Kd.S_drewN | apply Kd.S_drew )); exact HO_458000.out) hg hat)
              have n1_ := Aside0.mk (blk_grown (g := gb455) (o := .cells #[.slice (some ad461) l0_0.length c0_0, .int .i64 a0_1] 26 (0, 0)) (by (with_reducible repeat (first | refine blk_drewN ?_ _ | refine blk_drew ?_ | refine blk_alloc ?_ _ )); exact BK455.out) hg (Kd.R_ne HO460.out BK455.out (by decide)))
              have n2_ := Aside0.mk (blk_grown (g := gb456) (o := .cells #[.slice none 0 0, .int .i64 0] 26 (0, 0)) (by (with_reducible repeat (first | refine blk_drewN ?_ _ | refine blk_drew ?_ | refine blk_alloc ?_ _ )); exact BK456.out) hg (Kd.R_ne HO460.out BK456.out (by decide)))
              have n3_ := Aside0.mk (blk_grown (g := gb457) (o := .cells #[u458000, .int .i64 a0_1] 26 (0, 0)) (by (with_reducible repeat (first | refine blk_drewN ?_ _ | refine blk_drew ?_ | refine blk_alloc ?_ _ )); exact BK457.out) hg (Kd.R_ne HO460.out BK457.out (by decide)))
              have n4_ := Aside0.mk (hb)
              have n5_ := Aside0.mk (ho)
              clear HO_458000
              clear BK455
              clear BK456
              clear BK457
              clear HB
              clear HO460
              have HO_458000 := n0_
              have BK455 := n1_
              have BK456 := n2_
              have BK457 := n3_
              have HB := n4_
              have HO464 := n5_
              clear n0_ n1_ n2_ n3_ n4_ n5_
              clear ho hb hg hat
              obtain ⟨Ao22, co22, eo22⟩ := Kd.R_slice HO464.out
              (subst eo22)
              refine hK.out _ _ ⟨(blk_cell BK457.out 0).trans rfl, (blk_cell BK457.out 1).trans rfl, (blk_cell BK455.out 0).trans rfl, (blk_cell BK455.out 1).trans rfl, ((HB.out.cell (World.block_lt_of_cell? w _ hw461_0)).trans hw461_0)⟩ (fun hHeld => ?_)
              clear hK K
              refine norm_ (a' := ?_) ?_ ?_
              rotate_left
              · show Act.put _ (some 23) _ = _
                simp only [Act.put, List.setIfInBounds_toArray, List.set_cons_zero, List.set_cons_succ, i64_w, i32_w]
                rfl
              refine one_ (i := 9) (N := some 24) #[true, true, true, true, true, true, true, true, true, true, false, false, false] rfl rfl (one_of HT_.out (by kernel_rfl)) (by decide) (fun K hK => ?_)
              refine value_ (w1 := ?_) (v := ?_) (by rfl) rfl ?_ ?_
              rotate_left 2
              · go_simp
                constructor
                · rfl
                · rfl
              refine hK.out _ _ ⟨(blk_cell (blk_alloc BK457.out _) 0).trans rfl, (blk_cell (blk_alloc BK457.out _) 1).trans rfl, (blk_cell (blk_alloc BK455.out _) 0).trans rfl, (blk_cell (blk_alloc BK455.out _) 1).trans rfl, (World.cell?_alloc_lt _ _ _ (World.block_lt_of_cell? _ _ (((HB.out.cell (World.block_lt_of_cell? w _ hw461_0)).trans hw461_0)))).trans (((HB.out.cell (World.block_lt_of_cell? w _ hw461_0)).trans hw461_0))⟩ (fun hHeld => ?_)
              clear hK K
              refine norm_ (a' := ?_) ?_ ?_
              rotate_left
              · show Act.put _ (some 24) _ = _
                simp only [Act.put, List.setIfInBounds_toArray, List.set_cons_zero, List.set_cons_succ, i64_w, i32_w]
                rfl
              refine one_ (i := 10) (N := some 25) #[true, true, true, true, true, true, true, true, true, true, true, false, false] rfl rfl (one_of HT_.out (by kernel_rfl)) (by decide) (fun K hK => ?_)
              refine Kd.S_append_step (Kd.slice 3 (Kd.int .i64)) (w0 := w) w.heap.size (by rfl) (.tmp 16) (.tmp 24) 24 58 (.slice none 0 0) 24 rfl Try.underlying24 info58 rfl (by decide) (by omega) u458000 x458000_1 y462 [.slice Ao22 y462.length co22] (fun _ => True) (fun k_ => some k_ = (.slice Ao22 y462.length co22 : Value).ownBlock) rfl rfl ?aP (fun k_ hk_ => ((Kd.R_mono (ok' := fun k_ => ((fun _ => True)) k_ ∧ some k_ ≠ (u458000 : Value).ownBlock) (Kd.R_apart' (HO464.out) (Kd.S_typed HO_458000.out) (by decide)) (fun k_ hk => ⟨trivial, hk.2⟩))).1 k_ hk_.symm) ?aF ?aO ?aB ?aS ?aL ?_
              (case aP => exact Kd.M_row (Kd.R_mono (Kd.R_tight rfl (Kd.R_mono (ok' := fun k_ => ((fun _ => True)) k_ ∧ some k_ ≠ (u458000 : Value).ownBlock) (Kd.R_apart' (HO464.out) (Kd.S_typed HO_458000.out) (by decide)) (fun k_ hk => ⟨trivial, hk.2⟩))) (fun _ h_ => h_)))
              (case aB => exact (by repeat ((with_reducible exact HB.out))))
              (case aF => exact (fun _ _ => trivial))
              (case aO => exact (by (with_reducible repeat (first | apply Kd.S_alloc | apply Kd.S_drewN | apply Kd.S_drew )); exact Kd.S_mono HO_458000.out (fun k_ hk => ⟨trivial, fun e_ => hk.2 e_⟩)))
              (case aS => exact (below_size (by repeat ((with_reducible exact HB.out)))))
              (case aL => have := LMc13.out; omega)
              intro v466 w21 ho hb hg hat
              rw [← Ny465.out] at ho
              have n0_ := Aside0.mk (blk_grown (g := gb455) (o := .cells #[.slice (some ad461) l0_0.length c0_0, .int .i64 a0_1] 26 (0, 0)) (by (with_reducible repeat (first | refine blk_drewN ?_ _ | refine blk_drew ?_ | refine blk_alloc ?_ _ )); exact BK455.out) hg (Kd.S_ne HO_458000.out BK455.out (by decide)))
              have n1_ := Aside0.mk (blk_grown (g := gb456) (o := .cells #[.slice none 0 0, .int .i64 0] 26 (0, 0)) (by (with_reducible repeat (first | refine blk_drewN ?_ _ | refine blk_drew ?_ | refine blk_alloc ?_ _ )); exact BK456.out) hg (Kd.S_ne HO_458000.out BK456.out (by decide)))
              have n2_ := Aside0.mk (blk_grown (g := gb457) (o := .cells #[u458000, .int .i64 a0_1] 26 (0, 0)) (by (with_reducible repeat (first | refine blk_drewN ?_ _ | refine blk_drew ?_ | refine blk_alloc ?_ _ )); exact BK457.out) hg (Kd.S_ne HO_458000.out BK457.out (by decide)))
              have n3_ := Aside0.mk (hb)
              have n4_ := Aside0.mk (ho)
              clear BK455
              clear BK456
              clear BK457
              clear HB
              clear HO_458000
              clear HO464
              have BK455 := n0_
              have BK456 := n1_
              have BK457 := n2_
              have HB := n3_
              have HO467 := n4_
              clear n0_ n1_ n2_ n3_ n4_
              clear ho hb hg hat
              obtain ⟨Ao23, co23, eo23⟩ := Kd.S_slice HO467.out
              (subst eo23)
              refine hK.out _ _ ⟨(blk_cell BK457.out 0).trans rfl, (blk_cell BK457.out 1).trans rfl, (blk_cell BK455.out 0).trans rfl, (blk_cell BK455.out 1).trans rfl, ((HB.out.cell (World.block_lt_of_cell? w _ hw461_0)).trans hw461_0)⟩ (fun hHeld => ?_)
              clear hK K
              refine norm_ (a' := ?_) ?_ ?_
              rotate_left
              · show Act.put _ (some 25) _ = _
                simp only [Act.put, List.setIfInBounds_toArray, List.set_cons_zero, List.set_cons_succ, i64_w, i32_w]
                rfl
              refine pure_ (i := 11) (N := some 26) (v := ?_) (a' := ?_) #[true, true, true, true, true, true, true, true, true, true, true, true, false] rfl rfl (any_of HT_.out (by kernel_rfl)) (fun _ _ _ h => h) (Or.inl ⟨by rfl, ?_⟩) ?_ ?_
              rotate_left
              · intro w'
                go_simp
                with_reducible rfl
              rotate_left
              · simp only [Act.put, List.setIfInBounds_toArray, List.set_cons_zero, List.set_cons_succ, i64_w, i32_w]
                rfl
              refine last_ (i := 12) (N := none) #[true, true, true, true, true, true, true, true, true, true, true, true, true] rfl rfl (one_of HT_.out (by kernel_rfl)) (by decide) (fun K hK => ?_)
              have hs24 : w21.cell? ⟨gb457, 0, none⟩ = some (u458000) := (blk_cell BK457.out 0).trans rfl
              have hfs24 := blk_frozen BK457.out 0
              have hns24_0 := NB455_457.out
              have hns24_1 := NB456_457.out
              have hms24_0 := NB457_455.out
              have hms24_1 := NB457_456.out
              refine skip_ (w1 := ?_) (by rfl) rfl ?_ ?_
              rotate_left
              · go_simp
                rfl
              refine hK.out _ _ ?_
              clear hK K
              refine done_ (done_of HT_.out (by kernel_rfl)) ?_
              go_wp2
              go_roundg k1
              case measure => have := HK1.out; omega
              case rel => exact ⟨(wrap64 (x4_1 + 1)), (y465), (.slice Ao23 y465.length co23), (by rfl), H', ⟨by have := HK1.out; omega⟩, ⟨by (with_reducible repeat (first | apply Kd.S_alloc | apply Kd.S_drewN | apply Kd.S_drew )); exact Kd.S_mono (Kd.S_far (p := ⟨gb457, 0, none⟩) (Kd.S_types HO467.out BK457.out (by decide)) (fun _ hk => hk.2) (.slice Ao23 y465.length co23)) (fun _ hk => trivial)⟩, ⟨by (with_reducible repeat (first | refine blk_drewN ?_ _ | refine blk_drew ?_ | refine blk_alloc ?_ _ )); refine blk_far ?_ NB455_457.out _; (with_reducible repeat (first | refine blk_drewN ?_ _ | refine blk_drew ?_ | refine blk_alloc ?_ _ )); exact BK455.out⟩, ⟨by (with_reducible repeat (first | refine blk_drewN ?_ _ | refine blk_drew ?_ | refine blk_alloc ?_ _ )); refine blk_far ?_ NB456_457.out _; (with_reducible repeat (first | refine blk_drewN ?_ _ | refine blk_drew ?_ | refine blk_alloc ?_ _ )); exact BK456.out⟩, ⟨by (with_reducible repeat (first | refine blk_drewN ?_ _ | refine blk_drew ?_ | refine blk_alloc ?_ _ )); refine blk_put (cs := #[u458000, .int .i64 a0_1]) ?_ 0 _ rfl; (with_reducible repeat (first | refine blk_drewN ?_ _ | refine blk_drew ?_ | refine blk_alloc ?_ _ )); exact BK457.out⟩, ⟨by repeat ((with_reducible first | exact HB.out | refine below_set ?_ GE457.out))⟩⟩
            · rw [if_neg c13] at H
              exact absurd H (by simp)
          · rw [if_neg c12] at H
            exact absurd H (by simp)
        · rw [if_neg c11] at H
          exact absurd H (by simp)
      · rw [if_neg c10] at H
        have c10b0 : decide (x4_1 < (l0_0.length : Int)) = false := decide_eq_false c10
        clear c10
        simp only [Option.some.injEq, Prod.mk.injEq] at H
        obtain ⟨rfl, rfl⟩ := H
        have hnb25 := NB455_456.out
        have hnc25 := NB456_455.out
        have hnb26 := NB455_457.out
        have hnc26 := NB457_455.out
        have hcz27_0 : wr.cell? ⟨gb455, 0, none⟩ = some (.slice A0_0 l0_0.length c0_0) := (blk_cell BK455.out 0).trans rfl
        have hcz27_1 : wr.cell? ⟨gb455, 1, none⟩ = some (.int .i64 a0_1) := (blk_cell BK455.out 1).trans rfl
        have hfz27_0 := blk_frozen BK455.out 0
        have hfz27_1 := blk_frozen BK455.out 1
        have hnb28 := NB457_456.out
        have hnc28 := NB456_457.out
        have hcz29_0 : wr.cell? ⟨gb457, 0, none⟩ = some (u458000) := (blk_cell BK457.out 0).trans rfl
        have hcz29_1 : wr.cell? ⟨gb457, 1, none⟩ = some (.int .i64 a0_1) := (blk_cell BK457.out 1).trans rfl
        have hfz29_0 := blk_frozen BK457.out 0
        have hfz29_1 := blk_frozen BK457.out 1
        obtain ⟨Ao30, co30, eo30⟩ := Kd.S_slice HO_458000.out
        subst eo30
        have hcz31_0 : wr.cell? ⟨gb456, 0, none⟩ = some (.slice none 0 0) := (blk_cell BK456.out 0).trans rfl
        have hcz31_1 : wr.cell? ⟨gb456, 1, none⟩ = some (.int .i64 0) := (blk_cell BK456.out 1).trans rfl
        have hfz31_0 := blk_frozen BK456.out 0
        have hfz31_1 := blk_frozen BK456.out 1
        go_wp2
        refine bodyPost_ret (results_cell_row rfl _ _ gb456 26 #[.slice Ao30 x458000_1.length co30, .int .i64 a0_1] (0, 0) _ rfl (by (with_reducible repeat (first | refine blk_drewN ?_ _ | refine blk_drew ?_ | refine blk_alloc ?_ _ )); refine blk_put (cs := #[.slice Ao30 x458000_1.length co30, .int .i64 0]) ?_ 1 _ rfl; (with_reducible repeat (first | refine blk_drewN ?_ _ | refine blk_drew ?_ | refine blk_alloc ?_ _ )); refine blk_put (cs := #[.slice none 0 0, .int .i64 0]) ?_ 0 _ rfl; (with_reducible repeat (first | refine blk_drewN ?_ _ | refine blk_drew ?_ | refine blk_alloc ?_ _ )); exact BK456.out) Try.underlying26 rfl (by kernel_rfl)) rfl ?_
        exact ⟨_, by rfl, by (with_reducible repeat (first | apply Kd.S_alloc | apply Kd.S_drewN | apply Kd.S_drew )); exact Kd.S_mono (Kd.S_far (p := ⟨gb456, 1, none⟩) (Kd.S_far (p := ⟨gb456, 0, none⟩) (Kd.S_types HO_458000.out BK456.out (by decide)) (fun _ hk => hk.2) (.slice Ao30 x458000_1.length co30)) (fun _ hk => hk.2) (.int .i64 a0_1)) (fun _ hk => trivial), by repeat ((with_reducible first | exact HB.out | refine below_set ?_ GE456.out))⟩

/-! ### spec_SketchBump: function 44 -/
mutual
def spec_SketchBump.l0 : Nat → ByteArray → Int → List (List Int) → Int → Option ((List (List Int)) × Int)
  | 0, _, _, _, _ => none
  | k + 1, x1, x6, x475000, x475001 => if x6 < (x475000.length : Int) then ((spec_SketchPlace.f k x6 x1).bind fun t476 => (if 0 ≤ x6 then (if 0 ≤ t476 then (if t476 < ((rd_L2 x475000 x6).length : Int) then (if (rd (rd_L2 x475000 x6) t476) < 15 then (spec_SketchBump.l0 k x1 (wrap64 (x6 + 1)) (x475000.set (x6 : Int).toNat ((rd_L2 x475000 x6).set (t476 : Int).toNat (wrap64 ((rd (rd_L2 x475000 x6) t476) + 1)))) x475001) else (spec_SketchBump.l0 k x1 (wrap64 (x6 + 1)) x475000 x475001)) else (none)) else (none)) else (none))) else (if (wrap64 (x475001 + 1)) = 64 then (spec_SketchBump.l1 k 0 x475000 0) else (some (x475000, wrap64 (x475001 + 1))))
def spec_SketchBump.l1 : Nat → Int → List (List Int) → Int → Option ((List (List Int)) × Int)
  | 0, _, _, _ => none
  | k + 1, x8, x475000, x475001 => if x8 < (x475000.length : Int) then (spec_SketchBump.l2 k x8 0 x475000 x475001) else (some (x475000, x475001))
def spec_SketchBump.l2 : Nat → Int → Int → List (List Int) → Int → Option ((List (List Int)) × Int)
  | 0, _, _, _, _ => none
  | k + 1, x8, x9, x475000, x475001 => if 0 ≤ x8 then (if x8 < (x475000.length : Int) then (if x9 < ((rd_L2 x475000 x8).length : Int) then (if 0 ≤ x9 then (spec_SketchBump.l2 k x8 (wrap64 (x9 + 1)) (x475000.set (x8 : Int).toNat ((rd_L2 x475000 x8).set (x9 : Int).toNat (wrap64 (Int.tdiv (rd (rd_L2 x475000 x8) x9) 2)))) x475001) else (none)) else (spec_SketchBump.l1 k (wrap64 (x8 + 1)) x475000 x475001)) else (none)) else (none)
end
def spec_SketchBump.f (k : Nat) (l0_0 : List (List Int)) (a0_1 : Int) (a1 : ByteArray) : Option ((List (List Int)) × Int) := (spec_l12Copy.f k l0_0 a0_1).bind fun bt470 => ((spec_SketchOk.f k l0_0 a0_1).bind fun t475 => (if t475 = true then (spec_SketchBump.l0 k a1 0 bt470.1 bt470.2) else (some (bt470.1, bt470.2))))
theorem spec_SketchBump.mono_l : ∀ k, (∀ y0 y1 y2 y3, LeO (spec_SketchBump.l0 k y0 y1 y2 y3) (spec_SketchBump.l0 (k + 1) y0 y1 y2 y3)) ∧ (∀ y0 y1 y2, LeO (spec_SketchBump.l1 k y0 y1 y2) (spec_SketchBump.l1 (k + 1) y0 y1 y2)) ∧ (∀ y0 y1 y2 y3, LeO (spec_SketchBump.l2 k y0 y1 y2 y3) (spec_SketchBump.l2 (k + 1) y0 y1 y2 y3))
  | 0 => ⟨fun _ _ _ _ r h => by simp [spec_SketchBump.l0] at h, fun _ _ _ r h => by simp [spec_SketchBump.l1] at h, fun _ _ _ _ r h => by simp [spec_SketchBump.l2] at h⟩
  | k + 1 => by
    obtain ⟨ih0, ih1, ih2⟩ := spec_SketchBump.mono_l k
    refine ⟨?_, ?_, ?_⟩
    · intro y0 y1 y2 y3
      unfold spec_SketchBump.l0
      repeat' first | (with_reducible exact ih0 _ _ _ _) | (with_reducible exact ih1 _ _ _) | (with_reducible exact spec_SketchPlace.mono _ _ _) | (with_reducible exact LeO.refl _) | (with_reducible refine LeO.ite ?_ ?_) | (with_reducible refine LeO.bind ?_ (fun _ => ?_))
    · intro y0 y1 y2
      unfold spec_SketchBump.l1
      repeat' first | (with_reducible exact ih2 _ _ _ _) | (with_reducible exact LeO.refl _) | (with_reducible refine LeO.ite ?_ ?_)
    · intro y0 y1 y2 y3
      unfold spec_SketchBump.l2
      repeat' first | (with_reducible exact ih1 _ _ _) | (with_reducible exact ih2 _ _ _ _) | (with_reducible exact LeO.refl _) | (with_reducible refine LeO.ite ?_ ?_)
theorem spec_SketchBump.mono : ∀ a0 a1 a2 k, LeO (spec_SketchBump.f k a0 a1 a2) (spec_SketchBump.f (k + 1) a0 a1 a2) := by
  intro a0 a1 a2 k
  obtain ⟨ih0, ih1, ih2⟩ := spec_SketchBump.mono_l k
  unfold spec_SketchBump.f
  repeat' first | (with_reducible exact ih0 _ _ _ _) | (with_reducible exact spec_SketchOk.mono _ _ _) | (with_reducible exact spec_l12Copy.mono _ _ _) | (with_reducible exact LeO.refl _) | (with_reducible refine LeO.ite ?_ ?_) | (with_reducible refine LeO.bind ?_ (fun _ => ?_))
def spec_SketchBump.T19 : Bool × List (List Nat × List Nat) := (true, [([], []), ([0], [0]), ([], []), ([1, 2], [1, 2]), ([3], [3]), ([], []), ([], []), ([6], [6]), ([], []), ([7, 8], [7, 8]), ([9], [9]), ([], []), ([10, 11], [10, 11]), ([12], [12]), ([13], [13]), ([4, 5, 0, 1, 2, 3, 4, 5, 6, 7, 8, 9, 10, 11, 12, 13, 14], [4, 5]), ([15, 14, 0, 1, 2, 3, 4, 5, 6, 7, 8, 9, 10, 11, 12, 13, 14], [14, 15])])
def spec_SketchBump.B19 : List Nat := [0, 1, 0, 7, 15, 0, 0, 64, 0, 448, 960, 0, 4032, 8128, 16320, 32767, 65535]
theorem spec_SketchBump.tab19 : rtab .any (opsOf Try.f44 19) = spec_SketchBump.T19 := by kernel_rfl
theorem spec_SketchBump.bits19 : waitsOk spec_SketchBump.T19.2 spec_SketchBump.B19 = true := by kernel_rfl
set_option maxHeartbeats 8000000 in
set_option maxRecDepth 100000 in
theorem spec_SketchBump.calls (k : Nat) (A0_0 : Option Addr) (c0_0 : Nat) (l0_0 : List (List Int)) (a0_1 : Int) (a1 : ByteArray) (r1 : List (List Int)) (r2 : Int) (w : World) (hr0_0 : Kd.C (Kd.slice 3 (Kd.int .i64)) w A0_0 l0_0.length l0_0) (hc0_0 : l0_0.length ≤ c0_0) (h : spec_SketchBump.f k l0_0 a0_1 a1 = some (r1, r2)) :
    Calls Try.prog 44 #[.agg #[.slice A0_0 l0_0.length c0_0, .int .i64 a0_1], .string a1] w fun e w' => ∃ v0_ : Value, e = .returned (.agg #[v0_, .int .i64 r2]) ∧ Kd.S (Kd.slice 3 (Kd.int .i64)) 58 w' w.heap.size (fun _ => True) v0_ r1 ∧ Below w.heap.size w w' := by
  have hu26 := Try.underlying26
  have HR0_0 := Aside0.mk hr0_0
  have HC0_0 := Aside0.mk hc0_0
  clear hr0_0 hc0_0
  have HB := Aside0.mk (Below.refl w.heap.size w)
  have H : ((spec_l12Copy.f k l0_0 a0_1).bind fun bt470 => ((spec_SketchOk.f k l0_0 a0_1).bind fun t475 => (if t475 = true then (spec_SketchBump.l0 k a1 0 bt470.1 bt470.2) else (some (bt470.1, bt470.2))))) = some (r1, r2) := h
  clear h
  replace H := Option.bind_eq_some_iff.mp H
  obtain ⟨⟨t470, t473⟩, A30, H⟩ := H
  replace H : ((spec_SketchOk.f k l0_0 a0_1).bind fun t475 => (if t475 = true then (spec_SketchBump.l0 k a1 0 t470 t473) else (some (t470, t473)))) = some (r1, r2) := H
  have A3 := Aside0.mk A30
  clear A30
  replace H := Option.bind_eq_some_iff.mp H
  obtain ⟨t475, A40, H⟩ := H
  replace H : (if t475 = true then (spec_SketchBump.l0 k a1 0 t470 t473) else (some (t470, t473))) = some (r1, r2) := H
  have A4 := Aside0.mk A40
  clear A40
  have HS5 := Aside0.mk H
  clear H
  go_enter Try.func44, Try.ntmps44
  go_upto_if 14 with (first | ((with_reducible refine gate_dst (N := 2) rfl ?_); refine box_event ?hg (N := 2) ?hd (cs := #[.slice A0_0 l0_0.length c0_0, .int .i64 a0_1]) (t := 26) ?hr ?_; (case hd => rfl); (case hg => rfl); (case hr => (go_simp; done)); intro gb468 hg w6 hbox hb; have n0_ := Aside0.mk (below_step (by repeat ((with_reducible exact HB.out))) hb); have n1_ := Aside0.mk (hbox); have n2_ := Aside0.mk ((by rw [hg]; exact (below_size (by repeat ((with_reducible exact HB.out)))) : w.heap.size ≤ gb468)); have n3_ := Aside0.mk ((by rw [hg]; exact (below_size (by repeat ((with_reducible exact HB.out)))) : w.heap.size ≤ gb468)); clear HB; have HB := n0_; have BK468 := n1_; have GW468 := n2_; have GE468 := n3_; clear n0_ n1_ n2_ n3_; clear hb hbox hg) | ((with_reducible refine gate_dst (N := 4) rfl ?_); refine box_event ?hg (N := 4) ?hd (cs := #[.slice none 0 0, .int .i64 0]) (t := 26) ?hr ?_; (case hd => rfl); (case hg => rfl); (case hr => (go_simp; done)); intro gb469 hg w7 hbox hb; have n0_ := Aside0.mk (blk_below (g := gb468) (o := .cells #[.slice A0_0 l0_0.length c0_0, .int .i64 a0_1] 26 (0, 0)) (by (with_reducible repeat (first | refine blk_drewN ?_ _ | refine blk_drew ?_ | refine blk_alloc ?_ _ )); exact BK468.out) hb); have n1_ := Aside0.mk (below_step (by repeat ((with_reducible exact HB.out))) hb); have n2_ := Aside0.mk (hbox); have n3_ := Aside0.mk ((by rw [hg]; exact (below_size (by repeat ((with_reducible exact HB.out)))) : w.heap.size ≤ gb469)); have n4_ := Aside0.mk ((by rw [hg]; exact (below_size (by repeat ((with_reducible exact HB.out)))) : w.heap.size ≤ gb469)); have n5_ := Aside0.mk ((by rw [hg]; exact Nat.ne_of_lt (blk_lt (g := gb468) (o := .cells #[.slice A0_0 l0_0.length c0_0, .int .i64 a0_1] 26 (0, 0)) (by (with_reducible repeat (first | refine blk_drewN ?_ _ | refine blk_drew ?_ | refine blk_alloc ?_ _ )); exact BK468.out)) : gb468 ≠ gb469)); have n6_ := Aside0.mk ((by rw [hg]; exact Nat.ne_of_gt (blk_lt (g := gb468) (o := .cells #[.slice A0_0 l0_0.length c0_0, .int .i64 a0_1] 26 (0, 0)) (by (with_reducible repeat (first | refine blk_drewN ?_ _ | refine blk_drew ?_ | refine blk_alloc ?_ _ )); exact BK468.out)) : gb469 ≠ gb468)); clear BK468; clear HB; have BK468 := n0_; have HB := n1_; have BK469 := n2_; have GW469 := n3_; have GE469 := n4_; have NB468_469 := n5_; have NB469_468 := n6_; clear n0_ n1_ n2_ n3_ n4_ n5_ n6_; clear hb hbox hg; have hnb8 := NB468_469.out; have hnc8 := NB469_468.out; have hcz9_0 : w7.cell? ⟨gb468, 0, none⟩ = some (.slice A0_0 l0_0.length c0_0) := (blk_cell BK468.out 0).trans rfl; have hcz9_1 : w7.cell? ⟨gb468, 1, none⟩ = some (.int .i64 a0_1) := (blk_cell BK468.out 1).trans rfl; have hfz9_0 := blk_frozen BK468.out 0; have hfz9_1 := blk_frozen BK468.out 1) | ((with_reducible refine gate_callee (f := 82) rfl ?_); refine goesL_ (some 11) rfl rfl Try.func82 (by kernel_rfl) rfl #[.agg #[.slice A0_0 l0_0.length c0_0, .int .i64 a0_1]] rfl (by (try simp only [List.map_toArray, List.map_cons, List.map_nil]); rfl) ?_; (with_reducible refine (spec_l12Copy.calls k _ _ l0_0 a0_1 t470 t473 _ ?side1 ?side2 A3.out).mono ?_); (case side1 => repeat (exact (Kd.C_below HR0_0.out HB.out))); (case side2 => exact HC0_0.out); rintro e w10 ⟨v471, rfl, ho0, hb⟩; refine ⟨_, rfl, ?_⟩; have n0_ := Aside0.mk (Kd.S_lower ho0 (below_size (by repeat ((with_reducible exact HB.out))))); have n1_ := Aside0.mk (blk_below (g := gb468) (o := .cells #[.slice A0_0 l0_0.length c0_0, .int .i64 a0_1] 26 (0, 0)) (by (with_reducible repeat (first | refine blk_drewN ?_ _ | refine blk_drew ?_ | refine blk_alloc ?_ _ )); exact BK468.out) hb); have n2_ := Aside0.mk (blk_below (g := gb469) (o := .cells #[.slice none 0 0, .int .i64 0] 26 (0, 0)) (by (with_reducible repeat (first | refine blk_drewN ?_ _ | refine blk_drew ?_ | refine blk_alloc ?_ _ )); exact BK469.out) hb); have n3_ := Aside0.mk (below_step (by repeat ((with_reducible exact HB.out))) hb); clear BK468; clear BK469; clear HB; have HO472 := n0_; have BK468 := n1_; have BK469 := n2_; have HB := n3_; clear n0_ n1_ n2_ n3_; (try clear hb); (try clear hb2); (try clear hk); (try clear hi); (try clear ho0)) | ((with_reducible refine gate_dst (N := 5) rfl ?_); refine box_event ?hg (N := 5) ?hd (cs := #[.slice none 0 0, .int .i64 0]) (t := 26) ?hr ?_; (case hd => rfl); (case hg => rfl); (case hr => (go_simp; done)); intro gb474 hg w11 hbox hb; have n0_ := Aside0.mk (Kd.S_below (by (with_reducible repeat (first | apply Kd.S_alloc | apply Kd.S_drewN | apply Kd.S_drew )); exact HO472.out) hb); have n1_ := Aside0.mk (blk_below (g := gb468) (o := .cells #[.slice A0_0 l0_0.length c0_0, .int .i64 a0_1] 26 (0, 0)) (by (with_reducible repeat (first | refine blk_drewN ?_ _ | refine blk_drew ?_ | refine blk_alloc ?_ _ )); exact BK468.out) hb); have n2_ := Aside0.mk (blk_below (g := gb469) (o := .cells #[.slice none 0 0, .int .i64 0] 26 (0, 0)) (by (with_reducible repeat (first | refine blk_drewN ?_ _ | refine blk_drew ?_ | refine blk_alloc ?_ _ )); exact BK469.out) hb); have n3_ := Aside0.mk (below_step (by repeat ((with_reducible exact HB.out))) hb); have n4_ := Aside0.mk (hbox); have n5_ := Aside0.mk ((by rw [hg]; exact (below_size (by repeat ((with_reducible exact HB.out)))) : w.heap.size ≤ gb474)); have n6_ := Aside0.mk ((by rw [hg]; exact (below_size (by repeat ((with_reducible exact HB.out)))) : w.heap.size ≤ gb474)); have n7_ := Aside0.mk ((by rw [hg]; exact Nat.ne_of_lt (blk_lt (g := gb468) (o := .cells #[.slice A0_0 l0_0.length c0_0, .int .i64 a0_1] 26 (0, 0)) (by (with_reducible repeat (first | refine blk_drewN ?_ _ | refine blk_drew ?_ | refine blk_alloc ?_ _ )); exact BK468.out)) : gb468 ≠ gb474)); have n8_ := Aside0.mk ((by rw [hg]; exact Nat.ne_of_gt (blk_lt (g := gb468) (o := .cells #[.slice A0_0 l0_0.length c0_0, .int .i64 a0_1] 26 (0, 0)) (by (with_reducible repeat (first | refine blk_drewN ?_ _ | refine blk_drew ?_ | refine blk_alloc ?_ _ )); exact BK468.out)) : gb474 ≠ gb468)); have n9_ := Aside0.mk ((by rw [hg]; exact Nat.ne_of_lt (blk_lt (g := gb469) (o := .cells #[.slice none 0 0, .int .i64 0] 26 (0, 0)) (by (with_reducible repeat (first | refine blk_drewN ?_ _ | refine blk_drew ?_ | refine blk_alloc ?_ _ )); exact BK469.out)) : gb469 ≠ gb474)); have n10_ := Aside0.mk ((by rw [hg]; exact Nat.ne_of_gt (blk_lt (g := gb469) (o := .cells #[.slice none 0 0, .int .i64 0] 26 (0, 0)) (by (with_reducible repeat (first | refine blk_drewN ?_ _ | refine blk_drew ?_ | refine blk_alloc ?_ _ )); exact BK469.out)) : gb474 ≠ gb469)); clear HO472; clear BK468; clear BK469; clear HB; have HO472 := n0_; have BK468 := n1_; have BK469 := n2_; have HB := n3_; have BK474 := n4_; have GW474 := n5_; have GE474 := n6_; have NB468_474 := n7_; have NB474_468 := n8_; have NB469_474 := n9_; have NB474_469 := n10_; clear n0_ n1_ n2_ n3_ n4_ n5_ n6_ n7_ n8_ n9_ n10_; clear hb hbox hg; obtain ⟨Ao12, co12, eo12⟩ := Kd.S_slice HO472.out; subst eo12; have hnb13 := NB474_468.out; have hnc13 := NB468_474.out; have hnb14 := NB474_469.out; have hnc14 := NB469_474.out; have hcz15_0 : w11.cell? ⟨gb474, 0, none⟩ = some (.slice none 0 0) := (blk_cell BK474.out 0).trans rfl; have hcz15_1 : w11.cell? ⟨gb474, 1, none⟩ = some (.int .i64 0) := (blk_cell BK474.out 1).trans rfl; have hfz15_0 := blk_frozen BK474.out 0; have hfz15_1 := blk_frozen BK474.out 1; have hcz16_0 : w11.cell? ⟨gb468, 0, none⟩ = some (.slice A0_0 l0_0.length c0_0) := (blk_cell BK468.out 0).trans rfl; have hcz16_1 : w11.cell? ⟨gb468, 1, none⟩ = some (.int .i64 a0_1) := (blk_cell BK468.out 1).trans rfl; have hfz16_0 := blk_frozen BK468.out 0; have hfz16_1 := blk_frozen BK468.out 1) | ((with_reducible refine gate_callee (f := 25) rfl ?_); refine goesL_ (some 13) rfl rfl Try.func25 (by kernel_rfl) rfl #[.agg #[.slice A0_0 l0_0.length c0_0, .int .i64 a0_1]] rfl (by (try simp only [List.map_toArray, List.map_cons, List.map_nil]); rfl) ?_; (with_reducible refine (spec_SketchOk.calls k _ _ l0_0 a0_1 t475 _ ?side1 ?side2 A4.out).mono ?_); (case side1 => exact Kd.C_below HR0_0.out (by repeat ((with_reducible first | exact HB.out | refine below_set ?_ GE474.out)))); (case side2 => exact HC0_0.out); rintro e w17 ⟨rfl, hb⟩; refine ⟨_, rfl, ?_⟩; have n0_ := Aside0.mk (Kd.S_below (by (with_reducible repeat (first | apply Kd.S_alloc | apply Kd.S_drewN | apply Kd.S_drew )); exact (Kd.S_mono (Kd.S_far (p := ⟨gb474, 1, none⟩) (Kd.S_far (p := ⟨gb474, 0, none⟩) (Kd.S_types HO472.out BK474.out (by decide)) (fun _ hk => hk.2) (.slice Ao12 t470.length co12)) (fun _ hk => hk.2) (.int .i64 t473)) (fun _ h_ => by exact h_.1))) hb); have n1_ := Aside0.mk (blk_below (g := gb468) (o := .cells #[.slice A0_0 l0_0.length c0_0, .int .i64 a0_1] 26 (0, 0)) (by (with_reducible repeat (first | refine blk_drewN ?_ _ | refine blk_drew ?_ | refine blk_alloc ?_ _ )); refine blk_far ?_ NB468_474.out _; (with_reducible repeat (first | refine blk_drewN ?_ _ | refine blk_drew ?_ | refine blk_alloc ?_ _ )); refine blk_far ?_ NB468_474.out _; (with_reducible repeat (first | refine blk_drewN ?_ _ | refine blk_drew ?_ | refine blk_alloc ?_ _ )); exact BK468.out) hb); have n2_ := Aside0.mk (blk_below (g := gb469) (o := .cells #[.slice none 0 0, .int .i64 0] 26 (0, 0)) (by (with_reducible repeat (first | refine blk_drewN ?_ _ | refine blk_drew ?_ | refine blk_alloc ?_ _ )); refine blk_far ?_ NB469_474.out _; (with_reducible repeat (first | refine blk_drewN ?_ _ | refine blk_drew ?_ | refine blk_alloc ?_ _ )); refine blk_far ?_ NB469_474.out _; (with_reducible repeat (first | refine blk_drewN ?_ _ | refine blk_drew ?_ | refine blk_alloc ?_ _ )); exact BK469.out) hb); have n3_ := Aside0.mk (blk_below (g := gb474) (o := .cells #[.slice Ao12 t470.length co12, .int .i64 t473] 26 (0, 0)) (by (with_reducible repeat (first | refine blk_drewN ?_ _ | refine blk_drew ?_ | refine blk_alloc ?_ _ )); refine blk_put (cs := #[.slice Ao12 t470.length co12, .int .i64 0]) ?_ 1 _ rfl; (with_reducible repeat (first | refine blk_drewN ?_ _ | refine blk_drew ?_ | refine blk_alloc ?_ _ )); refine blk_put (cs := #[.slice none 0 0, .int .i64 0]) ?_ 0 _ rfl; (with_reducible repeat (first | refine blk_drewN ?_ _ | refine blk_drew ?_ | refine blk_alloc ?_ _ )); exact BK474.out) hb); have n4_ := Aside0.mk (below_step (by repeat ((with_reducible first | exact HB.out | refine below_set ?_ GE474.out))) hb); clear HO472; clear BK468; clear BK469; clear BK474; clear HB; have HO472 := n0_; have BK468 := n1_; have BK469 := n2_; have BK474 := n3_; have HB := n4_; clear n0_ n1_ n2_ n3_ n4_; (try clear hb); (try clear hb2); (try clear hk); (try clear hi)))
  (try simp only [Act.put, List.setIfInBounds_toArray, List.set_cons_zero, List.set_cons_succ])
  have H := HS5.out
  clear HS5
  by_cases c18 : t475 = true
  · subst c18
    have H1 : (spec_SketchBump.l0 k a1 0 t470 t473) = some (r1, r2) := by rw [if_pos rfl] at H; exact H
    clear H
    have H := H1
    clear H1
    have H' := Aside0.mk H
    clear H
    go_wp2
    go_loopg [6] k (fun kq v6 w' => ∃ (x6_1 : Int) (x475000_1 : List (List Int)) (u475000 : Value), v6 = .int .i64 x6_1 ∧ Aside0 (spec_SketchBump.l0 kq a1 x6_1 x475000_1 t473 = some (r1, r2)) ∧ Aside0 (kq ≤ k) ∧ Aside0 (Kd.S (Kd.slice 3 (Kd.int .i64)) 58 w' w.heap.size (fun _ => True) u475000 x475000_1) ∧ Aside0 (w'.heap[gb468]? = some (.cells #[(.slice A0_0 l0_0.length c0_0), .int .i64 a0_1] 26 (0, 0))) ∧ Aside0 (w'.heap[gb469]? = some (.cells #[(.slice none 0 0), .int .i64 0] 26 (0, 0))) ∧ Aside0 (w'.heap[gb474]? = some (.cells #[u475000, .int .i64 t473] 26 (0, 0))) ∧ Aside0 (Below w.heap.size w w'))
    case atStart => exact ⟨(0), (t470), (.slice Ao12 t470.length co12), (by rfl), H', ⟨Nat.le_refl _⟩, ⟨by (with_reducible repeat (first | apply Kd.S_alloc | apply Kd.S_drewN | apply Kd.S_drew )); exact HO472.out⟩, ⟨by (with_reducible repeat (first | refine blk_drewN ?_ _ | refine blk_drew ?_ | refine blk_alloc ?_ _ )); exact BK468.out⟩, ⟨by (with_reducible repeat (first | refine blk_drewN ?_ _ | refine blk_drew ?_ | refine blk_alloc ?_ _ )); exact BK469.out⟩, ⟨by (with_reducible repeat (first | refine blk_drewN ?_ _ | refine blk_drew ?_ | refine blk_alloc ?_ _ )); exact BK474.out⟩, ⟨by repeat ((with_reducible exact HB.out))⟩⟩
    case round =>
      clear H'
      clear hcz15_0
      clear hcz15_1
      clear hcz16_0
      clear hcz16_1
      clear hcz9_0
      clear hcz9_1
      clear hfz15_0
      clear hfz15_1
      clear hfz16_0
      clear hfz16_1
      clear hfz9_0
      clear hfz9_1
      obtain ⟨x6_1, x475000_1, u475000, rfl, HA, HK1, HO_475000, BK468, BK469, BK474, HB⟩ := hrel
      cases gk with
      | zero => exact absurd HA.out (by simp [spec_SketchBump.l0])
      | succ k1 =>
        have H := HA.out
        clear HA
        simp only [spec_SketchBump.l0] at H
        by_cases c19 : x6_1 < (x475000_1.length : Int)
        · rw [if_pos c19] at H
          have c19b0 : decide (x6_1 < (x475000_1.length : Int)) = true := decide_eq_true c19
          clear c19
          (skip)
          replace H := Option.bind_eq_some_iff.mp H
          obtain ⟨t476, A200, H⟩ := H
          replace H : (if 0 ≤ x6_1 then (if 0 ≤ t476 then (if t476 < ((rd_L2 x475000_1 x6_1).length : Int) then (if (rd (rd_L2 x475000_1 x6_1) t476) < 15 then (spec_SketchBump.l0 k1 a1 (wrap64 (x6_1 + 1)) (x475000_1.set (x6_1 : Int).toNat ((rd_L2 x475000_1 x6_1).set (t476 : Int).toNat (wrap64 ((rd (rd_L2 x475000_1 x6_1) t476) + 1)))) t473) else (spec_SketchBump.l0 k1 a1 (wrap64 (x6_1 + 1)) x475000_1 t473)) else (none)) else (none)) else (none)) = some (r1, r2) := H
          have A20 := Aside0.mk A200
          clear A200
          by_cases c21 : 0 ≤ x6_1
          · rw [if_pos c21] at H
            have c21b0 : decide (0 ≤ x6_1) = true := decide_eq_true c21
            clear c21
            by_cases c22 : 0 ≤ t476
            · rw [if_pos c22] at H
              have c22b0 : decide (0 ≤ t476) = true := decide_eq_true c22
              clear c22
              by_cases c23 : t476 < ((rd_L2 x475000_1 x6_1).length : Int)
              · rw [if_pos c23] at H
                have c23b0 : decide (t476 < ((rd_L2 x475000_1 x6_1).length : Int)) = true := decide_eq_true c23
                clear c23
                have HS24 := Aside0.mk H
                clear H
                have hnb25 := NB474_468.out
                have hnc25 := NB468_474.out
                have hnb26 := NB474_469.out
                have hnc26 := NB469_474.out
                have hcz27_0 : wr.cell? ⟨gb474, 0, none⟩ = some (u475000) := (blk_cell BK474.out 0).trans rfl
                have hcz27_1 : wr.cell? ⟨gb474, 1, none⟩ = some (.int .i64 t473) := (blk_cell BK474.out 1).trans rfl
                have hfz27_0 := blk_frozen BK474.out 0
                have hfz27_1 := blk_frozen BK474.out 1
                obtain ⟨Ao28, co28, eo28⟩ := Kd.S_slice HO_475000.out
                subst eo28
                go_upto_if 34 with (((with_reducible refine gate_callee (f := 17) rfl ?_); refine goesL_ (some 25) rfl rfl Try.func17 (by kernel_rfl) rfl #[.int .i64 x6_1, .string a1] rfl (by (try simp only [List.map_toArray, List.map_cons, List.map_nil]); rfl) ?_; (with_reducible refine (spec_SketchPlace.calls k1 x6_1 a1 t476 _ A20.out).mono ?_); rintro e w29 ⟨rfl, hb⟩; refine ⟨_, rfl, ?_⟩; have n0_ := Aside0.mk (Kd.S_below (by (with_reducible repeat (first | apply Kd.S_alloc | apply Kd.S_drewN | apply Kd.S_drew )); exact HO_475000.out) hb); have n1_ := Aside0.mk (blk_below (g := gb468) (o := .cells #[.slice A0_0 l0_0.length c0_0, .int .i64 a0_1] 26 (0, 0)) (by (with_reducible repeat (first | refine blk_drewN ?_ _ | refine blk_drew ?_ | refine blk_alloc ?_ _ )); exact BK468.out) hb); have n2_ := Aside0.mk (blk_below (g := gb469) (o := .cells #[.slice none 0 0, .int .i64 0] 26 (0, 0)) (by (with_reducible repeat (first | refine blk_drewN ?_ _ | refine blk_drew ?_ | refine blk_alloc ?_ _ )); exact BK469.out) hb); have n3_ := Aside0.mk (blk_below (g := gb474) (o := .cells #[.slice Ao28 x475000_1.length co28, .int .i64 t473] 26 (0, 0)) (by (with_reducible repeat (first | refine blk_drewN ?_ _ | refine blk_drew ?_ | refine blk_alloc ?_ _ )); exact BK474.out) hb); have n4_ := Aside0.mk (below_step (by repeat ((with_reducible exact HB.out))) hb); clear HO_475000; clear BK468; clear BK469; clear BK474; clear HB; have HO_475000 := n0_; have BK468 := n1_; have BK469 := n2_; have BK474 := n3_; have HB := n4_; clear n0_ n1_ n2_ n3_ n4_; (try clear hb); (try clear hb2); (try clear hk); (try clear hi); have hcz30_0 : w29.cell? ⟨gb474, 0, none⟩ = some (.slice Ao28 x475000_1.length co28) := (blk_cell BK474.out 0).trans rfl; have hcz30_1 : w29.cell? ⟨gb474, 1, none⟩ = some (.int .i64 t473) := (blk_cell BK474.out 1).trans rfl; have hfz30_0 := blk_frozen BK474.out 0; have hfz30_1 := blk_frozen BK474.out 1; have p477 : 0 ≤ (x6_1 : Int) := of_decide_eq_true (by (with_reducible assumption)); have q477 : x6_1 < (x475000_1.length : Int) := of_decide_eq_true (by (with_reducible assumption)); obtain ⟨ad477, A477_0, c477_0, e477, hx477_0, hl477_0, hi477_0⟩ := at_L2 (Kd.S_reads' HO_475000.out).2.2 x6_1 p477 q477; cases e477; obtain ⟨ce477, hce477, hMe477, hcc477⟩ := Kd.S_get HO_475000.out [] x6_1 p477 (by exact q477); obtain ⟨ve477_0, rfl, ge477_0⟩ := hMe477; have hv477_0 := hcc477 0 _ rfl; rw [Nat.add_zero, show ((Kd.slice 3 (Kd.int .i64))).sz = 1 from rfl, Nat.mul_one] at hv477_0; replace hv477_0 := Option.some.inj (hv477_0.symm.trans hx477_0); rw [hv477_0] at ge477_0; have HL477_0 := Aside0.mk (show Kd.R (Kd.int .i64) 3 _ _ _ _ (rd_L2 x475000_1 x6_1) from ge477_0); clear hv477_0 ge477_0; have HX477_0 := Aside0.mk hx477_0; clear hcc477 hce477; have HR477_0 := Aside0.mk hi477_0; have HC477_0 := Aside0.mk hl477_0; clear hi477_0 hl477_0; replace p477 := eq_true p477; replace q477 := eq_true q477; have p478 : 0 ≤ (t476 : Int) := of_decide_eq_true (by (with_reducible assumption)); have q478 : t476 < ((rd_L2 x475000_1 x6_1).length : Int) := of_decide_eq_true (by (with_reducible assumption)); obtain ⟨ad478, e478, hx478_0⟩ := Kd.at_int (by repeat ((with_reducible exact HR477_0.out))) t476 p478 q478; cases e478; replace p478 := eq_true p478; replace q478 := eq_true q478))
                (try simp only [Act.put, List.setIfInBounds_toArray, List.set_cons_zero, List.set_cons_succ])
                have H := HS24.out
                clear HS24
                by_cases c31 : (rd (rd_L2 x475000_1 x6_1) t476) < 15
                · rw [if_pos c31] at H
                  have c31b0 : decide ((rd (rd_L2 x475000_1 x6_1) t476) < 15) = true := decide_eq_true c31
                  clear c31
                  (rw [c31b0])
                  obtain ⟨y481, hy481⟩ : ∃ y_ : List Int, y_ = ((rd_L2 x475000_1 x6_1).set (t476 : Int).toNat (wrap64 ((rd (rd_L2 x475000_1 x6_1) t476) + 1))) := ⟨_, rfl⟩
                  replace H : (spec_SketchBump.l0 k1 a1 (wrap64 (x6_1 + 1)) (x475000_1.set (x6_1 : Int).toNat y481) t473) = some (r1, r2) := by (rw [hy481]; with_reducible exact H)
                  have Ny481 := Aside0.mk hy481
                  clear hy481
                  obtain ⟨y483, hy483⟩ : ∃ y_ : List (List Int), y_ = (x475000_1.set (x6_1 : Int).toNat y481) := ⟨_, rfl⟩
                  replace H : (spec_SketchBump.l0 k1 a1 (wrap64 (x6_1 + 1)) y483 t473) = some (r1, r2) := by (rw [hy483]; with_reducible exact H)
                  have Ny483 := Aside0.mk hy483
                  clear hy483
                  have H' := Aside0.mk H
                  clear H
                  have hnb33 := NB474_468.out
                  have hnc33 := NB468_474.out
                  have hnb34 := NB474_469.out
                  have hnc34 := NB469_474.out
                  have hcz35_0 : w29.cell? ⟨gb474, 0, none⟩ = some (.slice (some ad477) x475000_1.length co28) := (blk_cell BK474.out 0).trans rfl
                  have hcz35_1 : w29.cell? ⟨gb474, 1, none⟩ = some (.int .i64 t473) := (blk_cell BK474.out 1).trans rfl
                  have hfz35_0 := blk_frozen BK474.out 0
                  have hfz35_1 := blk_frozen BK474.out 1
                  (try clear hx477_0)
                  have p479 : 0 ≤ (x6_1 : Int) := of_decide_eq_true (by (with_reducible assumption))
                  have q479 : x6_1 < (x475000_1.length : Int) := of_decide_eq_true (by (with_reducible assumption))
                  obtain ⟨ad479, A479_0, c479_0, e479, hx479_0, hl479_0, hi479_0⟩ := at_L2 (Kd.S_reads' HO_475000.out).2.2 x6_1 p479 q479
                  obtain rfl : ad477 = ad479 := (by injection e479)
                  obtain ⟨ce479, hce479, hMe479, hcc479⟩ := Kd.S_get HO_475000.out [] x6_1 p479 (by exact q479)
                  obtain ⟨ve479_0, rfl, ge479_0⟩ := hMe479
                  have hv479_0 := hcc479 0 _ rfl
                  rw [Nat.add_zero, show ((Kd.slice 3 (Kd.int .i64))).sz = 1 from rfl, Nat.mul_one] at hv479_0
                  replace hv479_0 := Option.some.inj (hv479_0.symm.trans hx479_0)
                  rw [hv479_0] at ge479_0
                  have HL479_0 := Aside0.mk (show Kd.R (Kd.int .i64) 3 _ _ _ _ (rd_L2 x475000_1 x6_1) from ge479_0)
                  clear hv479_0 ge479_0
                  have HX479_0 := Aside0.mk hx479_0
                  clear hcc479 hce479
                  have HR479_0 := Aside0.mk hi479_0
                  have HC479_0 := Aside0.mk hl479_0
                  clear hi479_0 hl479_0
                  replace p479 := eq_true p479
                  replace q479 := eq_true q479
                  have p480 : 0 ≤ (t476 : Int) := of_decide_eq_true (by (with_reducible assumption))
                  have q480 : t476 < ((rd_L2 x475000_1 x6_1).length : Int) := of_decide_eq_true (by (with_reducible assumption))
                  obtain ⟨ad480, e480, hx480_0⟩ := Kd.at_int (by repeat ((with_reducible exact HR479_0.out))) t476 p480 q480
                  cases e480
                  replace p480 := eq_true p480
                  replace q480 := eq_true q480
                  have p32 : 0 ≤ (t476 : Int) := of_decide_eq_true (by (with_reducible assumption))
                  have q32 : (t476 : Int) < (((rd_L2 x475000_1 x6_1).length : Int) : Int) := of_decide_eq_true (by (with_reducible assumption))
                  obtain ⟨go32, co32, eo32, gb32, gl32, cl32, HG32⟩ := Kd.R_form HL479_0.out (by omega)
                  (cases eo32)
                  have GB32 := Aside0.mk gb32
                  have GG32 := Aside0.mk HG32
                  clear gb32 gl32 HG32
                  (simp only [add_plain] at hx480_0)
                  obtain ⟨hx32_0, hf32_0⟩ := Kd.R_celln 0 HL479_0.out (t476 : Int) p32 q32
                  replace p32 := eq_true p32
                  replace q32 := eq_true q32
                  have hq36 : (x6_1 : Int) < (x475000_1.length : Int) := (by have h_ : (x6_1 : Int) < ((x475000_1.length : Int) : Int) := of_decide_eq_true (by (with_reducible assumption)); exact h_)
                  obtain ⟨oki36, ce36, hcl36, hM36, hcc36, hok36, hbk36⟩ := Kd.S_borrow HO_475000.out [] (x6_1 : Int) (of_decide_eq_true (by (with_reducible assumption))) hq36
                  obtain ⟨ve36_0, rfl, ge36_0⟩ := hM36
                  have hv36 := hcc36 0 _ rfl
                  rw [Nat.add_zero, show ((Kd.slice 3 (Kd.int .i64))).sz = 1 from rfl, Nat.mul_one] at hv36
                  replace hv36 := Option.some.inj (hv36.symm.trans HX479_0.out)
                  subst hv36
                  clear hcc36 hcl36
                  replace ge36_0 := (show Kd.R (Kd.int .i64) 3 _ _ _ _ (rd_L2 x475000_1 x6_1) from ge36_0)
                  have HP36 := Kd.R_putg ge36_0 (t476 : Int) (wrap64 ((rd (rd_L2 x475000_1 x6_1) t476) + 1))
                  go_wp2_with (((with_reducible refine gate_store (t := 3) (p := 44) rfl ?_); refine store_event (t := 3) (p := 44) (v := ?vo_w37) (w1 := (w29.setCell ⟨go32, (t476 : Int).toNat, none⟩ (.int .i64 (wrap64 ((rd (rd_L2 x475000_1 x6_1) t476) + 1))))) ?hg ?ho ?hn ?hr ?_; (case ho => rfl); (case hg => rfl); (case hn => rfl); (case hr => (go_simp; done)); intro w37 hw; have hg : w29.grownBy w37 (some go32) := (by rw [hw]; exact HP36.2); have hz_ : Kd.R (Kd.int .i64) 3 w37 w.heap.size oki36 (.slice (some ⟨go32, 0, none⟩) (rd_L2 x475000_1 x6_1).length c479_0) y481 := (by rw [hw, Ny481.out]; exact HP36.1); have hp_ : Kd.S (Kd.slice 3 (Kd.int .i64)) 58 w37 w.heap.size (fun _ => True) (.slice (some ad477) x475000_1.length co28) y483 := (by rw [Ny483.out]; exact hbk36 hg (fun k_ e_ => by injection e_ with e_; subst e_; exact ge36_0.1 _ rfl) (Kd.M_row hz_)); have hm_ := Kd.R_mono hz_ hok36; clear HP36 hbk36; have n0_ := Aside0.mk (hp_); have n1_ := Aside0.mk (blk_grown (g := gb468) (o := .cells #[.slice A0_0 l0_0.length c0_0, .int .i64 a0_1] 26 (0, 0)) (by (with_reducible repeat (first | refine blk_drewN ?_ _ | refine blk_drew ?_ | refine blk_alloc ?_ _ )); exact BK468.out) hg (Kd.R_ne HL479_0.out BK468.out (by decide))); have n2_ := Aside0.mk (blk_grown (g := gb469) (o := .cells #[.slice none 0 0, .int .i64 0] 26 (0, 0)) (by (with_reducible repeat (first | refine blk_drewN ?_ _ | refine blk_drew ?_ | refine blk_alloc ?_ _ )); exact BK469.out) hg (Kd.R_ne HL479_0.out BK469.out (by decide))); have n3_ := Aside0.mk (blk_grown (g := gb474) (o := .cells #[.slice (some ad477) x475000_1.length co28, .int .i64 t473] 26 (0, 0)) (by (with_reducible repeat (first | refine blk_drewN ?_ _ | refine blk_drew ?_ | refine blk_alloc ?_ _ )); exact BK474.out) hg (Kd.R_ne HL479_0.out BK474.out (by decide))); have n4_ := Aside0.mk ((by rw [hw]; exact below_set (HB.out) GB32.out : Below w.heap.size w w37)); have n5_ := Aside0.mk (hm_); have n6_ := Aside0.mk ((Kd.R_reads' hm_).2.1); clear HO_475000; clear BK468; clear BK469; clear BK474; clear HB; clear HL477_0; clear HL479_0; have HO_475000 := n0_; have BK468 := n1_; have BK469 := n2_; have BK474 := n3_; have HB := n4_; have HL491 := n5_; have HC482 := n6_; clear n0_ n1_ n2_ n3_ n4_ n5_ n6_; clear hg hw hp_ hz_ hm_ hok36))
                  go_roundg k1
                  case measure => have := HK1.out; omega
                  case rel => exact ⟨(wrap64 (x6_1 + 1)), (y483), (.slice (some ad477) x475000_1.length co28), (by rfl), H', ⟨by have := HK1.out; omega⟩, ⟨by (with_reducible repeat (first | apply Kd.S_alloc | apply Kd.S_drewN | apply Kd.S_drew )); exact HO_475000.out⟩, ⟨by (with_reducible repeat (first | refine blk_drewN ?_ _ | refine blk_drew ?_ | refine blk_alloc ?_ _ )); exact BK468.out⟩, ⟨by (with_reducible repeat (first | refine blk_drewN ?_ _ | refine blk_drew ?_ | refine blk_alloc ?_ _ )); exact BK469.out⟩, ⟨by (with_reducible repeat (first | refine blk_drewN ?_ _ | refine blk_drew ?_ | refine blk_alloc ?_ _ )); exact BK474.out⟩, ⟨by repeat ((with_reducible exact HB.out))⟩⟩
                · rw [if_neg c31] at H
                  have c31b0 : decide ((rd (rd_L2 x475000_1 x6_1) t476) < 15) = false := decide_eq_false c31
                  clear c31
                  (rw [c31b0])
                  have H' := Aside0.mk H
                  clear H
                  go_wp2
                  go_roundg k1
                  case measure => have := HK1.out; omega
                  case rel => exact ⟨(wrap64 (x6_1 + 1)), (x475000_1), (.slice (some ad477) x475000_1.length co28), (by rfl), H', ⟨by have := HK1.out; omega⟩, ⟨by (with_reducible repeat (first | apply Kd.S_alloc | apply Kd.S_drewN | apply Kd.S_drew )); exact HO_475000.out⟩, ⟨by (with_reducible repeat (first | refine blk_drewN ?_ _ | refine blk_drew ?_ | refine blk_alloc ?_ _ )); exact BK468.out⟩, ⟨by (with_reducible repeat (first | refine blk_drewN ?_ _ | refine blk_drew ?_ | refine blk_alloc ?_ _ )); exact BK469.out⟩, ⟨by (with_reducible repeat (first | refine blk_drewN ?_ _ | refine blk_drew ?_ | refine blk_alloc ?_ _ )); exact BK474.out⟩, ⟨by repeat ((with_reducible exact HB.out))⟩⟩
              · rw [if_neg c23] at H
                exact absurd H (by simp)
            · rw [if_neg c22] at H
              exact absurd H (by simp)
          · rw [if_neg c21] at H
            exact absurd H (by simp)
        · rw [if_neg c19] at H
          have c19b0 : decide (x6_1 < (x475000_1.length : Int)) = false := decide_eq_false c19
          clear c19
          (skip)
          have HS38 := Aside0.mk H
          clear H
          have hnb39 := NB474_468.out
          have hnc39 := NB468_474.out
          have hnb40 := NB474_469.out
          have hnc40 := NB469_474.out
          have hcz41_0 : wr.cell? ⟨gb474, 0, none⟩ = some (u475000) := (blk_cell BK474.out 0).trans rfl
          have hcz41_1 : wr.cell? ⟨gb474, 1, none⟩ = some (.int .i64 t473) := (blk_cell BK474.out 1).trans rfl
          have hfz41_0 := blk_frozen BK474.out 0
          have hfz41_1 := blk_frozen BK474.out 1
          obtain ⟨Ao42, co42, eo42⟩ := Kd.S_slice HO_475000.out
          subst eo42
          go_upto_if 51 with (fail)
          have H := HS38.out
          clear HS38
          by_cases c43 : (wrap64 (t473 + 1)) = 64
          · rw [if_pos c43] at H
            have c43b0 : ((wrap64 (t473 + 1)) == 64) = true := beq_iff_eq.mpr c43
            have c43b1 : ((wrap64 (t473 + 1)) != 64) = false := bne_eq_false_iff_eq.mpr c43
            clear c43
            (rw [c43b0])
            have H' := Aside0.mk H
            clear H
            have hnb44 := NB474_468.out
            have hnc44 := NB468_474.out
            have hnb45 := NB474_469.out
            have hnc45 := NB469_474.out
            have hcz46_0 : wr.cell? ⟨gb474, 0, none⟩ = some (.slice Ao42 x475000_1.length co42) := (blk_cell BK474.out 0).trans rfl
            have hcz46_1 : wr.cell? ⟨gb474, 1, none⟩ = some (.int .i64 t473) := (blk_cell BK474.out 1).trans rfl
            have hfz46_0 := blk_frozen BK474.out 0
            have hfz46_1 := blk_frozen BK474.out 1
            go_wp2
            go_loopg [8] k1 (fun kq v8 w' => ∃ (x8_2 : Int) (x475000_2 : List (List Int)) (u475000 : Value), v8 = .int .i64 x8_2 ∧ Aside0 (spec_SketchBump.l1 kq x8_2 x475000_2 0 = some (r1, r2)) ∧ Aside0 (kq ≤ k1) ∧ Aside0 (Kd.S (Kd.slice 3 (Kd.int .i64)) 58 w' w.heap.size (fun _ => True) u475000 x475000_2) ∧ Aside0 (w'.heap[gb468]? = some (.cells #[(.slice A0_0 l0_0.length c0_0), .int .i64 a0_1] 26 (0, 0))) ∧ Aside0 (w'.heap[gb469]? = some (.cells #[(.slice none 0 0), .int .i64 0] 26 (0, 0))) ∧ Aside0 (w'.heap[gb474]? = some (.cells #[u475000, .int .i64 0] 26 (0, 0))) ∧ Aside0 (Below w.heap.size w w'))
            case atStart => exact ⟨(0), (x475000_1), (.slice Ao42 x475000_1.length co42), (by rfl), H', ⟨Nat.le_refl _⟩, ⟨by (with_reducible repeat (first | apply Kd.S_alloc | apply Kd.S_drewN | apply Kd.S_drew )); exact Kd.S_mono (Kd.S_far (p := ⟨gb474, 1, none⟩) (Kd.S_far (p := ⟨gb474, 1, none⟩) (Kd.S_types HO_475000.out BK474.out (by decide)) (fun _ hk => hk.2) (.int .i64 (wrap64 (t473 + 1)))) (fun _ hk => hk.2) (.int .i64 0)) (fun _ hk => trivial)⟩, ⟨by (with_reducible repeat (first | refine blk_drewN ?_ _ | refine blk_drew ?_ | refine blk_alloc ?_ _ )); refine blk_far ?_ NB468_474.out _; (with_reducible repeat (first | refine blk_drewN ?_ _ | refine blk_drew ?_ | refine blk_alloc ?_ _ )); refine blk_far ?_ NB468_474.out _; (with_reducible repeat (first | refine blk_drewN ?_ _ | refine blk_drew ?_ | refine blk_alloc ?_ _ )); exact BK468.out⟩, ⟨by (with_reducible repeat (first | refine blk_drewN ?_ _ | refine blk_drew ?_ | refine blk_alloc ?_ _ )); refine blk_far ?_ NB469_474.out _; (with_reducible repeat (first | refine blk_drewN ?_ _ | refine blk_drew ?_ | refine blk_alloc ?_ _ )); refine blk_far ?_ NB469_474.out _; (with_reducible repeat (first | refine blk_drewN ?_ _ | refine blk_drew ?_ | refine blk_alloc ?_ _ )); exact BK469.out⟩, ⟨by (with_reducible repeat (first | refine blk_drewN ?_ _ | refine blk_drew ?_ | refine blk_alloc ?_ _ )); refine blk_put (cs := #[.slice Ao42 x475000_1.length co42, .int .i64 (wrap64 (t473 + 1))]) ?_ 1 _ rfl; (with_reducible repeat (first | refine blk_drewN ?_ _ | refine blk_drew ?_ | refine blk_alloc ?_ _ )); refine blk_put (cs := #[.slice Ao42 x475000_1.length co42, .int .i64 t473]) ?_ 1 _ rfl; (with_reducible repeat (first | refine blk_drewN ?_ _ | refine blk_drew ?_ | refine blk_alloc ?_ _ )); exact BK474.out⟩, ⟨by repeat ((with_reducible first | exact HB.out | refine below_set ?_ GE474.out))⟩⟩
            case round =>
              clear H'
              clear c19b0
              clear c43b0
              clear c43b1
              clear hcz41_0
              clear hcz41_1
              clear hcz46_0
              clear hcz46_1
              clear hfz41_0
              clear hfz41_1
              clear hfz46_0
              clear hfz46_1
              obtain ⟨x8_2, x475000_2, u475000, rfl, HA, HK2, HO_475000, BK468, BK469, BK474, HB⟩ := hrel
              cases gk with
              | zero => exact absurd HA.out (by simp [spec_SketchBump.l1])
              | succ k2 =>
                have H := HA.out
                clear HA
                simp only [spec_SketchBump.l1] at H
                by_cases c47 : x8_2 < (x475000_2.length : Int)
                · rw [if_pos c47] at H
                  have c47b0 : decide (x8_2 < (x475000_2.length : Int)) = true := decide_eq_true c47
                  clear c47
                  have H' := Aside0.mk H
                  clear H
                  have hnb48 := NB474_468.out
                  have hnc48 := NB468_474.out
                  have hnb49 := NB474_469.out
                  have hnc49 := NB469_474.out
                  have hcz50_0 : wr.cell? ⟨gb474, 0, none⟩ = some (u475000) := (blk_cell BK474.out 0).trans rfl
                  have hcz50_1 : wr.cell? ⟨gb474, 1, none⟩ = some (.int .i64 0) := (blk_cell BK474.out 1).trans rfl
                  have hfz50_0 := blk_frozen BK474.out 0
                  have hfz50_1 := blk_frozen BK474.out 1
                  obtain ⟨Ao51, co51, eo51⟩ := Kd.S_slice HO_475000.out
                  subst eo51
                  go_wp2
                  go_loopg [9] k2 (fun kq v9 w' => ∃ (x9_3 : Int) (x475000_3 : List (List Int)) (u475000 : Value), v9 = .int .i64 x9_3 ∧ Aside0 (spec_SketchBump.l2 kq x8_2 x9_3 x475000_3 0 = some (r1, r2)) ∧ Aside0 (kq ≤ k2) ∧ Aside0 (Kd.S (Kd.slice 3 (Kd.int .i64)) 58 w' w.heap.size (fun _ => True) u475000 x475000_3) ∧ Aside0 (w'.heap[gb468]? = some (.cells #[(.slice A0_0 l0_0.length c0_0), .int .i64 a0_1] 26 (0, 0))) ∧ Aside0 (w'.heap[gb469]? = some (.cells #[(.slice none 0 0), .int .i64 0] 26 (0, 0))) ∧ Aside0 (w'.heap[gb474]? = some (.cells #[u475000, .int .i64 0] 26 (0, 0))) ∧ Aside0 (Below w.heap.size w w'))
                  case atStart => exact ⟨(0), (x475000_2), (.slice Ao51 x475000_2.length co51), (by rfl), H', ⟨Nat.le_refl _⟩, ⟨by (with_reducible repeat (first | apply Kd.S_alloc | apply Kd.S_drewN | apply Kd.S_drew )); exact HO_475000.out⟩, ⟨by (with_reducible repeat (first | refine blk_drewN ?_ _ | refine blk_drew ?_ | refine blk_alloc ?_ _ )); exact BK468.out⟩, ⟨by (with_reducible repeat (first | refine blk_drewN ?_ _ | refine blk_drew ?_ | refine blk_alloc ?_ _ )); exact BK469.out⟩, ⟨by (with_reducible repeat (first | refine blk_drewN ?_ _ | refine blk_drew ?_ | refine blk_alloc ?_ _ )); exact BK474.out⟩, ⟨by repeat ((with_reducible exact HB.out))⟩⟩
                  case round =>
                    clear H'
                    clear c47b0
                    clear hcz50_0
                    clear hcz50_1
                    clear hfz50_0
                    clear hfz50_1
                    obtain ⟨x9_3, x475000_3, u475000, rfl, HA, HK3, HO_475000, BK468, BK469, BK474, HB⟩ := hrel
                    cases gk with
                    | zero => exact absurd HA.out (by simp [spec_SketchBump.l2])
                    | succ k3 =>
                      have H := HA.out
                      clear HA
                      simp only [spec_SketchBump.l2] at H
                      by_cases c52 : 0 ≤ x8_2
                      · rw [if_pos c52] at H
                        have c52b0 : decide (0 ≤ x8_2) = true := decide_eq_true c52
                        clear c52
                        by_cases c53 : x8_2 < (x475000_3.length : Int)
                        · rw [if_pos c53] at H
                          have c53b0 : decide (x8_2 < (x475000_3.length : Int)) = true := decide_eq_true c53
                          clear c53
                          by_cases c54 : x9_3 < ((rd_L2 x475000_3 x8_2).length : Int)
                          · rw [if_pos c54] at H
                            have c54b0 : decide (x9_3 < ((rd_L2 x475000_3 x8_2).length : Int)) = true := decide_eq_true c54
                            clear c54
                            by_cases c55 : 0 ≤ x9_3
                            · rw [if_pos c55] at H
                              have c55b0 : decide (0 ≤ x9_3) = true := decide_eq_true c55
                              clear c55
                              obtain ⟨y488, hy488⟩ : ∃ y_ : List Int, y_ = ((rd_L2 x475000_3 x8_2).set (x9_3 : Int).toNat (wrap64 (Int.tdiv (rd (rd_L2 x475000_3 x8_2) x9_3) 2))) := ⟨_, rfl⟩
                              replace H : (spec_SketchBump.l2 k3 x8_2 (wrap64 (x9_3 + 1)) (x475000_3.set (x8_2 : Int).toNat y488) 0) = some (r1, r2) := by (rw [hy488]; with_reducible exact H)
                              have Ny488 := Aside0.mk hy488
                              clear hy488
                              obtain ⟨y490, hy490⟩ : ∃ y_ : List (List Int), y_ = (x475000_3.set (x8_2 : Int).toNat y488) := ⟨_, rfl⟩
                              replace H : (spec_SketchBump.l2 k3 x8_2 (wrap64 (x9_3 + 1)) y490 0) = some (r1, r2) := by (rw [hy490]; with_reducible exact H)
                              have Ny490 := Aside0.mk hy490
                              clear hy490
                              have H' := Aside0.mk H
                              clear H
                              have hnb57 := NB474_468.out
                              have hnc57 := NB468_474.out
                              have hnb58 := NB474_469.out
                              have hnc58 := NB469_474.out
                              have hcz59_0 : wr.cell? ⟨gb474, 0, none⟩ = some (u475000) := (blk_cell BK474.out 0).trans rfl
                              have hcz59_1 : wr.cell? ⟨gb474, 1, none⟩ = some (.int .i64 0) := (blk_cell BK474.out 1).trans rfl
                              have hfz59_0 := blk_frozen BK474.out 0
                              have hfz59_1 := blk_frozen BK474.out 1
                              obtain ⟨Ao60, co60, eo60⟩ := Kd.S_slice HO_475000.out
                              subst eo60
                              have p484 : 0 ≤ (x8_2 : Int) := of_decide_eq_true (by (with_reducible assumption))
                              have q484 : x8_2 < (x475000_3.length : Int) := of_decide_eq_true (by (with_reducible assumption))
                              obtain ⟨ad484, A484_0, c484_0, e484, hx484_0, hl484_0, hi484_0⟩ := at_L2 (Kd.S_reads' HO_475000.out).2.2 x8_2 p484 q484
                              cases e484
                              obtain ⟨ce484, hce484, hMe484, hcc484⟩ := Kd.S_get HO_475000.out [] x8_2 p484 (by exact q484)
                              obtain ⟨ve484_0, rfl, ge484_0⟩ := hMe484
                              have hv484_0 := hcc484 0 _ rfl
                              rw [Nat.add_zero, show ((Kd.slice 3 (Kd.int .i64))).sz = 1 from rfl, Nat.mul_one] at hv484_0
                              replace hv484_0 := Option.some.inj (hv484_0.symm.trans hx484_0)
                              rw [hv484_0] at ge484_0
                              have HL484_0 := Aside0.mk (show Kd.R (Kd.int .i64) 3 _ _ _ _ (rd_L2 x475000_3 x8_2) from ge484_0)
                              clear hv484_0 ge484_0
                              have HX484_0 := Aside0.mk hx484_0
                              clear hcc484 hce484
                              have HR484_0 := Aside0.mk hi484_0
                              have HC484_0 := Aside0.mk hl484_0
                              clear hi484_0 hl484_0
                              replace p484 := eq_true p484
                              replace q484 := eq_true q484
                              go_wp2
                              have n0_ := Aside0.mk (Kd.S_drew HO_475000.out)
                              have n1_ := Aside0.mk (Kd.R_drew HL484_0.out)
                              have n2_ := Aside0.mk (blk_drew BK468.out)
                              have n3_ := Aside0.mk (blk_drew BK469.out)
                              have n4_ := Aside0.mk (blk_drew BK474.out)
                              have n5_ := Aside0.mk (Kd.C_drew HR484_0.out)
                              have n6_ := Aside0.mk (below_drew1 HB.out)
                              clear HO_475000
                              clear HL484_0
                              clear BK468
                              clear BK469
                              clear BK474
                              clear HR484_0
                              clear HB
                              have HO_475000 := n0_
                              have HL484_0 := n1_
                              have BK468 := n2_
                              have BK469 := n3_
                              have BK474 := n4_
                              have HR484_0 := n5_
                              have HB := n6_
                              clear n0_ n1_ n2_ n3_ n4_ n5_ n6_
                              have p485 : 0 ≤ (x8_2 : Int) := of_decide_eq_true (by (with_reducible assumption))
                              have q485 : x8_2 < (x475000_3.length : Int) := of_decide_eq_true (by (with_reducible assumption))
                              obtain ⟨ad485, A485_0, c485_0, e485, hx485_0, hl485_0, hi485_0⟩ := at_L2 (Kd.S_reads' HO_475000.out).2.2 x8_2 p485 q485
                              obtain rfl : ad484 = ad485 := (by injection e485)
                              obtain ⟨ce485, hce485, hMe485, hcc485⟩ := Kd.S_get HO_475000.out [] x8_2 p485 (by exact q485)
                              obtain ⟨ve485_0, rfl, ge485_0⟩ := hMe485
                              have hv485_0 := hcc485 0 _ rfl
                              rw [Nat.add_zero, show ((Kd.slice 3 (Kd.int .i64))).sz = 1 from rfl, Nat.mul_one] at hv485_0
                              replace hv485_0 := Option.some.inj (hv485_0.symm.trans hx485_0)
                              rw [hv485_0] at ge485_0
                              have HL485_0 := Aside0.mk (show Kd.R (Kd.int .i64) 3 _ _ _ _ (rd_L2 x475000_3 x8_2) from ge485_0)
                              clear hv485_0 ge485_0
                              have HX485_0 := Aside0.mk hx485_0
                              clear hcc485 hce485
                              have HR485_0 := Aside0.mk hi485_0
                              have HC485_0 := Aside0.mk hl485_0
                              clear hi485_0 hl485_0
                              replace p485 := eq_true p485
                              replace q485 := eq_true q485
                              have p486 : 0 ≤ (x8_2 : Int) := of_decide_eq_true (by (with_reducible assumption))
                              have q486 : x8_2 < (x475000_3.length : Int) := of_decide_eq_true (by (with_reducible assumption))
                              obtain ⟨ad486, A486_0, c486_0, e486, hx486_0, hl486_0, hi486_0⟩ := at_L2 (Kd.S_reads' HO_475000.out).2.2 x8_2 p486 q486
                              obtain rfl : ad484 = ad486 := (by injection e486)
                              obtain ⟨ce486, hce486, hMe486, hcc486⟩ := Kd.S_get HO_475000.out [] x8_2 p486 (by exact q486)
                              obtain ⟨ve486_0, rfl, ge486_0⟩ := hMe486
                              have hv486_0 := hcc486 0 _ rfl
                              rw [Nat.add_zero, show ((Kd.slice 3 (Kd.int .i64))).sz = 1 from rfl, Nat.mul_one] at hv486_0
                              replace hv486_0 := Option.some.inj (hv486_0.symm.trans hx486_0)
                              rw [hv486_0] at ge486_0
                              have HL486_0 := Aside0.mk (show Kd.R (Kd.int .i64) 3 _ _ _ _ (rd_L2 x475000_3 x8_2) from ge486_0)
                              clear hv486_0 ge486_0
                              have HX486_0 := Aside0.mk hx486_0
                              clear hcc486 hce486
                              have HR486_0 := Aside0.mk hi486_0
                              have HC486_0 := Aside0.mk hl486_0
                              clear hi486_0 hl486_0
                              replace p486 := eq_true p486
                              replace q486 := eq_true q486
                              have ea_ := Option.some.inj (hx485_0.symm.trans hx486_0)
                              injection ea_ with ea_ en_ ec_
                              subst ea_
                              subst ec_
                              clear en_
                              have p487 : 0 ≤ (x9_3 : Int) := of_decide_eq_true (by (with_reducible assumption))
                              have q487 : x9_3 < ((rd_L2 x475000_3 x8_2).length : Int) := of_decide_eq_true (by (with_reducible assumption))
                              obtain ⟨ad487, e487, hx487_0⟩ := Kd.at_int (by repeat ((with_reducible exact HR486_0.out))) x9_3 p487 q487
                              cases e487
                              replace p487 := eq_true p487
                              replace q487 := eq_true q487
                              have p56 : 0 ≤ (x9_3 : Int) := of_decide_eq_true (by (with_reducible assumption))
                              have q56 : (x9_3 : Int) < (((rd_L2 x475000_3 x8_2).length : Int) : Int) := of_decide_eq_true (by (with_reducible assumption))
                              obtain ⟨go56, co56, eo56, gb56, gl56, cl56, HG56⟩ := Kd.R_form HL485_0.out (by omega)
                              (cases eo56)
                              have GB56 := Aside0.mk gb56
                              have GG56 := Aside0.mk HG56
                              clear gb56 gl56 HG56
                              (simp only [add_plain] at hx487_0)
                              obtain ⟨hx56_0, hf56_0⟩ := Kd.R_celln 0 HL485_0.out (x9_3 : Int) p56 q56
                              replace p56 := eq_true p56
                              replace q56 := eq_true q56
                              have hq62 : (x8_2 : Int) < (x475000_3.length : Int) := (by have h_ : (x8_2 : Int) < ((x475000_3.length : Int) : Int) := of_decide_eq_true (by (with_reducible assumption)); exact h_)
                              obtain ⟨oki62, ce62, hcl62, hM62, hcc62, hok62, hbk62⟩ := Kd.S_borrow HO_475000.out [] (x8_2 : Int) (of_decide_eq_true (by (with_reducible assumption))) hq62
                              obtain ⟨ve62_0, rfl, ge62_0⟩ := hM62
                              have hv62 := hcc62 0 _ rfl
                              rw [Nat.add_zero, show ((Kd.slice 3 (Kd.int .i64))).sz = 1 from rfl, Nat.mul_one] at hv62
                              replace hv62 := Option.some.inj (hv62.symm.trans HX485_0.out)
                              subst hv62
                              clear hcc62 hcl62
                              replace ge62_0 := (show Kd.R (Kd.int .i64) 3 _ _ _ _ (rd_L2 x475000_3 x8_2) from ge62_0)
                              have HP62 := Kd.R_putg ge62_0 (x9_3 : Int) (wrap64 (Int.tdiv (rd (rd_L2 x475000_3 x8_2) x9_3) 2))
                              rw [← Ny488.out] at HP62
                              have HS62 := hbk62 HP62.2 (fun k_ e_ => by injection e_ with e_; subst e_; exact ge62_0.1 _ rfl) (x' := y488) (Kd.M_row HP62.1)
                              rw [← Ny490.out] at HS62
                              have HQ62 := Aside0.mk HS62
                              clear HP62 HS62 hbk62 hok62
                              refine start_ (n := 17) (S := fun w' => w'.cell? ⟨gb474, 0, none⟩ = some (.slice (some ad484) x475000_3.length co60) ∧ w'.cell? ⟨gb474, 1, none⟩ = some (.int .i64 0) ∧ w'.cell? (ad484.add (x8_2).toNat) = some (.slice (some (⟨go56, 0, none⟩ : Addr)) (rd_L2 x475000_3 x8_2).length c485_0) ∧ w'.cell? (ad484.add (x8_2).toNat) = some (.slice (some (⟨go56, 0, none⟩ : Addr)) (rd_L2 x475000_3 x8_2).length c485_0) ∧ w'.cell? ⟨go56, (x9_3).toNat, none⟩ = some (.int .i64 (rd (rd_L2 x475000_3 x8_2) x9_3))) (ds := [16]) #[false, false, false, false, false, false, false, false, false, false, false, false, false, false, false, false, false] (by kernel_rfl) rfl rfl ⟨(blk_cell BK474.out 0).trans rfl, (blk_cell BK474.out 1).trans rfl, hx485_0, hx486_0, hx487_0⟩ (fun hHeld => ?_); refine with_tabW spec_SketchBump.tab19 spec_SketchBump.bits19 (fun HT_ HW_ => ?_)
                              generalize wr.drew = w61 at HO_475000 HL484_0 BK468 BK469 BK474 HR484_0 HB GG56 HL485_0 HL486_0 HQ62 HR485_0 HR486_0 HX485_0 HX486_0 hf56_0 hx485_0 hx486_0 hx487_0 hx56_0 hHeld ⊢
                              refine pure_ (i := 0) (N := some 70) (v := ?_) (a' := ?_) #[true, false, false, false, false, false, false, false, false, false, false, false, false, false, false, false, false] rfl rfl (any_of HT_.out (by kernel_rfl)) (fun _ _ _ h => h) (Or.inl ⟨by rfl, ?_⟩) ?_ ?_
                              rotate_left
                              · intro w'
                                go_simp
                                with_reducible rfl
                              rotate_left
                              · simp only [Act.put, List.setIfInBounds_toArray, List.set_cons_zero, List.set_cons_succ, i64_w, i32_w]
                                rfl
                              refine pure_ (i := 2) (N := some 72) (v := ?_) (a' := ?_) #[true, false, true, false, false, false, false, false, false, false, false, false, false, false, false, false, false] rfl rfl (any_of HT_.out (by kernel_rfl)) (fun _ _ _ h => h) (Or.inl ⟨by rfl, ?_⟩) ?_ ?_
                              rotate_left
                              · intro w'
                                go_simp
                                with_reducible rfl
                              rotate_left
                              · simp only [Act.put, List.setIfInBounds_toArray, List.set_cons_zero, List.set_cons_succ, i64_w, i32_w]
                                rfl
                              refine pure_ (i := 5) (N := some 75) (v := ?_) (a' := ?_) #[true, false, true, false, false, true, false, false, false, false, false, false, false, false, false, false, false] rfl rfl (any_of HT_.out (by kernel_rfl)) (fun _ _ _ h => h) (Or.inl ⟨by rfl, ?_⟩) ?_ ?_
                              rotate_left
                              · intro w'
                                go_simp
                                with_reducible rfl
                              rotate_left
                              · simp only [Act.put, List.setIfInBounds_toArray, List.set_cons_zero, List.set_cons_succ, i64_w, i32_w]
                                rfl
                              refine pure_ (i := 6) (N := some 76) (v := ?_) (a' := ?_) #[true, false, true, false, false, true, true, false, false, false, false, false, false, false, false, false, false] rfl rfl (any_of HT_.out (by kernel_rfl)) (fun _ _ _ h => h) (Or.inl ⟨by rfl, ?_⟩) ?_ ?_
                              rotate_left
                              · intro w'
                                go_simp
                                with_reducible rfl
                              rotate_left
                              · simp only [Act.put, List.setIfInBounds_toArray, List.set_cons_zero, List.set_cons_succ, i64_w, i32_w]
                                rfl
                              refine pure_ (i := 8) (N := some 78) (v := ?_) (a' := ?_) #[true, false, true, false, false, true, true, false, true, false, false, false, false, false, false, false, false] rfl rfl (any_of HT_.out (by kernel_rfl)) (fun _ _ _ h => h) (Or.inl ⟨by rfl, ?_⟩) ?_ ?_
                              rotate_left
                              · intro w'
                                go_simp
                                with_reducible rfl
                              rotate_left
                              · simp only [Act.put, List.setIfInBounds_toArray, List.set_cons_zero, List.set_cons_succ, i64_w, i32_w]
                                rfl
                              refine pure_ (i := 11) (N := some 81) (v := ?_) (a' := ?_) #[true, false, true, false, false, true, true, false, true, false, false, true, false, false, false, false, false] rfl rfl (any_of HT_.out (by kernel_rfl)) (fun _ _ _ h => h) (Or.inl ⟨by rfl, ?_⟩) ?_ ?_
                              rotate_left
                              · intro w'
                                go_simp
                                with_reducible rfl
                              rotate_left
                              · simp only [Act.put, List.setIfInBounds_toArray, List.set_cons_zero, List.set_cons_succ, i64_w, i32_w]
                                rfl
                              refine take_ (i := 1) (N := some 71) (v := ?_) (a' := ?_) #[true, true, true, false, false, true, true, false, true, false, false, true, false, false, false, false, false] rfl rfl (take_ofW HT_.out HW_.out (by kernel_rfl)) (fun _ _ _ h => h) (Or.inl ⟨by rfl, ?_⟩) hHeld ?_ ?_
                              rotate_left
                              · rintro w' ⟨s0, s1, s2, s3, s4⟩
                                go_simp
                                with_reducible rfl
                              rotate_left
                              · simp only [Act.put, List.setIfInBounds_toArray, List.set_cons_zero, List.set_cons_succ, i64_w, i32_w]
                                rfl
                              refine pure_ (i := 3) (N := some 73) (v := ?_) (a' := ?_) #[true, true, true, true, false, true, true, false, true, false, false, true, false, false, false, false, false] rfl rfl (any_of HT_.out (by kernel_rfl)) (fun _ _ _ h => h) (Or.inl ⟨by rfl, ?_⟩) ?_ ?_
                              rotate_left
                              · intro w'
                                go_simp
                                with_reducible rfl
                              rotate_left
                              · simp only [Act.put, List.setIfInBounds_toArray, List.set_cons_zero, List.set_cons_succ, i64_w, i32_w]
                                rfl
                              refine take_ (i := 4) (N := some 74) (v := ?_) (a' := ?_) #[true, true, true, true, true, true, true, false, true, false, false, true, false, false, false, false, false] rfl rfl (take_ofW HT_.out HW_.out (by kernel_rfl)) (fun _ _ _ h => h) (Or.inl ⟨by rfl, ?_⟩) hHeld ?_ ?_
                              rotate_left
                              · rintro w' ⟨s0, s1, s2, s3, s4⟩
                                go_simp
                                with_reducible rfl
                              rotate_left
                              · simp only [Act.put, List.setIfInBounds_toArray, List.set_cons_zero, List.set_cons_succ, i64_w, i32_w]
                                rfl
                              refine take_ (i := 7) (N := some 77) (v := ?_) (a' := ?_) #[true, true, true, true, true, true, true, true, true, false, false, true, false, false, false, false, false] rfl rfl (take_ofW HT_.out HW_.out (by kernel_rfl)) (fun _ _ _ h => h) (Or.inl ⟨by rfl, ?_⟩) hHeld ?_ ?_
                              rotate_left
                              · rintro w' ⟨s0, s1, s2, s3, s4⟩
                                go_simp
                                with_reducible rfl
                              rotate_left
                              · simp only [Act.put, List.setIfInBounds_toArray, List.set_cons_zero, List.set_cons_succ, i64_w, i32_w]
                                rfl
                              refine pure_ (i := 9) (N := some 79) (v := ?_) (a' := ?_) #[true, true, true, true, true, true, true, true, true, true, false, true, false, false, false, false, false] rfl rfl (any_of HT_.out (by kernel_rfl)) (fun _ _ _ h => h) (Or.inl ⟨by rfl, ?_⟩) ?_ ?_
                              rotate_left
                              · intro w'
                                go_simp
                                with_reducible rfl
                              rotate_left
                              · simp only [Act.put, List.setIfInBounds_toArray, List.set_cons_zero, List.set_cons_succ, i64_w, i32_w]
                                rfl
                              refine take_ (i := 10) (N := some 80) (v := ?_) (a' := ?_) #[true, true, true, true, true, true, true, true, true, true, true, true, false, false, false, false, false] rfl rfl (take_ofW HT_.out HW_.out (by kernel_rfl)) (fun _ _ _ h => h) (Or.inl ⟨by rfl, ?_⟩) hHeld ?_ ?_
                              rotate_left
                              · rintro w' ⟨s0, s1, s2, s3, s4⟩
                                go_simp
                                with_reducible rfl
                              rotate_left
                              · simp only [Act.put, List.setIfInBounds_toArray, List.set_cons_zero, List.set_cons_succ, i64_w, i32_w]
                                rfl
                              refine pure_ (i := 12) (N := some 82) (v := ?_) (a' := ?_) #[true, true, true, true, true, true, true, true, true, true, true, true, true, false, false, false, false] rfl rfl (any_of HT_.out (by kernel_rfl)) (fun _ _ _ h => h) (Or.inl ⟨by rfl, ?_⟩) ?_ ?_
                              rotate_left
                              · intro w'
                                go_simp
                                with_reducible rfl
                              rotate_left
                              · simp only [Act.put, List.setIfInBounds_toArray, List.set_cons_zero, List.set_cons_succ, i64_w, i32_w]
                                rfl
                              refine take_ (i := 13) (N := some 83) (v := ?_) (a' := ?_) #[true, true, true, true, true, true, true, true, true, true, true, true, true, true, false, false, false] rfl rfl (take_ofW HT_.out HW_.out (by kernel_rfl)) (fun _ _ _ h => h) (Or.inl ⟨by rfl, ?_⟩) hHeld ?_ ?_
                              rotate_left
                              · rintro w' ⟨s0, s1, s2, s3, s4⟩
                                go_simp
                                with_reducible rfl
                              rotate_left
                              · simp only [Act.put, List.setIfInBounds_toArray, List.set_cons_zero, List.set_cons_succ, i64_w, i32_w]
                                rfl
                              refine pure_ (i := 14) (N := some 84) (v := ?_) (a' := ?_) #[true, true, true, true, true, true, true, true, true, true, true, true, true, true, true, false, false] rfl rfl (any_of HT_.out (by kernel_rfl)) (fun _ _ _ h => h) (Or.inl ⟨by rfl, ?_⟩) ?_ ?_
                              rotate_left
                              · intro w'
                                go_simp
                                with_reducible rfl
                              rotate_left
                              · simp only [Act.put, List.setIfInBounds_toArray, List.set_cons_zero, List.set_cons_succ, i64_w, i32_w]
                                rfl
                              refine pure_ (i := 15) (N := some 85) (v := ?_) (a' := ?_) #[true, true, true, true, true, true, true, true, true, true, true, true, true, true, true, true, false] rfl rfl (any_of HT_.out (by kernel_rfl)) (fun _ _ _ h => h) (Or.inl ⟨by rfl, ?_⟩) ?_ ?_
                              rotate_left
                              · intro w'
                                go_simp
                                with_reducible rfl
                              rotate_left
                              · simp only [Act.put, List.setIfInBounds_toArray, List.set_cons_zero, List.set_cons_succ, i64_w, i32_w]
                                rfl
                              refine last_ (i := 16) (N := none) #[true, true, true, true, true, true, true, true, true, true, true, true, true, true, true, true, true] rfl rfl (one_of HT_.out (by kernel_rfl)) (by decide) (fun K hK => ?_)
                              refine skip_ (w1 := ?_) (by rfl) rfl ?_ ?_
                              rotate_left
                              · go_simp
                                rfl
                              refine hK.out _ _ ?_
                              clear hK K
                              refine done_ (done_of HT_.out (by kernel_rfl)) ?_
                              go_wp2
                              go_roundg k3
                              case measure => have := HK1.out; have := HK2.out; have := HK3.out; omega
                              case rel => exact ⟨(wrap64 (x9_3 + 1)), (y490), (.slice (some ad484) x475000_3.length co60), (by rfl), H', ⟨by have := HK1.out; have := HK2.out; have := HK3.out; omega⟩, ⟨by (with_reducible repeat (first | apply Kd.S_alloc | apply Kd.S_drewN | apply Kd.S_drew )); exact HQ62.out⟩, ⟨by (with_reducible repeat (first | refine blk_drewN ?_ _ | refine blk_drew ?_ | refine blk_alloc ?_ _ )); refine blk_far ?_ (by have h_ := Kd.R_ne HL485_0.out BK468.out (by decide); intro e_; exact h_ (by rw [e_]; rfl)) _; (with_reducible repeat (first | refine blk_drewN ?_ _ | refine blk_drew ?_ | refine blk_alloc ?_ _ )); exact BK468.out⟩, ⟨by (with_reducible repeat (first | refine blk_drewN ?_ _ | refine blk_drew ?_ | refine blk_alloc ?_ _ )); refine blk_far ?_ (by have h_ := Kd.R_ne HL485_0.out BK469.out (by decide); intro e_; exact h_ (by rw [e_]; rfl)) _; (with_reducible repeat (first | refine blk_drewN ?_ _ | refine blk_drew ?_ | refine blk_alloc ?_ _ )); exact BK469.out⟩, ⟨by (with_reducible repeat (first | refine blk_drewN ?_ _ | refine blk_drew ?_ | refine blk_alloc ?_ _ )); refine blk_far ?_ (by have h_ := Kd.R_ne HL485_0.out BK474.out (by decide); intro e_; exact h_ (by rw [e_]; rfl)) _; (with_reducible repeat (first | refine blk_drewN ?_ _ | refine blk_drew ?_ | refine blk_alloc ?_ _ )); exact BK474.out⟩, ⟨by repeat ((with_reducible first | exact HB.out | refine below_set ?_ GB56.out))⟩⟩
                            · rw [if_neg c55] at H
                              exact absurd H (by simp)
                          · rw [if_neg c54] at H
                            have c54b0 : decide (x9_3 < ((rd_L2 x475000_3 x8_2).length : Int)) = false := decide_eq_false c54
                            clear c54
                            have H' := Aside0.mk H
                            clear H
                            have hnb64 := NB474_468.out
                            have hnc64 := NB468_474.out
                            have hnb65 := NB474_469.out
                            have hnc65 := NB469_474.out
                            have hcz66_0 : wr.cell? ⟨gb474, 0, none⟩ = some (u475000) := (blk_cell BK474.out 0).trans rfl
                            have hcz66_1 : wr.cell? ⟨gb474, 1, none⟩ = some (.int .i64 0) := (blk_cell BK474.out 1).trans rfl
                            have hfz66_0 := blk_frozen BK474.out 0
                            have hfz66_1 := blk_frozen BK474.out 1
                            obtain ⟨Ao67, co67, eo67⟩ := Kd.S_slice HO_475000.out
                            subst eo67
                            (try clear hx486_0)
                            have p484 : 0 ≤ (x8_2 : Int) := of_decide_eq_true (by (with_reducible assumption))
                            have q484 : x8_2 < (x475000_3.length : Int) := of_decide_eq_true (by (with_reducible assumption))
                            obtain ⟨ad484, A484_0, c484_0, e484, hx484_0, hl484_0, hi484_0⟩ := at_L2 (Kd.S_reads' HO_475000.out).2.2 x8_2 p484 q484
                            cases e484
                            obtain ⟨ce484, hce484, hMe484, hcc484⟩ := Kd.S_get HO_475000.out [] x8_2 p484 (by exact q484)
                            obtain ⟨ve484_0, rfl, ge484_0⟩ := hMe484
                            have hv484_0 := hcc484 0 _ rfl
                            rw [Nat.add_zero, show ((Kd.slice 3 (Kd.int .i64))).sz = 1 from rfl, Nat.mul_one] at hv484_0
                            replace hv484_0 := Option.some.inj (hv484_0.symm.trans hx484_0)
                            rw [hv484_0] at ge484_0
                            have HL484_0 := Aside0.mk (show Kd.R (Kd.int .i64) 3 _ _ _ _ (rd_L2 x475000_3 x8_2) from ge484_0)
                            clear hv484_0 ge484_0
                            have HX484_0 := Aside0.mk hx484_0
                            clear hcc484 hce484
                            have HR484_0 := Aside0.mk hi484_0
                            have HC484_0 := Aside0.mk hl484_0
                            clear hi484_0 hl484_0
                            replace p484 := eq_true p484
                            replace q484 := eq_true q484
                            go_wp2
                            go_roundg k3
                            case measure => have := HK1.out; have := HK2.out; have := HK3.out; omega
                            case rel => exact ⟨(wrap64 (x8_2 + 1)), (x475000_3), (.slice (some ad484) x475000_3.length co67), (by rfl), H', ⟨by have := HK1.out; have := HK2.out; have := HK3.out; omega⟩, ⟨by (with_reducible repeat (first | apply Kd.S_alloc | apply Kd.S_drewN | apply Kd.S_drew )); exact HO_475000.out⟩, ⟨by (with_reducible repeat (first | refine blk_drewN ?_ _ | refine blk_drew ?_ | refine blk_alloc ?_ _ )); exact BK468.out⟩, ⟨by (with_reducible repeat (first | refine blk_drewN ?_ _ | refine blk_drew ?_ | refine blk_alloc ?_ _ )); exact BK469.out⟩, ⟨by (with_reducible repeat (first | refine blk_drewN ?_ _ | refine blk_drew ?_ | refine blk_alloc ?_ _ )); exact BK474.out⟩, ⟨by repeat ((with_reducible exact HB.out))⟩⟩
                        · rw [if_neg c53] at H
                          exact absurd H (by simp)
                      · rw [if_neg c52] at H
                        exact absurd H (by simp)
                · rw [if_neg c47] at H
                  have c47b0 : decide (x8_2 < (x475000_2.length : Int)) = false := decide_eq_false c47
                  clear c47
                  simp only [Option.some.injEq, Prod.mk.injEq] at H
                  obtain ⟨rfl, rfl⟩ := H
                  have hnb68 := NB474_468.out
                  have hnc68 := NB468_474.out
                  have hnb69 := NB474_469.out
                  have hnc69 := NB469_474.out
                  have hcz70_0 : wr.cell? ⟨gb474, 0, none⟩ = some (u475000) := (blk_cell BK474.out 0).trans rfl
                  have hcz70_1 : wr.cell? ⟨gb474, 1, none⟩ = some (.int .i64 0) := (blk_cell BK474.out 1).trans rfl
                  have hfz70_0 := blk_frozen BK474.out 0
                  have hfz70_1 := blk_frozen BK474.out 1
                  obtain ⟨Ao71, co71, eo71⟩ := Kd.S_slice HO_475000.out
                  subst eo71
                  have hnb72 := NB469_468.out
                  have hnc72 := NB468_469.out
                  have hcz73_0 : wr.cell? ⟨gb469, 0, none⟩ = some (.slice none 0 0) := (blk_cell BK469.out 0).trans rfl
                  have hcz73_1 : wr.cell? ⟨gb469, 1, none⟩ = some (.int .i64 0) := (blk_cell BK469.out 1).trans rfl
                  have hfz73_0 := blk_frozen BK469.out 0
                  have hfz73_1 := blk_frozen BK469.out 1
                  go_wp2
                  refine bodyPost_ret (results_cell_row rfl _ _ gb469 26 #[.slice Ao71 x475000_2.length co71, .int .i64 0] (0, 0) _ rfl (by (with_reducible repeat (first | refine blk_drewN ?_ _ | refine blk_drew ?_ | refine blk_alloc ?_ _ )); refine blk_put (cs := #[.slice Ao71 x475000_2.length co71, .int .i64 0]) ?_ 1 _ rfl; (with_reducible repeat (first | refine blk_drewN ?_ _ | refine blk_drew ?_ | refine blk_alloc ?_ _ )); refine blk_put (cs := #[.slice none 0 0, .int .i64 0]) ?_ 0 _ rfl; (with_reducible repeat (first | refine blk_drewN ?_ _ | refine blk_drew ?_ | refine blk_alloc ?_ _ )); exact BK469.out) Try.underlying26 rfl (by kernel_rfl)) rfl ?_
                  exact ⟨_, by rfl, by (with_reducible repeat (first | apply Kd.S_alloc | apply Kd.S_drewN | apply Kd.S_drew )); exact Kd.S_mono (Kd.S_far (p := ⟨gb469, 1, none⟩) (Kd.S_far (p := ⟨gb469, 0, none⟩) (Kd.S_types HO_475000.out BK469.out (by decide)) (fun _ hk => hk.2) (.slice Ao71 x475000_2.length co71)) (fun _ hk => hk.2) (.int .i64 0)) (fun _ hk => trivial), by repeat ((with_reducible first | exact HB.out | refine below_set ?_ GE469.out))⟩
          · rw [if_neg c43] at H
            have c43b0 : ((wrap64 (t473 + 1)) == 64) = false := beq_eq_false_iff_ne.mpr c43
            have c43b1 : ((wrap64 (t473 + 1)) != 64) = true := bne_iff_ne.mpr c43
            (rw [c43b0])
            simp only [Option.some.injEq, Prod.mk.injEq] at H
            obtain ⟨rfl, rfl⟩ := H
            have hnb74 := NB474_468.out
            have hnc74 := NB468_474.out
            have hnb75 := NB474_469.out
            have hnc75 := NB469_474.out
            have hcz76_0 : wr.cell? ⟨gb474, 0, none⟩ = some (.slice Ao42 x475000_1.length co42) := (blk_cell BK474.out 0).trans rfl
            have hcz76_1 : wr.cell? ⟨gb474, 1, none⟩ = some (.int .i64 t473) := (blk_cell BK474.out 1).trans rfl
            have hfz76_0 := blk_frozen BK474.out 0
            have hfz76_1 := blk_frozen BK474.out 1
            have hnb77 := NB469_468.out
            have hnc77 := NB468_469.out
            have hcz78_0 : wr.cell? ⟨gb469, 0, none⟩ = some (.slice none 0 0) := (blk_cell BK469.out 0).trans rfl
            have hcz78_1 : wr.cell? ⟨gb469, 1, none⟩ = some (.int .i64 0) := (blk_cell BK469.out 1).trans rfl
            have hfz78_0 := blk_frozen BK469.out 0
            have hfz78_1 := blk_frozen BK469.out 1
            go_wp2
            refine bodyPost_ret (results_cell_row rfl _ _ gb469 26 #[.slice Ao42 x475000_1.length co42, .int .i64 (wrap64 (t473 + 1))] (0, 0) _ rfl (by (with_reducible repeat (first | refine blk_drewN ?_ _ | refine blk_drew ?_ | refine blk_alloc ?_ _ )); refine blk_put (cs := #[.slice Ao42 x475000_1.length co42, .int .i64 0]) ?_ 1 _ rfl; (with_reducible repeat (first | refine blk_drewN ?_ _ | refine blk_drew ?_ | refine blk_alloc ?_ _ )); refine blk_put (cs := #[.slice none 0 0, .int .i64 0]) ?_ 0 _ rfl; (with_reducible repeat (first | refine blk_drewN ?_ _ | refine blk_drew ?_ | refine blk_alloc ?_ _ )); refine blk_far ?_ NB469_474.out _; (with_reducible repeat (first | refine blk_drewN ?_ _ | refine blk_drew ?_ | refine blk_alloc ?_ _ )); exact BK469.out) Try.underlying26 rfl (by kernel_rfl)) rfl ?_
            exact ⟨_, by rfl, by (with_reducible repeat (first | apply Kd.S_alloc | apply Kd.S_drewN | apply Kd.S_drew )); exact Kd.S_mono (Kd.S_far (p := ⟨gb469, 1, none⟩) (Kd.S_far (p := ⟨gb469, 0, none⟩) (Kd.S_far (p := ⟨gb474, 1, none⟩) (Kd.S_types (Kd.S_types HO_475000.out BK474.out (by decide)) BK469.out (by decide)) (fun _ hk => hk.1.2) (.int .i64 (wrap64 (t473 + 1)))) (fun _ hk => hk.2) (.slice Ao42 x475000_1.length co42)) (fun _ hk => hk.2) (.int .i64 (wrap64 (t473 + 1)))) (fun _ hk => trivial), by repeat ((with_reducible first | exact HB.out | refine below_set ?_ GE469.out | refine below_set ?_ GE474.out))⟩
  · replace c18 := Bool.eq_false_iff.mpr c18
    subst c18
    have H1 : (some (t470, t473)) = some (r1, r2) := by rw [if_neg (show ¬ (false = true) by decide)] at H; exact H
    clear H
    have H := H1
    clear H1
    simp only [Option.some.injEq, Prod.mk.injEq] at H
    obtain ⟨rfl, rfl⟩ := H
    have hnb79 := NB474_468.out
    have hnc79 := NB468_474.out
    have hnb80 := NB474_469.out
    have hnc80 := NB469_474.out
    have hcz81_0 : w17.cell? ⟨gb474, 0, none⟩ = some (.slice Ao12 t470.length co12) := (blk_cell BK474.out 0).trans rfl
    have hcz81_1 : w17.cell? ⟨gb474, 1, none⟩ = some (.int .i64 t473) := (blk_cell BK474.out 1).trans rfl
    have hfz81_0 := blk_frozen BK474.out 0
    have hfz81_1 := blk_frozen BK474.out 1
    have hnb82 := NB469_468.out
    have hnc82 := NB468_469.out
    have hcz83_0 : w17.cell? ⟨gb469, 0, none⟩ = some (.slice none 0 0) := (blk_cell BK469.out 0).trans rfl
    have hcz83_1 : w17.cell? ⟨gb469, 1, none⟩ = some (.int .i64 0) := (blk_cell BK469.out 1).trans rfl
    have hfz83_0 := blk_frozen BK469.out 0
    have hfz83_1 := blk_frozen BK469.out 1
    go_wp2
    refine bodyPost_ret (results_cell_row rfl _ _ gb469 26 #[.slice Ao12 t470.length co12, .int .i64 t473] (0, 0) _ rfl (by (with_reducible repeat (first | refine blk_drewN ?_ _ | refine blk_drew ?_ | refine blk_alloc ?_ _ )); refine blk_put (cs := #[.slice Ao12 t470.length co12, .int .i64 0]) ?_ 1 _ rfl; (with_reducible repeat (first | refine blk_drewN ?_ _ | refine blk_drew ?_ | refine blk_alloc ?_ _ )); refine blk_put (cs := #[.slice none 0 0, .int .i64 0]) ?_ 0 _ rfl; (with_reducible repeat (first | refine blk_drewN ?_ _ | refine blk_drew ?_ | refine blk_alloc ?_ _ )); exact BK469.out) Try.underlying26 rfl (by kernel_rfl)) rfl ?_
    exact ⟨_, by rfl, by (with_reducible repeat (first | apply Kd.S_alloc | apply Kd.S_drewN | apply Kd.S_drew )); exact Kd.S_mono (Kd.S_far (p := ⟨gb469, 1, none⟩) (Kd.S_far (p := ⟨gb469, 0, none⟩) (Kd.S_types HO472.out BK469.out (by decide)) (fun _ hk => hk.2) (.slice Ao12 t470.length co12)) (fun _ hk => hk.2) (.int .i64 t473)) (fun _ hk => trivial), by repeat ((with_reducible first | exact HB.out | refine below_set ?_ GE469.out))⟩

/-! ### laws_FnExactSketchBump: function 11 -/
/-- What is held, of a row whose length is told by another name. -/
theorem laws_FnExactSketchBump.calls_held (k : Nat) (A0_0 : Option Addr) (c0_0 : Nat) (n : Nat) (l0_0 : List (List Int)) (a0_1 : Int) (a1 : Int) (r : Int) (w : World) (hn : n = l0_0.length) (hr0_0 : Kd.C (Kd.slice 3 (Kd.int .i64)) w A0_0 l0_0.length l0_0) (hc0_0 : n ≤ c0_0) (h : laws_heldSketch.f k l0_0 a0_1 a1 = some r) :
    Calls Try.prog 23 #[.agg #[.slice A0_0 n c0_0, .int .i64 a0_1], .int .i64 a1] w fun e w' => e = .returned (.int .i64 r) ∧ Below w.heap.size w w' := by
  subst hn; exact laws_heldSketch.calls k A0_0 c0_0 l0_0 a0_1 a1 r w hr0_0 hc0_0 h
theorem laws_FnExactSketchBump.below_up_ {N : World} {w w1 : World} (_ : Below N.heap.size N w) (h : Below N.heap.size N w1) : Below N.heap.size N w1 := h
def laws_FnExactSketchBump.f (k : Nat) (l0_0 : List (List Int)) (a0_1 : Int) (a1 : ByteArray) : Option (Bool) := if (a1.size : Int) > 1048576 then (some true) else ((laws_szSketch.f k l0_0 a0_1 1048576).bind fun t213 => (if t213 < 0 then (some true) else ((laws_toSketch.f k l0_0 a0_1).bind fun bt214 => ((spec_SketchBump.f k bt214.1 bt214.2 a1).bind fun bt218 => ((laws_toSketch.f k l0_0 a0_1).bind fun bt223 => ((impl_SketchBump.f k bt223.1 bt223.2 a1).bind fun bt228 => ((laws_eqSketch.f k bt228.1 bt228.2 bt218.1 bt218.2).bind fun t233 => (if t233 = true then ((laws_toSketch.f k l0_0 a0_1).bind fun bt234 => ((laws_eqSketch.f k bt223.1 bt223.2 bt234.1 bt234.2).bind fun t238 => (if t238 = true then ((laws_markSketch.f k bt223.1 bt223.2 1).bind fun bt239 => (if bt239.1 < 0 then none else ((laws_eqSketch.f k bt228.1 bt228.2 bt218.1 bt218.2).bind fun t240 => (if t240 = true then ((laws_markSketch.f k bt228.1 bt228.2 1).bind fun bt241 => ((laws_heldSketch.f k bt241.2 bt228.2 1).bind fun t242 => (if t242 < 0 then none else (if t242 = bt241.1 then ((laws_toSketch.f k l0_0 a0_1).bind fun bt243 => ((impl_SketchBump.f k bt243.1 bt243.2 a1).bind fun bt247 => ((laws_eqSketch.f k bt247.1 bt247.2 bt218.1 bt218.2).bind fun t251 => (if t251 = true then ((laws_heldSketch.f k bt241.2 bt228.2 1).bind fun t252 => (if t252 < 0 then none else (if t252 = bt241.1 then (some true) else none))) else none)))) else none)))) else none)))) else none))) else none))))))))
theorem laws_FnExactSketchBump.mono : ∀ a0 a1 a2 k, LeO (laws_FnExactSketchBump.f k a0 a1 a2) (laws_FnExactSketchBump.f (k + 1) a0 a1 a2) := by
  intro a0 a1 a2 k
  unfold laws_FnExactSketchBump.f
  repeat' first | (with_reducible exact impl_SketchBump.mono _ _ _ _) | (with_reducible exact laws_eqSketch.mono _ _ _ _ _) | (with_reducible exact laws_heldSketch.mono _ _ _ _) | (with_reducible exact laws_markSketch.mono _ _ _ _) | (with_reducible exact laws_szSketch.mono _ _ _ _) | (with_reducible exact laws_toSketch.mono _ _ _) | (with_reducible exact spec_SketchBump.mono _ _ _ _) | (with_reducible exact LeO.refl _) | (with_reducible refine LeO.ite ?_ ?_) | (with_reducible refine LeO.bind ?_ (fun _ => ?_))
set_option maxHeartbeats 8000000 in
set_option maxRecDepth 100000 in
theorem laws_FnExactSketchBump.calls (k : Nat) (A0_0 : Option Addr) (c0_0 : Nat) (l0_0 : List (List Int)) (a0_1 : Int) (a1 : ByteArray) (r : Bool) (w : World) (hr0_0 : Kd.C (Kd.slice 3 (Kd.int .i64)) w A0_0 l0_0.length l0_0) (hc0_0 : l0_0.length ≤ c0_0) (h : laws_FnExactSketchBump.f k l0_0 a0_1 a1 = some r) :
    Calls Try.prog 11 #[.agg #[.slice A0_0 l0_0.length c0_0, .int .i64 a0_1], .string a1] w fun e w' => e = .returned (.bool r) ∧ Below w.heap.size w w' := by
  have hu31 := Try.underlying31
  have hu26 := Try.underlying26
  have HR0_0 := Aside0.mk hr0_0
  have HC0_0 := Aside0.mk hc0_0
  clear hr0_0 hc0_0
  have HB := Aside0.mk (Below.refl w.heap.size w)
  have H := h
  unfold laws_FnExactSketchBump.f at H
  clear h
  have HS3 := Aside0.mk H
  clear H
  go_enter Try.func11, Try.ntmps11
  go_upto_if 15 with (((with_reducible refine gate_dst (N := 2) rfl ?_); refine box_event ?hg (N := 2) ?hd (cs := #[.slice A0_0 l0_0.length c0_0, .int .i64 a0_1]) (t := 31) ?hr ?_; (case hd => rfl); (case hg => rfl); (case hr => (go_simp; done)); intro gb_aS hg w4 hbox hb; have n0_ := Aside0.mk (below_step (by repeat ((with_reducible exact HB.out))) hb); have n1_ := Aside0.mk (hbox); have n2_ := Aside0.mk ((by rw [hg]; exact (below_size (by repeat ((with_reducible exact HB.out)))) : w.heap.size ≤ gb_aS)); have n3_ := Aside0.mk ((by rw [hg]; exact (below_size (by repeat ((with_reducible exact HB.out)))) : w.heap.size ≤ gb_aS)); clear HB; have HB := n0_; have BK_aS := n1_; have GW_aS := n2_; have GE_aS := n3_; clear n0_ n1_ n2_ n3_; clear hb hbox hg))
  (try simp only [Act.put, List.setIfInBounds_toArray, List.set_cons_zero, List.set_cons_succ])
  have H := HS3.out
  clear HS3
  by_cases c5 : (a1.size : Int) > 1048576
  · rw [if_pos c5] at H
    have c5b0 : decide (1048576 < (a1.size : Int)) = true := decide_eq_true c5
    have c5b1 : decide (1048576 < a1.size) = true := decide_eq_true (by omega)
    clear c5
    (rw [c5b0])
    obtain rfl := Option.some.inj H
    go_wp2
    go_ret
    exact ⟨by rfl, by repeat ((with_reducible exact HB.out))⟩
  · rw [if_neg c5] at H
    have c5b0 : decide (1048576 < (a1.size : Int)) = false := decide_eq_false c5
    have c5b1 : decide (1048576 < a1.size) = false := decide_eq_false (by omega)
    clear c5
    (rw [c5b0])
    replace H := Option.bind_eq_some_iff.mp H
    obtain ⟨t213, A60, H⟩ := H
    have A6 := Aside0.mk A60
    clear A60
    have HS7 := Aside0.mk H
    clear H
    have hcz8_0 : w4.cell? ⟨gb_aS, 0, none⟩ = some (.slice A0_0 l0_0.length c0_0) := (blk_cell BK_aS.out 0).trans rfl
    have hcz8_1 : w4.cell? ⟨gb_aS, 1, none⟩ = some (.int .i64 a0_1) := (blk_cell BK_aS.out 1).trans rfl
    have hfz8_0 := blk_frozen BK_aS.out 0
    have hfz8_1 := blk_frozen BK_aS.out 1
    go_upto_if 20 with (((with_reducible refine gate_callee (f := 24) rfl ?_); refine goesL_ (some 18) rfl rfl Try.func24 (by kernel_rfl) rfl #[.agg #[.slice A0_0 l0_0.length c0_0, .int .i64 a0_1], .int .i64 1048576] rfl (by (try simp only [List.map_toArray, List.map_cons, List.map_nil]); rfl) ?_; (with_reducible refine (laws_szSketch.calls k _ _ l0_0 a0_1 1048576 t213 _ ?side1 ?side2 A6.out).mono ?_); (case side1 => repeat (exact (Kd.C_below HR0_0.out HB.out))); (case side2 => exact HC0_0.out); rintro e w9 ⟨rfl, hb⟩; refine ⟨_, rfl, ?_⟩; have n0_ := Aside0.mk (blk_below (g := gb_aS) (o := .cells #[.slice A0_0 l0_0.length c0_0, .int .i64 a0_1] 31 (0, 0)) (by (with_reducible repeat (first | refine blk_drewN ?_ _ | refine blk_drew ?_ | refine blk_alloc ?_ _ )); exact BK_aS.out) hb); have n1_ := Aside0.mk (below_step (by repeat ((with_reducible exact HB.out))) hb); clear BK_aS; clear HB; have BK_aS := n0_; have HB := n1_; clear n0_ n1_; (try clear hb); (try clear hb2); (try clear hk); (try clear hi)))
    (try simp only [Act.put, List.setIfInBounds_toArray, List.set_cons_zero, List.set_cons_succ])
    have H := HS7.out
    clear HS7
    by_cases c10 : t213 < 0
    · rw [if_pos c10] at H
      have c10b0 : decide (t213 < 0) = true := decide_eq_true c10
      clear c10
      (rw [c10b0])
      obtain rfl := Option.some.inj H
      go_wp2
      go_ret
      exact ⟨by rfl, by repeat ((with_reducible exact HB.out))⟩
    · rw [if_neg c10] at H
      have c10b0 : decide (t213 < 0) = false := decide_eq_false c10
      clear c10
      (rw [c10b0])
      replace H := Option.bind_eq_some_iff.mp H
      obtain ⟨⟨t214, t217⟩, A10, H⟩ := H
      dsimp only at H
      have A1 := Aside0.mk A10
      clear A10
      replace H := Option.bind_eq_some_iff.mp H
      obtain ⟨⟨t218, t221⟩, A20, H⟩ := H
      dsimp only at H
      have A2 := Aside0.mk A20
      clear A20
      replace H := Option.bind_eq_some_iff.mp H
      obtain ⟨⟨t223, t226⟩, A30, H⟩ := H
      dsimp only at H
      have A3 := Aside0.mk A30
      clear A30
      replace H := Option.bind_eq_some_iff.mp H
      obtain ⟨⟨t228, t231⟩, A40, H⟩ := H
      dsimp only at H
      have A4 := Aside0.mk A40
      clear A40
      replace H := Option.bind_eq_some_iff.mp H
      obtain ⟨t233, A50, H⟩ := H
      have A5 := Aside0.mk A50
      clear A50
      by_cases c6 : t233 = true
      case neg => rw [if_neg c6] at H; exact absurd H (by simp)
      rw [if_pos c6] at H
      subst c6
      replace H := Option.bind_eq_some_iff.mp H
      obtain ⟨⟨t234, t237⟩, A70, H⟩ := H
      dsimp only at H
      have A7 := Aside0.mk A70
      clear A70
      replace H := Option.bind_eq_some_iff.mp H
      obtain ⟨t238, A80, H⟩ := H
      have A8 := Aside0.mk A80
      clear A80
      by_cases c9 : t238 = true
      case neg => rw [if_neg c9] at H; exact absurd H (by simp)
      rw [if_pos c9] at H
      subst c9
      replace H := Option.bind_eq_some_iff.mp H
      obtain ⟨⟨t239, m239⟩, A100, H⟩ := H
      dsimp only at H
      have A10 := Aside0.mk A100
      clear A100
      by_cases c11 : t239 < 0
      case pos => rw [if_pos c11] at H; exact absurd H (by simp)
      rw [if_neg c11] at H
      have c11b0 : decide (t239 < 0) = false := decide_eq_false c11
      clear c11
      replace H := Option.bind_eq_some_iff.mp H
      obtain ⟨t240, A120, H⟩ := H
      have A12 := Aside0.mk A120
      clear A120
      by_cases c13 : t240 = true
      case neg => rw [if_neg c13] at H; exact absurd H (by simp)
      rw [if_pos c13] at H
      subst c13
      replace H := Option.bind_eq_some_iff.mp H
      obtain ⟨⟨t241, m241⟩, A140, H⟩ := H
      dsimp only at H
      have A14 := Aside0.mk A140
      clear A140
      replace H := Option.bind_eq_some_iff.mp H
      obtain ⟨t242, A150, H⟩ := H
      have A15 := Aside0.mk A150
      clear A150
      by_cases c16 : t242 < 0
      case pos => rw [if_pos c16] at H; exact absurd H (by simp)
      rw [if_neg c16] at H
      have c16b0 : decide (t242 < 0) = false := decide_eq_false c16
      clear c16
      by_cases c17 : t242 = t241
      case neg => rw [if_neg c17] at H; exact absurd H (by simp)
      rw [if_pos c17] at H
      have c17b0 : (t242 == t241) = true := beq_iff_eq.mpr c17
      have c17b1 : (t242 != t241) = false := bne_eq_false_iff_eq.mpr c17
      clear c17
      replace H := Option.bind_eq_some_iff.mp H
      obtain ⟨⟨t243, t246⟩, A180, H⟩ := H
      dsimp only at H
      have A18 := Aside0.mk A180
      clear A180
      replace H := Option.bind_eq_some_iff.mp H
      obtain ⟨⟨t247, t250⟩, A190, H⟩ := H
      dsimp only at H
      have A19 := Aside0.mk A190
      clear A190
      replace H := Option.bind_eq_some_iff.mp H
      obtain ⟨t251, A200, H⟩ := H
      have A20 := Aside0.mk A200
      clear A200
      by_cases c21 : t251 = true
      case neg => rw [if_neg c21] at H; exact absurd H (by simp)
      rw [if_pos c21] at H
      subst c21
      replace H := Option.bind_eq_some_iff.mp H
      obtain ⟨t252, A220, H⟩ := H
      have A22 := Aside0.mk A220
      clear A220
      by_cases c23 : t252 < 0
      case pos => rw [if_pos c23] at H; exact absurd H (by simp)
      rw [if_neg c23] at H
      have c23b0 : decide (t252 < 0) = false := decide_eq_false c23
      clear c23
      by_cases c24 : t252 = t241
      case neg => rw [if_neg c24] at H; exact absurd H (by simp)
      rw [if_pos c24] at H
      have c24b0 : (t252 == t241) = true := beq_iff_eq.mpr c24
      have c24b1 : (t252 != t241) = false := bne_eq_false_iff_eq.mpr c24
      clear c24
      obtain rfl := Option.some.inj H
      have hcz1_0 : w9.cell? ⟨gb_aS, 0, none⟩ = some (.slice A0_0 l0_0.length c0_0) := (blk_cell BK_aS.out 0).trans rfl
      have hfz1_0 := blk_frozen BK_aS.out 0
      have hcz1_1 : w9.cell? ⟨gb_aS, 1, none⟩ = some (.int .i64 a0_1) := (blk_cell BK_aS.out 1).trans rfl
      have hfz1_1 := blk_frozen BK_aS.out 1
      go_wp2_with (first | ((with_reducible refine gate_callee (f := 26) rfl ?_); refine goesL_ (some 22) rfl rfl Try.func26 (by kernel_rfl) rfl #[.agg #[.slice A0_0 l0_0.length c0_0, .int .i64 a0_1]] rfl (by (try simp only [List.map_toArray, List.map_cons, List.map_nil]); rfl) ?_; (with_reducible refine (laws_toSketch.calls k _ _ l0_0 a0_1 t214 t217 _ ?side1 ?side2 A1.out).mono ?_); (case side1 => exact Kd.C_below HR0_0.out (by repeat ((with_reducible exact HB.out)))); (case side2 => exact HC0_0.out); rintro e w51 ⟨v_p, rfl, ho_p, hb⟩; refine ⟨_, rfl, ?_⟩; have n0_ := Aside0.mk (blk_below (g := gb_aS) (o := .cells #[.slice A0_0 l0_0.length c0_0, .int .i64 a0_1] 31 (0, 0)) (by (with_reducible repeat (first | refine blk_drewN ?_ _ | refine blk_drew ?_ | refine blk_alloc ?_ _ )); exact BK_aS.out) hb); have n1_ := Aside0.mk (below_step (by repeat ((with_reducible exact HB.out))) hb); have n2_ := Aside0.mk (Kd.S_lower ho_p (below_size (by repeat ((with_reducible exact HB.out))))); (try clear BK_aS); (try clear HB); (try clear HO_p); have BK_aS := n0_; have HB := n1_; have HO_p := n2_; clear n0_ n1_ n2_; (try clear hb ho_p); obtain ⟨Ao_p, co_p, eo_p⟩ := Kd.S_slice HO_p.out; subst eo_p) | ((with_reducible refine gate_callee (f := 44) rfl ?_); refine goesL_ (some 24) rfl rfl Try.func44 (by kernel_rfl) rfl #[.agg #[.slice Ao_p t214.length co_p, .int .i64 t217], .string a1] rfl (by (try simp only [List.map_toArray, List.map_cons, List.map_nil]); rfl) ?_; (with_reducible refine (spec_SketchBump.calls k _ _ t214 t217 a1 t218 t221 _ ?side1 ?side2 A2.out).mono ?_); (case side1 => repeat (exact (Kd.S_reads' HO_p.out).2.2)); (case side2 => exact (Kd.S_reads' HO_p.out).2.1); rintro e w52 ⟨v_W, rfl, ho_W, hb⟩; refine ⟨_, rfl, ?_⟩; have n0_ := Aside0.mk (Kd.S_below (by (with_reducible repeat (first | apply Kd.S_alloc | apply Kd.S_drewN | apply Kd.S_drew )); exact HO_p.out) hb); have n1_ := Aside0.mk (blk_below (g := gb_aS) (o := .cells #[.slice A0_0 l0_0.length c0_0, .int .i64 a0_1] 31 (0, 0)) (by (with_reducible repeat (first | refine blk_drewN ?_ _ | refine blk_drew ?_ | refine blk_alloc ?_ _ )); exact BK_aS.out) hb); have n2_ := Aside0.mk (below_step (by repeat ((with_reducible exact HB.out))) hb); have n3_ := Aside0.mk (Kd.S_lower ho_W (below_size (by repeat ((with_reducible exact HB.out))))); (try clear HO_p); (try clear BK_aS); (try clear HB); (try clear HO_W); have HO_p := n0_; have BK_aS := n1_; have HB := n2_; have HO_W := n3_; clear n0_ n1_ n2_ n3_; (try clear hb ho_W); obtain ⟨Ao_W, co_W, eo_W⟩ := Kd.S_slice HO_W.out; subst eo_W) | ((with_reducible refine gate_dst (N := 6) rfl ?_); refine box_event ?hg (N := 6) ?hd (cs := #[.slice none 0 0, .int .i64 0]) (t := 26) ?hr ?_; (case hd => rfl); (case hg => rfl); (case hr => (go_simp; done)); intro gb_W hg w53 hbox hb; have n0_ := Aside0.mk (Kd.S_below (by (with_reducible repeat (first | apply Kd.S_alloc | apply Kd.S_drewN | apply Kd.S_drew )); exact HO_W.out) hb); have n1_ := Aside0.mk (blk_below (g := gb_aS) (o := .cells #[.slice A0_0 l0_0.length c0_0, .int .i64 a0_1] 31 (0, 0)) (by (with_reducible repeat (first | refine blk_drewN ?_ _ | refine blk_drew ?_ | refine blk_alloc ?_ _ )); exact BK_aS.out) hb); have n2_ := Aside0.mk (below_step (by repeat ((with_reducible exact HB.out))) hb); have n3_ := Aside0.mk (hbox); have n4_ := Aside0.mk ((by rw [hg]; exact (below_size (by repeat ((with_reducible exact HB.out)))) : w.heap.size ≤ gb_W)); have n5_ := Aside0.mk ((by rw [hg]; exact Nat.ne_of_lt (blk_lt (g := gb_aS) (o := .cells #[.slice A0_0 l0_0.length c0_0, .int .i64 a0_1] 31 (0, 0)) (by (with_reducible repeat (first | refine blk_drewN ?_ _ | refine blk_drew ?_ | refine blk_alloc ?_ _ )); exact BK_aS.out)) : gb_aS ≠ gb_W)); have n6_ := Aside0.mk ((by rw [hg]; exact Nat.ne_of_gt (blk_lt (g := gb_aS) (o := .cells #[.slice A0_0 l0_0.length c0_0, .int .i64 a0_1] 31 (0, 0)) (by (with_reducible repeat (first | refine blk_drewN ?_ _ | refine blk_drew ?_ | refine blk_alloc ?_ _ )); exact BK_aS.out)) : gb_W ≠ gb_aS)); (try clear HO_W); (try clear BK_aS); (try clear HB); (try clear BK_W); (try clear GE_W); (try clear NB_aS_W); (try clear NB_W_aS); have HO_W := n0_; have BK_aS := n1_; have HB := n2_; have BK_W := n3_; have GE_W := n4_; have NB_aS_W := n5_; have NB_W_aS := n6_; clear n0_ n1_ n2_ n3_ n4_ n5_ n6_; clear hb hbox hg; have hnb_aS_W := NB_aS_W.out; have hnb_W_aS := NB_W_aS.out; have hcz2_0 : w53.cell? ⟨gb_W, 0, none⟩ = some (.slice none 0 0) := (blk_cell BK_W.out 0).trans rfl; have hfz2_0 := blk_frozen BK_W.out 0; have hcz2_1 : w53.cell? ⟨gb_W, 1, none⟩ = some (.int .i64 0) := (blk_cell BK_W.out 1).trans rfl; have hfz2_1 := blk_frozen BK_W.out 1; have hcz3_0 : w53.cell? ⟨gb_aS, 0, none⟩ = some (.slice A0_0 l0_0.length c0_0) := (blk_cell BK_aS.out 0).trans rfl; have hfz3_0 := blk_frozen BK_aS.out 0; have hcz3_1 : w53.cell? ⟨gb_aS, 1, none⟩ = some (.int .i64 a0_1) := (blk_cell BK_aS.out 1).trans rfl; have hfz3_1 := blk_frozen BK_aS.out 1) | ((with_reducible refine gate_callee (f := 26) rfl ?_); refine goesL_ (some 26) rfl rfl Try.func26 (by kernel_rfl) rfl #[.agg #[.slice A0_0 l0_0.length c0_0, .int .i64 a0_1]] rfl (by (try simp only [List.map_toArray, List.map_cons, List.map_nil]); rfl) ?_; (with_reducible refine (laws_toSketch.calls k _ _ l0_0 a0_1 t223 t226 _ ?side1 ?side2 A3.out).mono ?_); (case side1 => exact Kd.C_below HR0_0.out (by repeat ((with_reducible first | exact HB.out | refine below_set ?_ GE_W.out)))); (case side2 => exact HC0_0.out); rintro e w54 ⟨v_X, rfl, ho_X, hb⟩; refine ⟨_, rfl, ?_⟩; have hz_ : ∃ N0 : World, Kd.S (Kd.slice 3 (Kd.int .i64)) 58 w54 N0.heap.size (fun _ => True) v_X t223 ∧ Below N0.heap.size N0 w54 ∧ Below w.heap.size w N0 ∧ Kd.S (Kd.slice 3 (Kd.int .i64)) 58 w54 w.heap.size (fun k_ => True ∧ k_ < N0.heap.size) (.slice Ao_W t218.length co_W) t218 := ⟨_, ho_X, hb, (by repeat ((with_reducible first | exact HB.out | refine below_set ?_ GE_W.out))), Kd.S_mono (Kd.S_old (by (with_reducible repeat (first | apply Kd.S_alloc | apply Kd.S_drewN | apply Kd.S_drew )); exact Kd.S_drop (Kd.S_far (p := ⟨gb_W, 1, none⟩) (Kd.S_far (p := ⟨gb_W, 0, none⟩) (Kd.S_types HO_W.out BK_W.out (by decide)) (fun _ hk => hk.2) (.slice Ao_W t218.length co_W)) (fun _ hk => hk.2) (.int .i64 t221))) hb) (fun _ h_ => ⟨trivial, h_.2⟩)⟩; obtain ⟨WG, hx_X, hG0, hGW, hy_W⟩ := hz_; have n0_ := Aside0.mk (hy_W); have n1_ := Aside0.mk (hx_X); have n2_ := Aside0.mk (blk_below (g := gb_aS) (o := .cells #[.slice A0_0 l0_0.length c0_0, .int .i64 a0_1] 31 (0, 0)) (by (with_reducible repeat (first | refine blk_drewN ?_ _ | refine blk_drew ?_ | refine blk_alloc ?_ _ )); refine blk_far ?_ NB_aS_W.out _; (with_reducible repeat (first | refine blk_drewN ?_ _ | refine blk_drew ?_ | refine blk_alloc ?_ _ )); refine blk_far ?_ NB_aS_W.out _; (with_reducible repeat (first | refine blk_drewN ?_ _ | refine blk_drew ?_ | refine blk_alloc ?_ _ )); exact BK_aS.out) hb); have n3_ := Aside0.mk (blk_below (g := gb_W) (o := .cells #[.slice Ao_W t218.length co_W, .int .i64 t221] 26 (0, 0)) (by (with_reducible repeat (first | refine blk_drewN ?_ _ | refine blk_drew ?_ | refine blk_alloc ?_ _ )); refine blk_put (cs := #[.slice Ao_W t218.length co_W, .int .i64 0]) ?_ 1 _ rfl; (with_reducible repeat (first | refine blk_drewN ?_ _ | refine blk_drew ?_ | refine blk_alloc ?_ _ )); refine blk_put (cs := #[.slice none 0 0, .int .i64 0]) ?_ 0 _ rfl; (with_reducible repeat (first | refine blk_drewN ?_ _ | refine blk_drew ?_ | refine blk_alloc ?_ _ )); exact BK_W.out) hb); have n4_ := Aside0.mk (below_step (by repeat ((with_reducible first | exact HB.out | refine below_set ?_ GE_W.out))) hb); have n5_ := Aside0.mk (hG0); have n6_ := Aside0.mk (hGW); (try clear HO_W); (try clear HO_X); (try clear BK_aS); (try clear BK_W); (try clear HB); (try clear HG); (try clear HGW); have HO_W := n0_; have HO_X := n1_; have BK_aS := n2_; have BK_W := n3_; have HB := n4_; have HG := n5_; have HGW := n6_; clear n0_ n1_ n2_ n3_ n4_ n5_ n6_; (try clear hb ho_X hx_X hG0 hGW hy_W); obtain ⟨Ao_X, co_X, eo_X⟩ := Kd.S_slice HO_X.out; subst eo_X) | ((with_reducible refine gate_dst (N := 7) rfl ?_); refine box_event ?hg (N := 7) ?hd (cs := #[.slice none 0 0, .int .i64 0]) (t := 26) ?hr ?_; (case hd => rfl); (case hg => rfl); (case hr => (go_simp; done)); intro gb_X hg w55 hbox hb; have n0_ := Aside0.mk (Kd.S_below (by (with_reducible repeat (first | apply Kd.S_alloc | apply Kd.S_drewN | apply Kd.S_drew )); exact HO_W.out) hb); have n1_ := Aside0.mk (Kd.S_below (by (with_reducible repeat (first | apply Kd.S_alloc | apply Kd.S_drewN | apply Kd.S_drew )); exact HO_X.out) hb); have n2_ := Aside0.mk (blk_below (g := gb_aS) (o := .cells #[.slice A0_0 l0_0.length c0_0, .int .i64 a0_1] 31 (0, 0)) (by (with_reducible repeat (first | refine blk_drewN ?_ _ | refine blk_drew ?_ | refine blk_alloc ?_ _ )); exact BK_aS.out) hb); have n3_ := Aside0.mk (blk_below (g := gb_W) (o := .cells #[.slice Ao_W t218.length co_W, .int .i64 t221] 26 (0, 0)) (by (with_reducible repeat (first | refine blk_drewN ?_ _ | refine blk_drew ?_ | refine blk_alloc ?_ _ )); exact BK_W.out) hb); have n4_ := Aside0.mk (below_step (by repeat ((with_reducible exact HB.out))) hb); have n5_ := Aside0.mk (below_step (by repeat ((with_reducible exact HG.out))) hb); have n6_ := Aside0.mk (hbox); have n7_ := Aside0.mk ((by rw [hg]; exact (below_size (by repeat ((with_reducible exact HB.out)))) : w.heap.size ≤ gb_X)); have n8_ := Aside0.mk ((by rw [hg]; exact (below_size (by repeat ((with_reducible exact HG.out)))) : WG.heap.size ≤ gb_X)); have n9_ := Aside0.mk ((by rw [hg]; exact Nat.ne_of_lt (blk_lt (g := gb_aS) (o := .cells #[.slice A0_0 l0_0.length c0_0, .int .i64 a0_1] 31 (0, 0)) (by (with_reducible repeat (first | refine blk_drewN ?_ _ | refine blk_drew ?_ | refine blk_alloc ?_ _ )); exact BK_aS.out)) : gb_aS ≠ gb_X)); have n10_ := Aside0.mk ((by rw [hg]; exact Nat.ne_of_gt (blk_lt (g := gb_aS) (o := .cells #[.slice A0_0 l0_0.length c0_0, .int .i64 a0_1] 31 (0, 0)) (by (with_reducible repeat (first | refine blk_drewN ?_ _ | refine blk_drew ?_ | refine blk_alloc ?_ _ )); exact BK_aS.out)) : gb_X ≠ gb_aS)); have n11_ := Aside0.mk ((by rw [hg]; exact Nat.ne_of_lt (blk_lt (g := gb_W) (o := .cells #[.slice Ao_W t218.length co_W, .int .i64 t221] 26 (0, 0)) (by (with_reducible repeat (first | refine blk_drewN ?_ _ | refine blk_drew ?_ | refine blk_alloc ?_ _ )); exact BK_W.out)) : gb_W ≠ gb_X)); have n12_ := Aside0.mk ((by rw [hg]; exact Nat.ne_of_gt (blk_lt (g := gb_W) (o := .cells #[.slice Ao_W t218.length co_W, .int .i64 t221] 26 (0, 0)) (by (with_reducible repeat (first | refine blk_drewN ?_ _ | refine blk_drew ?_ | refine blk_alloc ?_ _ )); exact BK_W.out)) : gb_X ≠ gb_W)); (try clear HO_W); (try clear HO_X); (try clear BK_aS); (try clear BK_W); (try clear HB); (try clear HG); (try clear BK_X); (try clear GE_X); (try clear GG_X); (try clear NB_aS_X); (try clear NB_X_aS); (try clear NB_W_X); (try clear NB_X_W); have HO_W := n0_; have HO_X := n1_; have BK_aS := n2_; have BK_W := n3_; have HB := n4_; have HG := n5_; have BK_X := n6_; have GE_X := n7_; have GG_X := n8_; have NB_aS_X := n9_; have NB_X_aS := n10_; have NB_W_X := n11_; have NB_X_W := n12_; clear n0_ n1_ n2_ n3_ n4_ n5_ n6_ n7_ n8_ n9_ n10_ n11_ n12_; clear hb hbox hg; have hnb_aS_X := NB_aS_X.out; have hnb_X_aS := NB_X_aS.out; have hnb_W_X := NB_W_X.out; have hnb_X_W := NB_X_W.out; have hcz4_0 : w55.cell? ⟨gb_X, 0, none⟩ = some (.slice none 0 0) := (blk_cell BK_X.out 0).trans rfl; have hfz4_0 := blk_frozen BK_X.out 0; have hcz4_1 : w55.cell? ⟨gb_X, 1, none⟩ = some (.int .i64 0) := (blk_cell BK_X.out 1).trans rfl; have hfz4_1 := blk_frozen BK_X.out 1) | ((with_reducible refine gate_callee (f := 30) rfl ?_); refine goesL_ (some 29) rfl rfl Try.func30 (by kernel_rfl) rfl #[.agg #[.slice Ao_X t223.length co_X, .int .i64 t226], .string a1] rfl (by (try simp only [List.map_toArray, List.map_cons, List.map_nil]); rfl) ?_; (with_reducible refine (impl_SketchBump.calls k _ _ t223 t226 a1 t228 t231 _ ?side1 ?side2 A4.out).mono ?_); (case side1 => refine (Kd.S_reads' (e := 58) (base := WG.heap.size) (ok := (fun _ => True)) (n := t223.length) (c := co_X) ?_).2.2; exact (by (with_reducible repeat (first | apply Kd.S_alloc | apply Kd.S_drewN | apply Kd.S_drew )); exact Kd.S_drop (Kd.S_far (p := ⟨gb_X, 1, none⟩) (Kd.S_far (p := ⟨gb_X, 0, none⟩) (Kd.S_types HO_X.out BK_X.out (by decide)) (fun _ hk => hk.2) (.slice Ao_X t223.length co_X)) (fun _ hk => hk.2) (.int .i64 t226)))); (case side2 => exact (Kd.S_reads' HO_X.out).2.1); rintro e w56 ⟨v_G, rfl, ho_G, hb⟩; refine ⟨_, rfl, ?_⟩; have hz_ : ∃ n1 : Nat, Kd.S (Kd.slice 3 (Kd.int .i64)) 58 w56 WG.heap.size (fun k_ => n1 ≤ k_ ∧ (fun _ => True) k_) v_G t228 ∧ Kd.S (Kd.slice 3 (Kd.int .i64)) 58 w56 WG.heap.size (fun k_ => (fun _ => True) k_ ∧ k_ < n1) (.slice Ao_X t223.length co_X) t223 := ⟨_, Kd.S_mono (Kd.S_lower (Kd.S_bound ho_G) (below_size (by repeat ((with_reducible first | exact HG.out | refine below_set ?_ GG_X.out))))) (fun k_ h_ => ⟨h_.2.1, h_.1⟩), Kd.S_old (by (with_reducible repeat (first | apply Kd.S_alloc | apply Kd.S_drewN | apply Kd.S_drew )); exact Kd.S_drop (Kd.S_far (p := ⟨gb_X, 1, none⟩) (Kd.S_far (p := ⟨gb_X, 0, none⟩) (Kd.S_types HO_X.out BK_X.out (by decide)) (fun _ hk => hk.2) (.slice Ao_X t223.length co_X)) (fun _ hk => hk.2) (.int .i64 t226))) hb⟩; obtain ⟨n1, hx_G, hy_X⟩ := hz_; have n0_ := Aside0.mk (hy_X); have n1_ := Aside0.mk (hx_G); have n2_ := Aside0.mk (Kd.S_below (by (with_reducible repeat (first | apply Kd.S_alloc | apply Kd.S_drewN | apply Kd.S_drew )); exact Kd.S_drop (Kd.S_far (p := ⟨gb_X, 1, none⟩) (Kd.S_far (p := ⟨gb_X, 0, none⟩) (Kd.S_types HO_W.out BK_X.out (by decide)) (fun _ hk => hk.2) (.slice Ao_X t223.length co_X)) (fun _ hk => hk.2) (.int .i64 t226))) hb); have n3_ := Aside0.mk (blk_below (g := gb_aS) (o := .cells #[.slice A0_0 l0_0.length c0_0, .int .i64 a0_1] 31 (0, 0)) (by (with_reducible repeat (first | refine blk_drewN ?_ _ | refine blk_drew ?_ | refine blk_alloc ?_ _ )); refine blk_far ?_ NB_aS_X.out _; (with_reducible repeat (first | refine blk_drewN ?_ _ | refine blk_drew ?_ | refine blk_alloc ?_ _ )); refine blk_far ?_ NB_aS_X.out _; (with_reducible repeat (first | refine blk_drewN ?_ _ | refine blk_drew ?_ | refine blk_alloc ?_ _ )); exact BK_aS.out) hb); have n4_ := Aside0.mk (blk_below (g := gb_W) (o := .cells #[.slice Ao_W t218.length co_W, .int .i64 t221] 26 (0, 0)) (by (with_reducible repeat (first | refine blk_drewN ?_ _ | refine blk_drew ?_ | refine blk_alloc ?_ _ )); refine blk_far ?_ NB_W_X.out _; (with_reducible repeat (first | refine blk_drewN ?_ _ | refine blk_drew ?_ | refine blk_alloc ?_ _ )); refine blk_far ?_ NB_W_X.out _; (with_reducible repeat (first | refine blk_drewN ?_ _ | refine blk_drew ?_ | refine blk_alloc ?_ _ )); exact BK_W.out) hb); have n5_ := Aside0.mk (blk_below (g := gb_X) (o := .cells #[.slice Ao_X t223.length co_X, .int .i64 t226] 26 (0, 0)) (by (with_reducible repeat (first | refine blk_drewN ?_ _ | refine blk_drew ?_ | refine blk_alloc ?_ _ )); refine blk_put (cs := #[.slice Ao_X t223.length co_X, .int .i64 0]) ?_ 1 _ rfl; (with_reducible repeat (first | refine blk_drewN ?_ _ | refine blk_drew ?_ | refine blk_alloc ?_ _ )); refine blk_put (cs := #[.slice none 0 0, .int .i64 0]) ?_ 0 _ rfl; (with_reducible repeat (first | refine blk_drewN ?_ _ | refine blk_drew ?_ | refine blk_alloc ?_ _ )); exact BK_X.out) hb); have n6_ := Aside0.mk (below_step (by repeat ((with_reducible first | exact HB.out | refine below_set ?_ GE_X.out))) hb); have n7_ := Aside0.mk (below_step (by repeat ((with_reducible first | exact HG.out | refine below_set ?_ GG_X.out))) hb); (try clear HO_X); (try clear HO_G); (try clear HO_W); (try clear BK_aS); (try clear BK_W); (try clear BK_X); (try clear HB); (try clear HG); have HO_X := n0_; have HO_G := n1_; have HO_W := n2_; have BK_aS := n3_; have BK_W := n4_; have BK_X := n5_; have HB := n6_; have HG := n7_; clear n0_ n1_ n2_ n3_ n4_ n5_ n6_ n7_; (try clear hb ho_G hx_G hy_X); obtain ⟨Ao_G, co_G, eo_G⟩ := Kd.S_slice HO_G.out; subst eo_G) | ((with_reducible refine gate_dst (N := 8) rfl ?_); refine box_event ?hg (N := 8) ?hd (cs := #[.slice none 0 0, .int .i64 0]) (t := 26) ?hr ?_; (case hd => rfl); (case hg => rfl); (case hr => (go_simp; done)); intro gb_G hg w57 hbox hb; have n0_ := Aside0.mk (Kd.S_below (by (with_reducible repeat (first | apply Kd.S_alloc | apply Kd.S_drewN | apply Kd.S_drew )); exact HO_W.out) hb); have n1_ := Aside0.mk (Kd.S_below (by (with_reducible repeat (first | apply Kd.S_alloc | apply Kd.S_drewN | apply Kd.S_drew )); exact HO_X.out) hb); have n2_ := Aside0.mk (Kd.S_below (by (with_reducible repeat (first | apply Kd.S_alloc | apply Kd.S_drewN | apply Kd.S_drew )); exact HO_G.out) hb); have n3_ := Aside0.mk (blk_below (g := gb_aS) (o := .cells #[.slice A0_0 l0_0.length c0_0, .int .i64 a0_1] 31 (0, 0)) (by (with_reducible repeat (first | refine blk_drewN ?_ _ | refine blk_drew ?_ | refine blk_alloc ?_ _ )); exact BK_aS.out) hb); have n4_ := Aside0.mk (blk_below (g := gb_W) (o := .cells #[.slice Ao_W t218.length co_W, .int .i64 t221] 26 (0, 0)) (by (with_reducible repeat (first | refine blk_drewN ?_ _ | refine blk_drew ?_ | refine blk_alloc ?_ _ )); exact BK_W.out) hb); have n5_ := Aside0.mk (blk_below (g := gb_X) (o := .cells #[.slice Ao_X t223.length co_X, .int .i64 t226] 26 (0, 0)) (by (with_reducible repeat (first | refine blk_drewN ?_ _ | refine blk_drew ?_ | refine blk_alloc ?_ _ )); exact BK_X.out) hb); have n6_ := Aside0.mk (below_step (by repeat ((with_reducible exact HB.out))) hb); have n7_ := Aside0.mk (below_step (by repeat ((with_reducible exact HG.out))) hb); have n8_ := Aside0.mk (hbox); have n9_ := Aside0.mk ((by rw [hg]; exact (below_size (by repeat ((with_reducible exact HB.out)))) : w.heap.size ≤ gb_G)); have n10_ := Aside0.mk ((by rw [hg]; exact (below_size (by repeat ((with_reducible exact HG.out)))) : WG.heap.size ≤ gb_G)); have n11_ := Aside0.mk ((by rw [hg]; exact Nat.ne_of_lt (blk_lt (g := gb_aS) (o := .cells #[.slice A0_0 l0_0.length c0_0, .int .i64 a0_1] 31 (0, 0)) (by (with_reducible repeat (first | refine blk_drewN ?_ _ | refine blk_drew ?_ | refine blk_alloc ?_ _ )); exact BK_aS.out)) : gb_aS ≠ gb_G)); have n12_ := Aside0.mk ((by rw [hg]; exact Nat.ne_of_gt (blk_lt (g := gb_aS) (o := .cells #[.slice A0_0 l0_0.length c0_0, .int .i64 a0_1] 31 (0, 0)) (by (with_reducible repeat (first | refine blk_drewN ?_ _ | refine blk_drew ?_ | refine blk_alloc ?_ _ )); exact BK_aS.out)) : gb_G ≠ gb_aS)); have n13_ := Aside0.mk ((by rw [hg]; exact Nat.ne_of_lt (blk_lt (g := gb_W) (o := .cells #[.slice Ao_W t218.length co_W, .int .i64 t221] 26 (0, 0)) (by (with_reducible repeat (first | refine blk_drewN ?_ _ | refine blk_drew ?_ | refine blk_alloc ?_ _ )); exact BK_W.out)) : gb_W ≠ gb_G)); have n14_ := Aside0.mk ((by rw [hg]; exact Nat.ne_of_gt (blk_lt (g := gb_W) (o := .cells #[.slice Ao_W t218.length co_W, .int .i64 t221] 26 (0, 0)) (by (with_reducible repeat (first | refine blk_drewN ?_ _ | refine blk_drew ?_ | refine blk_alloc ?_ _ )); exact BK_W.out)) : gb_G ≠ gb_W)); have n15_ := Aside0.mk ((by rw [hg]; exact Nat.ne_of_lt (blk_lt (g := gb_X) (o := .cells #[.slice Ao_X t223.length co_X, .int .i64 t226] 26 (0, 0)) (by (with_reducible repeat (first | refine blk_drewN ?_ _ | refine blk_drew ?_ | refine blk_alloc ?_ _ )); exact BK_X.out)) : gb_X ≠ gb_G)); have n16_ := Aside0.mk ((by rw [hg]; exact Nat.ne_of_gt (blk_lt (g := gb_X) (o := .cells #[.slice Ao_X t223.length co_X, .int .i64 t226] 26 (0, 0)) (by (with_reducible repeat (first | refine blk_drewN ?_ _ | refine blk_drew ?_ | refine blk_alloc ?_ _ )); exact BK_X.out)) : gb_G ≠ gb_X)); (try clear HO_W); (try clear HO_X); (try clear HO_G); (try clear BK_aS); (try clear BK_W); (try clear BK_X); (try clear HB); (try clear HG); (try clear BK_G); (try clear GE_G); (try clear GG_G); (try clear NB_aS_G); (try clear NB_G_aS); (try clear NB_W_G); (try clear NB_G_W); (try clear NB_X_G); (try clear NB_G_X); have HO_W := n0_; have HO_X := n1_; have HO_G := n2_; have BK_aS := n3_; have BK_W := n4_; have BK_X := n5_; have HB := n6_; have HG := n7_; have BK_G := n8_; have GE_G := n9_; have GG_G := n10_; have NB_aS_G := n11_; have NB_G_aS := n12_; have NB_W_G := n13_; have NB_G_W := n14_; have NB_X_G := n15_; have NB_G_X := n16_; clear n0_ n1_ n2_ n3_ n4_ n5_ n6_ n7_ n8_ n9_ n10_ n11_ n12_ n13_ n14_ n15_ n16_; clear hb hbox hg; have hnb_aS_G := NB_aS_G.out; have hnb_G_aS := NB_G_aS.out; have hnb_W_G := NB_W_G.out; have hnb_G_W := NB_G_W.out; have hnb_X_G := NB_X_G.out; have hnb_G_X := NB_G_X.out; have hcz5_0 : w57.cell? ⟨gb_G, 0, none⟩ = some (.slice none 0 0) := (blk_cell BK_G.out 0).trans rfl; have hfz5_0 := blk_frozen BK_G.out 0; have hcz5_1 : w57.cell? ⟨gb_G, 1, none⟩ = some (.int .i64 0) := (blk_cell BK_G.out 1).trans rfl; have hfz5_1 := blk_frozen BK_G.out 1; have hcz6_0 : w57.cell? ⟨gb_W, 0, none⟩ = some (.slice Ao_W t218.length co_W) := (blk_cell BK_W.out 0).trans rfl; have hfz6_0 := blk_frozen BK_W.out 0; have hcz6_1 : w57.cell? ⟨gb_W, 1, none⟩ = some (.int .i64 t221) := (blk_cell BK_W.out 1).trans rfl; have hfz6_1 := blk_frozen BK_W.out 1) | ((with_reducible refine gate_callee (f := 21) rfl ?_); refine goesL_ (some 32) rfl rfl Try.func21 (by kernel_rfl) rfl #[.agg #[.slice Ao_G t228.length co_G, .int .i64 t231], .agg #[.slice Ao_W t218.length co_W, .int .i64 t221]] rfl (by (try simp only [List.map_toArray, List.map_cons, List.map_nil]); rfl) ?_; (with_reducible refine (laws_eqSketch.calls k _ _ t228 t231 _ _ t218 t221 true _ ?side1 ?side2 ?side3 ?side4 A5.out).mono ?_); (case side1 => refine (Kd.S_reads' (e := 58) (base := WG.heap.size) (ok := (fun k_ => n1 ≤ k_ ∧ (fun _ => True) k_)) (n := t228.length) (c := co_G) ?_).2.2; exact (by (with_reducible repeat (first | apply Kd.S_alloc | apply Kd.S_drewN | apply Kd.S_drew )); exact Kd.S_drop (Kd.S_far (p := ⟨gb_G, 1, none⟩) (Kd.S_far (p := ⟨gb_G, 0, none⟩) (Kd.S_types HO_G.out BK_G.out (by decide)) (fun _ hk => hk.2) (.slice Ao_G t228.length co_G)) (fun _ hk => hk.2) (.int .i64 t231)))); (case side2 => exact (Kd.S_reads' HO_G.out).2.1); (case side3 => refine (Kd.S_reads' (e := 58) (base := w.heap.size) (ok := (fun k_ => True ∧ k_ < WG.heap.size)) (n := t218.length) (c := co_W) ?_).2.2; exact (by (with_reducible repeat (first | apply Kd.S_alloc | apply Kd.S_drewN | apply Kd.S_drew )); exact Kd.S_drop (Kd.S_far (p := ⟨gb_G, 1, none⟩) (Kd.S_far (p := ⟨gb_G, 0, none⟩) (Kd.S_types HO_W.out BK_G.out (by decide)) (fun _ hk => hk.2) (.slice Ao_G t228.length co_G)) (fun _ hk => hk.2) (.int .i64 t231)))); (case side4 => exact (Kd.S_reads' HO_W.out).2.1); rintro e w58 ⟨rfl, hb⟩; refine ⟨_, rfl, ?_⟩; have n0_ := Aside0.mk (Kd.S_below (by (with_reducible repeat (first | apply Kd.S_alloc | apply Kd.S_drewN | apply Kd.S_drew )); exact Kd.S_drop (Kd.S_far (p := ⟨gb_G, 1, none⟩) (Kd.S_far (p := ⟨gb_G, 0, none⟩) (Kd.S_types HO_W.out BK_G.out (by decide)) (fun _ hk => hk.2) (.slice Ao_G t228.length co_G)) (fun _ hk => hk.2) (.int .i64 t231))) hb); have n1_ := Aside0.mk (Kd.S_below (by (with_reducible repeat (first | apply Kd.S_alloc | apply Kd.S_drewN | apply Kd.S_drew )); exact Kd.S_drop (Kd.S_far (p := ⟨gb_G, 1, none⟩) (Kd.S_far (p := ⟨gb_G, 0, none⟩) (Kd.S_types HO_X.out BK_G.out (by decide)) (fun _ hk => hk.2) (.slice Ao_G t228.length co_G)) (fun _ hk => hk.2) (.int .i64 t231))) hb); have n2_ := Aside0.mk (Kd.S_below (by (with_reducible repeat (first | apply Kd.S_alloc | apply Kd.S_drewN | apply Kd.S_drew )); exact Kd.S_drop (Kd.S_far (p := ⟨gb_G, 1, none⟩) (Kd.S_far (p := ⟨gb_G, 0, none⟩) (Kd.S_types HO_G.out BK_G.out (by decide)) (fun _ hk => hk.2) (.slice Ao_G t228.length co_G)) (fun _ hk => hk.2) (.int .i64 t231))) hb); have n3_ := Aside0.mk (blk_below (g := gb_aS) (o := .cells #[.slice A0_0 l0_0.length c0_0, .int .i64 a0_1] 31 (0, 0)) (by (with_reducible repeat (first | refine blk_drewN ?_ _ | refine blk_drew ?_ | refine blk_alloc ?_ _ )); refine blk_far ?_ NB_aS_G.out _; (with_reducible repeat (first | refine blk_drewN ?_ _ | refine blk_drew ?_ | refine blk_alloc ?_ _ )); refine blk_far ?_ NB_aS_G.out _; (with_reducible repeat (first | refine blk_drewN ?_ _ | refine blk_drew ?_ | refine blk_alloc ?_ _ )); exact BK_aS.out) hb); have n4_ := Aside0.mk (blk_below (g := gb_W) (o := .cells #[.slice Ao_W t218.length co_W, .int .i64 t221] 26 (0, 0)) (by (with_reducible repeat (first | refine blk_drewN ?_ _ | refine blk_drew ?_ | refine blk_alloc ?_ _ )); refine blk_far ?_ NB_W_G.out _; (with_reducible repeat (first | refine blk_drewN ?_ _ | refine blk_drew ?_ | refine blk_alloc ?_ _ )); refine blk_far ?_ NB_W_G.out _; (with_reducible repeat (first | refine blk_drewN ?_ _ | refine blk_drew ?_ | refine blk_alloc ?_ _ )); exact BK_W.out) hb); have n5_ := Aside0.mk (blk_below (g := gb_X) (o := .cells #[.slice Ao_X t223.length co_X, .int .i64 t226] 26 (0, 0)) (by (with_reducible repeat (first | refine blk_drewN ?_ _ | refine blk_drew ?_ | refine blk_alloc ?_ _ )); refine blk_far ?_ NB_X_G.out _; (with_reducible repeat (first | refine blk_drewN ?_ _ | refine blk_drew ?_ | refine blk_alloc ?_ _ )); refine blk_far ?_ NB_X_G.out _; (with_reducible repeat (first | refine blk_drewN ?_ _ | refine blk_drew ?_ | refine blk_alloc ?_ _ )); exact BK_X.out) hb); have n6_ := Aside0.mk (blk_below (g := gb_G) (o := .cells #[.slice Ao_G t228.length co_G, .int .i64 t231] 26 (0, 0)) (by (with_reducible repeat (first | refine blk_drewN ?_ _ | refine blk_drew ?_ | refine blk_alloc ?_ _ )); refine blk_put (cs := #[.slice Ao_G t228.length co_G, .int .i64 0]) ?_ 1 _ rfl; (with_reducible repeat (first | refine blk_drewN ?_ _ | refine blk_drew ?_ | refine blk_alloc ?_ _ )); refine blk_put (cs := #[.slice none 0 0, .int .i64 0]) ?_ 0 _ rfl; (with_reducible repeat (first | refine blk_drewN ?_ _ | refine blk_drew ?_ | refine blk_alloc ?_ _ )); exact BK_G.out) hb); have n7_ := Aside0.mk (below_step (by repeat ((with_reducible first | exact HB.out | refine below_set ?_ GE_G.out))) hb); have n8_ := Aside0.mk (below_step (by repeat ((with_reducible first | exact HG.out | refine below_set ?_ GG_G.out))) hb); (try clear HO_W); (try clear HO_X); (try clear HO_G); (try clear BK_aS); (try clear BK_W); (try clear BK_X); (try clear BK_G); (try clear HB); (try clear HG); have HO_W := n0_; have HO_X := n1_; have HO_G := n2_; have BK_aS := n3_; have BK_W := n4_; have BK_X := n5_; have BK_G := n6_; have HB := n7_; have HG := n8_; clear n0_ n1_ n2_ n3_ n4_ n5_ n6_ n7_ n8_; (try clear hb); have hcz7_0 : w58.cell? ⟨gb_X, 0, none⟩ = some (.slice Ao_X t223.length co_X) := (blk_cell BK_X.out 0).trans rfl; have hfz7_0 := blk_frozen BK_X.out 0; have hcz7_1 : w58.cell? ⟨gb_X, 1, none⟩ = some (.int .i64 t226) := (blk_cell BK_X.out 1).trans rfl; have hfz7_1 := blk_frozen BK_X.out 1; have hcz8_0 : w58.cell? ⟨gb_aS, 0, none⟩ = some (.slice A0_0 l0_0.length c0_0) := (blk_cell BK_aS.out 0).trans rfl; have hfz8_0 := blk_frozen BK_aS.out 0; have hcz8_1 : w58.cell? ⟨gb_aS, 1, none⟩ = some (.int .i64 a0_1) := (blk_cell BK_aS.out 1).trans rfl; have hfz8_1 := blk_frozen BK_aS.out 1))
      have n0_ := Aside0.mk (Kd.S_drew HO_W.out)
      have n1_ := Aside0.mk (Kd.S_drew HO_X.out)
      have n2_ := Aside0.mk (Kd.S_drew HO_G.out)
      have n3_ := Aside0.mk (blk_drew BK_aS.out)
      have n4_ := Aside0.mk (blk_drew BK_W.out)
      have n5_ := Aside0.mk (blk_drew BK_X.out)
      have n6_ := Aside0.mk (blk_drew BK_G.out)
      have n7_ := Aside0.mk (below_drew1 HB.out)
      have n8_ := Aside0.mk (below_drew1 HG.out)
      (try clear HO_W); (try clear HO_X); (try clear HO_G); (try clear BK_aS); (try clear BK_W); (try clear BK_X); (try clear BK_G); (try clear HB); (try clear HG)
      have HO_W := n0_
      have HO_X := n1_
      have HO_G := n2_
      have BK_aS := n3_
      have BK_W := n4_
      have BK_X := n5_
      have BK_G := n6_
      have HB := n7_
      have HG := n8_
      clear n0_ n1_ n2_ n3_ n4_ n5_ n6_ n7_ n8_
      refine start_ (n := 5) (S := fun w' => w'.cell? ⟨gb_X, 0, none⟩ = some (.slice Ao_X t223.length co_X) ∧ w'.cell? ⟨gb_X, 1, none⟩ = some (.int .i64 t226) ∧ w'.cell? ⟨gb_aS, 0, none⟩ = some (.slice A0_0 l0_0.length c0_0) ∧ w'.cell? ⟨gb_aS, 1, none⟩ = some (.int .i64 a0_1)) (ds := []) #[false, false, false, false, false] (by kernel_rfl) rfl rfl ⟨(blk_cell BK_X.out 0).trans rfl, (blk_cell BK_X.out 1).trans rfl, (blk_cell BK_aS.out 0).trans rfl, (blk_cell BK_aS.out 1).trans rfl⟩ (fun hHeld => ?_)
      generalize w58.drew = w200 at HO_W HO_X HO_G BK_aS BK_W BK_X BK_G HB HG hHeld ⊢
      refine take_ (i := 0) (N := some 34) (v := ?_) (a' := ?_) #[true, false, false, false, false] rfl rfl (by kernel_rfl) (fun _ _ _ h => h) (Or.inl ⟨by rfl, ?_⟩) hHeld ?_ ?_
      rotate_left
      · rintro w' ⟨s0, s1, s2, s3⟩
        go_simp
        with_reducible rfl
      rotate_left
      · simp only [Act.put, List.setIfInBounds_toArray, List.set_cons_zero, List.set_cons_succ, i64_w, i32_w]
        rfl
      refine take_ (i := 1) (N := some 35) (v := ?_) (a' := ?_) #[true, true, false, false, false] rfl rfl (by kernel_rfl) (fun _ _ _ h => h) (Or.inl ⟨by rfl, ?_⟩) hHeld ?_ ?_
      rotate_left
      · rintro w' ⟨s0, s1, s2, s3⟩
        go_simp
        with_reducible rfl
      rotate_left
      · simp only [Act.put, List.setIfInBounds_toArray, List.set_cons_zero, List.set_cons_succ, i64_w, i32_w]
        rfl
      refine one_ (i := 2) (N := some 36) #[true, true, true, false, false] rfl rfl (by kernel_rfl) (by decide) (fun K hK => ?_)
      refine goes_ Try.func26 (by kernel_rfl) rfl #[.agg #[.slice A0_0 l0_0.length c0_0, .int .i64 a0_1]] (by rfl) rfl rfl (by (try simp only [List.map_toArray, List.map_cons, List.map_nil]); rfl) ?_
      with_reducible refine (laws_toSketch.calls k _ _ l0_0 a0_1 t234 t237 _ ?side1 ?side2 A7.out).mono ?_
      (case side1 => exact Kd.C_below HR0_0.out (by repeat ((with_reducible exact HB.out))))
      (case side2 => exact HC0_0.out)
      rintro e w59 ⟨v_p2, rfl, ho_p2, hb⟩
      refine ⟨_, rfl, ?_⟩
      have n0_ := Aside0.mk (Kd.S_below (by (with_reducible repeat (first | apply Kd.S_alloc | apply Kd.S_drewN | apply Kd.S_drew )); exact HO_W.out) hb)
      have n1_ := Aside0.mk (Kd.S_below (by (with_reducible repeat (first | apply Kd.S_alloc | apply Kd.S_drewN | apply Kd.S_drew )); exact HO_X.out) hb)
      have n2_ := Aside0.mk (Kd.S_below (by (with_reducible repeat (first | apply Kd.S_alloc | apply Kd.S_drewN | apply Kd.S_drew )); exact HO_G.out) hb)
      have n3_ := Aside0.mk (blk_below (g := gb_aS) (o := .cells #[.slice A0_0 l0_0.length c0_0, .int .i64 a0_1] 31 (0, 0)) (by (with_reducible repeat (first | refine blk_drewN ?_ _ | refine blk_drew ?_ | refine blk_alloc ?_ _ )); exact BK_aS.out) hb)
      have n4_ := Aside0.mk (blk_below (g := gb_W) (o := .cells #[.slice Ao_W t218.length co_W, .int .i64 t221] 26 (0, 0)) (by (with_reducible repeat (first | refine blk_drewN ?_ _ | refine blk_drew ?_ | refine blk_alloc ?_ _ )); exact BK_W.out) hb)
      have n5_ := Aside0.mk (blk_below (g := gb_X) (o := .cells #[.slice Ao_X t223.length co_X, .int .i64 t226] 26 (0, 0)) (by (with_reducible repeat (first | refine blk_drewN ?_ _ | refine blk_drew ?_ | refine blk_alloc ?_ _ )); exact BK_X.out) hb)
      have n6_ := Aside0.mk (blk_below (g := gb_G) (o := .cells #[.slice Ao_G t228.length co_G, .int .i64 t231] 26 (0, 0)) (by (with_reducible repeat (first | refine blk_drewN ?_ _ | refine blk_drew ?_ | refine blk_alloc ?_ _ )); exact BK_G.out) hb)
      have n7_ := Aside0.mk (below_step (by repeat ((with_reducible exact HB.out))) hb)
      have n8_ := Aside0.mk (below_step (by repeat ((with_reducible exact HG.out))) hb)
      have n9_ := Aside0.mk (Kd.S_lower ho_p2 (below_size (by repeat ((with_reducible exact HG.out)))))
      (try clear HO_W); (try clear HO_X); (try clear HO_G); (try clear BK_aS); (try clear BK_W); (try clear BK_X); (try clear BK_G); (try clear HB); (try clear HG); (try clear HO_p2)
      have HO_W := n0_
      have HO_X := n1_
      have HO_G := n2_
      have BK_aS := n3_
      have BK_W := n4_
      have BK_X := n5_
      have BK_G := n6_
      have HB := n7_
      have HG := n8_
      have HO_p2 := n9_
      clear n0_ n1_ n2_ n3_ n4_ n5_ n6_ n7_ n8_ n9_
      (try clear hb ho_p2)
      obtain ⟨Ao_p2, co_p2, eo_p2⟩ := Kd.S_slice HO_p2.out
      subst eo_p2
      refine hK.out _ _ ⟨(blk_cell BK_X.out 0).trans rfl, (blk_cell BK_X.out 1).trans rfl, (blk_cell BK_aS.out 0).trans rfl, (blk_cell BK_aS.out 1).trans rfl⟩ (fun hHeld => ?_)
      clear hK K
      refine norm_ (a' := ?_) ?_ ?_
      rotate_left
      · show Act.put _ (some 36) _ = _
        simp only [Act.put, List.setIfInBounds_toArray, List.set_cons_zero, List.set_cons_succ, i64_w, i32_w]
        rfl
      refine one_ (i := 3) (N := some 37) #[true, true, true, true, false] rfl rfl (by kernel_rfl) (by decide) (fun K hK => ?_)
      refine goes_ Try.func21 (by kernel_rfl) rfl #[.agg #[.slice Ao_X t223.length co_X, .int .i64 t226], .agg #[.slice Ao_p2 t234.length co_p2, .int .i64 t237]] (by rfl) rfl rfl (by (try simp only [List.map_toArray, List.map_cons, List.map_nil]); rfl) ?_
      with_reducible refine (laws_eqSketch.calls k _ _ t223 t226 _ _ t234 t237 true _ ?side1 ?side2 ?side3 ?side4 A8.out).mono ?_
      (case side1 => repeat (exact (Kd.S_reads' HO_X.out).2.2))
      (case side2 => exact (Kd.S_reads' HO_X.out).2.1)
      (case side3 => repeat (exact (Kd.S_reads' HO_p2.out).2.2))
      (case side4 => exact (Kd.S_reads' HO_p2.out).2.1)
      rintro e w60 ⟨rfl, hb⟩
      refine ⟨_, rfl, ?_⟩
      have n0_ := Aside0.mk (Kd.S_below (by (with_reducible repeat (first | apply Kd.S_alloc | apply Kd.S_drewN | apply Kd.S_drew )); exact HO_W.out) hb)
      have n1_ := Aside0.mk (Kd.S_below (by (with_reducible repeat (first | apply Kd.S_alloc | apply Kd.S_drewN | apply Kd.S_drew )); exact HO_X.out) hb)
      have n2_ := Aside0.mk (Kd.S_below (by (with_reducible repeat (first | apply Kd.S_alloc | apply Kd.S_drewN | apply Kd.S_drew )); exact HO_G.out) hb)
      have n3_ := Aside0.mk (Kd.S_below (by (with_reducible repeat (first | apply Kd.S_alloc | apply Kd.S_drewN | apply Kd.S_drew )); exact HO_p2.out) hb)
      have n4_ := Aside0.mk (blk_below (g := gb_aS) (o := .cells #[.slice A0_0 l0_0.length c0_0, .int .i64 a0_1] 31 (0, 0)) (by (with_reducible repeat (first | refine blk_drewN ?_ _ | refine blk_drew ?_ | refine blk_alloc ?_ _ )); exact BK_aS.out) hb)
      have n5_ := Aside0.mk (blk_below (g := gb_W) (o := .cells #[.slice Ao_W t218.length co_W, .int .i64 t221] 26 (0, 0)) (by (with_reducible repeat (first | refine blk_drewN ?_ _ | refine blk_drew ?_ | refine blk_alloc ?_ _ )); exact BK_W.out) hb)
      have n6_ := Aside0.mk (blk_below (g := gb_X) (o := .cells #[.slice Ao_X t223.length co_X, .int .i64 t226] 26 (0, 0)) (by (with_reducible repeat (first | refine blk_drewN ?_ _ | refine blk_drew ?_ | refine blk_alloc ?_ _ )); exact BK_X.out) hb)
      have n7_ := Aside0.mk (blk_below (g := gb_G) (o := .cells #[.slice Ao_G t228.length co_G, .int .i64 t231] 26 (0, 0)) (by (with_reducible repeat (first | refine blk_drewN ?_ _ | refine blk_drew ?_ | refine blk_alloc ?_ _ )); exact BK_G.out) hb)
      have n8_ := Aside0.mk (below_step (by repeat ((with_reducible exact HB.out))) hb)
      have n9_ := Aside0.mk (below_step (by repeat ((with_reducible exact HG.out))) hb)
      (try clear HO_W); (try clear HO_X); (try clear HO_G); (try clear HO_p2); (try clear BK_aS); (try clear BK_W); (try clear BK_X); (try clear BK_G); (try clear HB); (try clear HG)
      have HO_W := n0_
      have HO_X := n1_
      have HO_G := n2_
      have HO_p2 := n3_
      have BK_aS := n4_
      have BK_W := n5_
      have BK_X := n6_
      have BK_G := n7_
      have HB := n8_
      have HG := n9_
      clear n0_ n1_ n2_ n3_ n4_ n5_ n6_ n7_ n8_ n9_
      (try clear hb)
      refine hK.out _ _ ⟨(blk_cell BK_X.out 0).trans rfl, (blk_cell BK_X.out 1).trans rfl, (blk_cell BK_aS.out 0).trans rfl, (blk_cell BK_aS.out 1).trans rfl⟩ (fun hHeld => ?_)
      clear hK K
      refine norm_ (a' := ?_) ?_ ?_
      rotate_left
      · show Act.put _ (some 37) _ = _
        simp only [Act.put, List.setIfInBounds_toArray, List.set_cons_zero, List.set_cons_succ, i64_w, i32_w]
        rfl
      refine pure_ (i := 4) (N := some 38) (v := ?_) (a' := ?_) #[true, true, true, true, true] rfl rfl (by kernel_rfl) (fun _ _ _ h => h) (Or.inl ⟨by rfl, ?_⟩) ?_ ?_
      rotate_left
      · intro w'
        go_simp
        with_reducible rfl
      rotate_left
      · simp only [Act.put, List.setIfInBounds_toArray, List.set_cons_zero, List.set_cons_succ, i64_w, i32_w]
        rfl
      refine done_ (by kernel_rfl) ?_
      have hcz9_0 : w60.cell? ⟨gb_X, 0, none⟩ = some (.slice Ao_X t223.length co_X) := (blk_cell BK_X.out 0).trans rfl
      have hfz9_0 := blk_frozen BK_X.out 0
      have hcz9_1 : w60.cell? ⟨gb_X, 1, none⟩ = some (.int .i64 t226) := (blk_cell BK_X.out 1).trans rfl
      have hfz9_1 := blk_frozen BK_X.out 1
      go_wp2_with (first | ((with_reducible refine gate_callee (f := 22) rfl ?_); refine goesL_ (some 41) rfl rfl Try.func22 (by kernel_rfl) rfl #[.agg #[.slice Ao_X t223.length co_X, .int .i64 t226], .int .i64 1] rfl (by (try simp only [List.map_toArray, List.map_cons, List.map_nil]); rfl) ?_; (with_reducible refine (laws_markSketch.callsP k _ _ t223 t226 1 t239 m239 WG _ HG.out HO_X.out A10.out).mono ?_); rintro e w61 ⟨rfl, ho, hb, hkp⟩; refine ⟨_, rfl, ?_⟩; have n0_ := Aside0.mk (Kd.S_kept HO_W.out hkp (fun k_ hk_ hs_ => absurd hs_.2.1 (Nat.not_le.2 hk_.2))); have n1_ := Aside0.mk (Kd.S_kept HO_G.out hkp (fun k_ hk_ hs_ => absurd hs_.1.2 (Nat.not_lt.2 hk_.1))); have n2_ := Aside0.mk (blk_kept BK_aS.out hkp (fun hs_ => by obtain ⟨_, _, cells_, hc_⟩ := hs_; exact absurd (BK_aS.out.symm.trans hc_) (by simp))); have n3_ := Aside0.mk (blk_kept BK_W.out hkp (fun hs_ => by obtain ⟨_, _, cells_, hc_⟩ := hs_; exact absurd (BK_W.out.symm.trans hc_) (by simp))); have n4_ := Aside0.mk (blk_kept BK_X.out hkp (fun hs_ => by obtain ⟨_, _, cells_, hc_⟩ := hs_; exact absurd (BK_X.out.symm.trans hc_) (by simp))); have n5_ := Aside0.mk (blk_kept BK_G.out hkp (fun hs_ => by obtain ⟨_, _, cells_, hc_⟩ := hs_; exact absurd (BK_G.out.symm.trans hc_) (by simp))); have n6_ := Aside0.mk (below_step HGW.out (laws_FnExactSketchBump.below_up_ HG.out hb)); have n7_ := Aside0.mk (hb); (try clear HO_W); (try clear HO_G); (try clear BK_aS); (try clear BK_W); (try clear BK_X); (try clear BK_G); (try clear HB); (try clear HG); have HO_W := n0_; have HO_G := n1_; have BK_aS := n2_; have BK_W := n3_; have BK_X := n4_; have BK_G := n5_; have HB := n6_; have HG := n7_; clear n0_ n1_ n2_ n3_ n4_ n5_ n6_ n7_; (try clear ho hb hkp); have hcz10_0 : w61.cell? ⟨gb_G, 0, none⟩ = some (.slice Ao_G t228.length co_G) := (blk_cell BK_G.out 0).trans rfl; have hfz10_0 := blk_frozen BK_G.out 0; have hcz10_1 : w61.cell? ⟨gb_G, 1, none⟩ = some (.int .i64 t231) := (blk_cell BK_G.out 1).trans rfl; have hfz10_1 := blk_frozen BK_G.out 1; have hcz11_0 : w61.cell? ⟨gb_W, 0, none⟩ = some (.slice Ao_W t218.length co_W) := (blk_cell BK_W.out 0).trans rfl; have hfz11_0 := blk_frozen BK_W.out 0; have hcz11_1 : w61.cell? ⟨gb_W, 1, none⟩ = some (.int .i64 t221) := (blk_cell BK_W.out 1).trans rfl; have hfz11_1 := blk_frozen BK_W.out 1) | (go_at_call 21; (with_reducible refine (laws_eqSketch.calls k _ _ t228 t231 _ _ t218 t221 true _ ?side1 ?side2 ?side3 ?side4 A12.out).mono ?_); (case side1 => repeat (exact (Kd.S_reads' HO_G.out).2.2)); (case side2 => exact (Kd.S_reads' HO_G.out).2.1); (case side3 => repeat (exact (Kd.S_reads' HO_W.out).2.2)); (case side4 => exact (Kd.S_reads' HO_W.out).2.1); rintro e w62 ⟨rfl, hb⟩; have n0_ := Aside0.mk (Kd.S_below (by (with_reducible repeat (first | apply Kd.S_alloc | apply Kd.S_drewN | apply Kd.S_drew )); exact HO_W.out) hb); have n1_ := Aside0.mk (Kd.S_below (by (with_reducible repeat (first | apply Kd.S_alloc | apply Kd.S_drewN | apply Kd.S_drew )); exact HO_G.out) hb); have n2_ := Aside0.mk (blk_below (g := gb_aS) (o := .cells #[.slice A0_0 l0_0.length c0_0, .int .i64 a0_1] 31 (0, 0)) (by (with_reducible repeat (first | refine blk_drewN ?_ _ | refine blk_drew ?_ | refine blk_alloc ?_ _ )); exact BK_aS.out) hb); have n3_ := Aside0.mk (blk_below (g := gb_W) (o := .cells #[.slice Ao_W t218.length co_W, .int .i64 t221] 26 (0, 0)) (by (with_reducible repeat (first | refine blk_drewN ?_ _ | refine blk_drew ?_ | refine blk_alloc ?_ _ )); exact BK_W.out) hb); have n4_ := Aside0.mk (blk_below (g := gb_X) (o := .cells #[.slice Ao_X t223.length co_X, .int .i64 t226] 26 (0, 0)) (by (with_reducible repeat (first | refine blk_drewN ?_ _ | refine blk_drew ?_ | refine blk_alloc ?_ _ )); exact BK_X.out) hb); have n5_ := Aside0.mk (blk_below (g := gb_G) (o := .cells #[.slice Ao_G t228.length co_G, .int .i64 t231] 26 (0, 0)) (by (with_reducible repeat (first | refine blk_drewN ?_ _ | refine blk_drew ?_ | refine blk_alloc ?_ _ )); exact BK_G.out) hb); have n6_ := Aside0.mk (below_step (by repeat ((with_reducible exact HB.out))) hb); have n7_ := Aside0.mk (below_step (by repeat ((with_reducible exact HG.out))) hb); (try clear HO_W); (try clear HO_G); (try clear BK_aS); (try clear BK_W); (try clear BK_X); (try clear BK_G); (try clear HB); (try clear HG); have HO_W := n0_; have HO_G := n1_; have BK_aS := n2_; have BK_W := n3_; have BK_X := n4_; have BK_G := n5_; have HB := n6_; have HG := n7_; clear n0_ n1_ n2_ n3_ n4_ n5_ n6_ n7_; (try clear hb); have hcz12_0 : w62.cell? ⟨gb_G, 0, none⟩ = some (.slice Ao_G t228.length co_G) := (blk_cell BK_G.out 0).trans rfl; have hfz12_0 := blk_frozen BK_G.out 0; have hcz12_1 : w62.cell? ⟨gb_G, 1, none⟩ = some (.int .i64 t231) := (blk_cell BK_G.out 1).trans rfl; have hfz12_1 := blk_frozen BK_G.out 1) | ((with_reducible refine gate_callee (f := 22) rfl ?_); refine goesL_ (some 52) rfl rfl Try.func22 (by kernel_rfl) rfl #[.agg #[.slice Ao_G t228.length co_G, .int .i64 t231], .int .i64 1] rfl (by (try simp only [List.map_toArray, List.map_cons, List.map_nil]); rfl) ?_; (with_reducible refine (laws_markSketch.callsP k _ _ t228 t231 1 t241 m241 WG _ HG.out HO_G.out A14.out).mono ?_); rintro e w63 ⟨rfl, ho, hb, hkp⟩; refine ⟨_, rfl, ?_⟩; have n0_ := Aside0.mk (Kd.S_kept HO_W.out hkp (fun k_ hk_ hs_ => absurd hs_.2.1 (Nat.not_le.2 hk_.2))); have n1_ := Aside0.mk (blk_kept BK_aS.out hkp (fun hs_ => by obtain ⟨_, _, cells_, hc_⟩ := hs_; exact absurd (BK_aS.out.symm.trans hc_) (by simp))); have n2_ := Aside0.mk (blk_kept BK_W.out hkp (fun hs_ => by obtain ⟨_, _, cells_, hc_⟩ := hs_; exact absurd (BK_W.out.symm.trans hc_) (by simp))); have n3_ := Aside0.mk (blk_kept BK_X.out hkp (fun hs_ => by obtain ⟨_, _, cells_, hc_⟩ := hs_; exact absurd (BK_X.out.symm.trans hc_) (by simp))); have n4_ := Aside0.mk (blk_kept BK_G.out hkp (fun hs_ => by obtain ⟨_, _, cells_, hc_⟩ := hs_; exact absurd (BK_G.out.symm.trans hc_) (by simp))); have n5_ := Aside0.mk (below_step HGW.out (laws_FnExactSketchBump.below_up_ HG.out hb)); have n6_ := Aside0.mk (hb); have n7_ := Aside0.mk (ho); (try clear HO_W); (try clear BK_aS); (try clear BK_W); (try clear BK_X); (try clear BK_G); (try clear HB); (try clear HG); (try clear HO_G); have HO_W := n0_; have BK_aS := n1_; have BK_W := n2_; have BK_X := n3_; have BK_G := n4_; have HB := n5_; have HG := n6_; have HO_G := n7_; clear n0_ n1_ n2_ n3_ n4_ n5_ n6_ n7_; have hlen_ := Aside0.mk ((Kd.S_reads' ho).1); (try clear ho hb hkp); have hcz13_0 : w63.cell? ⟨gb_G, 0, none⟩ = some (.slice Ao_G t228.length co_G) := (blk_cell BK_G.out 0).trans rfl; have hfz13_0 := blk_frozen BK_G.out 0; have hcz13_1 : w63.cell? ⟨gb_G, 1, none⟩ = some (.int .i64 t231) := (blk_cell BK_G.out 1).trans rfl; have hfz13_1 := blk_frozen BK_G.out 1) | ((with_reducible refine gate_callee (f := 23) rfl ?_); refine goesL_ (some 55) rfl rfl Try.func23 (by kernel_rfl) rfl #[.agg #[.slice Ao_G t228.length co_G, .int .i64 t231], .int .i64 1] rfl (by (try simp only [List.map_toArray, List.map_cons, List.map_nil]); rfl) ?_; (with_reducible refine (laws_FnExactSketchBump.calls_held k _ _ t228.length m241 t231 1 t242 _ hlen_.out ?side1 ?side2 A15.out).mono ?_); (case side1 => exact (Kd.S_reads' (by (with_reducible repeat (first | apply Kd.S_alloc | apply Kd.S_drewN | apply Kd.S_drew )); exact HO_G.out)).2.2); (case side2 => exact (Kd.S_reads' HO_G.out).2.1); rintro e w64 ⟨rfl, hb⟩; refine ⟨_, rfl, ?_⟩; have n0_ := Aside0.mk (Kd.S_below (by (with_reducible repeat (first | apply Kd.S_alloc | apply Kd.S_drewN | apply Kd.S_drew )); exact HO_W.out) hb); have n1_ := Aside0.mk (Kd.S_below (by (with_reducible repeat (first | apply Kd.S_alloc | apply Kd.S_drewN | apply Kd.S_drew )); exact HO_G.out) hb); have n2_ := Aside0.mk (blk_below (g := gb_aS) (o := .cells #[.slice A0_0 l0_0.length c0_0, .int .i64 a0_1] 31 (0, 0)) (by (with_reducible repeat (first | refine blk_drewN ?_ _ | refine blk_drew ?_ | refine blk_alloc ?_ _ )); exact BK_aS.out) hb); have n3_ := Aside0.mk (blk_below (g := gb_W) (o := .cells #[.slice Ao_W t218.length co_W, .int .i64 t221] 26 (0, 0)) (by (with_reducible repeat (first | refine blk_drewN ?_ _ | refine blk_drew ?_ | refine blk_alloc ?_ _ )); exact BK_W.out) hb); have n4_ := Aside0.mk (blk_below (g := gb_X) (o := .cells #[.slice Ao_X t223.length co_X, .int .i64 t226] 26 (0, 0)) (by (with_reducible repeat (first | refine blk_drewN ?_ _ | refine blk_drew ?_ | refine blk_alloc ?_ _ )); exact BK_X.out) hb); have n5_ := Aside0.mk (blk_below (g := gb_G) (o := .cells #[.slice Ao_G t228.length co_G, .int .i64 t231] 26 (0, 0)) (by (with_reducible repeat (first | refine blk_drewN ?_ _ | refine blk_drew ?_ | refine blk_alloc ?_ _ )); exact BK_G.out) hb); have n6_ := Aside0.mk (below_step (by repeat ((with_reducible exact HB.out))) hb); have n7_ := Aside0.mk (below_step (by repeat ((with_reducible exact HG.out))) hb); (try clear HO_W); (try clear HO_G); (try clear BK_aS); (try clear BK_W); (try clear BK_X); (try clear BK_G); (try clear HB); (try clear HG); have HO_W := n0_; have HO_G := n1_; have BK_aS := n2_; have BK_W := n3_; have BK_X := n4_; have BK_G := n5_; have HB := n6_; have HG := n7_; clear n0_ n1_ n2_ n3_ n4_ n5_ n6_ n7_; (try clear hb); have hcz14_0 : w64.cell? ⟨gb_aS, 0, none⟩ = some (.slice A0_0 l0_0.length c0_0) := (blk_cell BK_aS.out 0).trans rfl; have hfz14_0 := blk_frozen BK_aS.out 0; have hcz14_1 : w64.cell? ⟨gb_aS, 1, none⟩ = some (.int .i64 a0_1) := (blk_cell BK_aS.out 1).trans rfl; have hfz14_1 := blk_frozen BK_aS.out 1) | ((with_reducible refine gate_callee (f := 26) rfl ?_); refine goesL_ (some 62) rfl rfl Try.func26 (by kernel_rfl) rfl #[.agg #[.slice A0_0 l0_0.length c0_0, .int .i64 a0_1]] rfl (by (try simp only [List.map_toArray, List.map_cons, List.map_nil]); rfl) ?_; (with_reducible refine (laws_toSketch.calls k _ _ l0_0 a0_1 t243 t246 _ ?side1 ?side2 A18.out).mono ?_); (case side1 => exact Kd.C_below HR0_0.out (by repeat ((with_reducible exact HB.out)))); (case side2 => exact HC0_0.out); rintro e w65 ⟨v_p3, rfl, ho_p3, hb⟩; refine ⟨_, rfl, ?_⟩; have n0_ := Aside0.mk (Kd.S_below (by (with_reducible repeat (first | apply Kd.S_alloc | apply Kd.S_drewN | apply Kd.S_drew )); exact HO_W.out) hb); have n1_ := Aside0.mk (Kd.S_below (by (with_reducible repeat (first | apply Kd.S_alloc | apply Kd.S_drewN | apply Kd.S_drew )); exact HO_G.out) hb); have n2_ := Aside0.mk (blk_below (g := gb_aS) (o := .cells #[.slice A0_0 l0_0.length c0_0, .int .i64 a0_1] 31 (0, 0)) (by (with_reducible repeat (first | refine blk_drewN ?_ _ | refine blk_drew ?_ | refine blk_alloc ?_ _ )); exact BK_aS.out) hb); have n3_ := Aside0.mk (blk_below (g := gb_W) (o := .cells #[.slice Ao_W t218.length co_W, .int .i64 t221] 26 (0, 0)) (by (with_reducible repeat (first | refine blk_drewN ?_ _ | refine blk_drew ?_ | refine blk_alloc ?_ _ )); exact BK_W.out) hb); have n4_ := Aside0.mk (blk_below (g := gb_X) (o := .cells #[.slice Ao_X t223.length co_X, .int .i64 t226] 26 (0, 0)) (by (with_reducible repeat (first | refine blk_drewN ?_ _ | refine blk_drew ?_ | refine blk_alloc ?_ _ )); exact BK_X.out) hb); have n5_ := Aside0.mk (blk_below (g := gb_G) (o := .cells #[.slice Ao_G t228.length co_G, .int .i64 t231] 26 (0, 0)) (by (with_reducible repeat (first | refine blk_drewN ?_ _ | refine blk_drew ?_ | refine blk_alloc ?_ _ )); exact BK_G.out) hb); have n6_ := Aside0.mk (below_step (by repeat ((with_reducible exact HB.out))) hb); have n7_ := Aside0.mk (below_step (by repeat ((with_reducible exact HG.out))) hb); have n8_ := Aside0.mk (Kd.S_lower ho_p3 (below_size (by repeat ((with_reducible exact HG.out))))); (try clear HO_W); (try clear HO_G); (try clear BK_aS); (try clear BK_W); (try clear BK_X); (try clear BK_G); (try clear HB); (try clear HG); (try clear HO_p3); have HO_W := n0_; have HO_G := n1_; have BK_aS := n2_; have BK_W := n3_; have BK_X := n4_; have BK_G := n5_; have HB := n6_; have HG := n7_; have HO_p3 := n8_; clear n0_ n1_ n2_ n3_ n4_ n5_ n6_ n7_ n8_; (try clear hb ho_p3); obtain ⟨Ao_p3, co_p3, eo_p3⟩ := Kd.S_slice HO_p3.out; subst eo_p3) | ((with_reducible refine gate_callee (f := 30) rfl ?_); refine goesL_ (some 64) rfl rfl Try.func30 (by kernel_rfl) rfl #[.agg #[.slice Ao_p3 t243.length co_p3, .int .i64 t246], .string a1] rfl (by (try simp only [List.map_toArray, List.map_cons, List.map_nil]); rfl) ?_; (with_reducible refine (impl_SketchBump.calls k _ _ t243 t246 a1 t247 t250 _ ?side1 ?side2 A19.out).mono ?_); (case side1 => repeat (exact (Kd.S_reads' HO_p3.out).2.2)); (case side2 => exact (Kd.S_reads' HO_p3.out).2.1); rintro e w66 ⟨v_H, rfl, ho_H, hb⟩; refine ⟨_, rfl, ?_⟩; have n0_ := Aside0.mk (Kd.S_below (by (with_reducible repeat (first | apply Kd.S_alloc | apply Kd.S_drewN | apply Kd.S_drew )); exact HO_W.out) hb); have n1_ := Aside0.mk (Kd.S_below (by (with_reducible repeat (first | apply Kd.S_alloc | apply Kd.S_drewN | apply Kd.S_drew )); exact HO_G.out) hb); have n2_ := Aside0.mk (Kd.S_below (by (with_reducible repeat (first | apply Kd.S_alloc | apply Kd.S_drewN | apply Kd.S_drew )); exact HO_p3.out) hb); have n3_ := Aside0.mk (blk_below (g := gb_aS) (o := .cells #[.slice A0_0 l0_0.length c0_0, .int .i64 a0_1] 31 (0, 0)) (by (with_reducible repeat (first | refine blk_drewN ?_ _ | refine blk_drew ?_ | refine blk_alloc ?_ _ )); exact BK_aS.out) hb); have n4_ := Aside0.mk (blk_below (g := gb_W) (o := .cells #[.slice Ao_W t218.length co_W, .int .i64 t221] 26 (0, 0)) (by (with_reducible repeat (first | refine blk_drewN ?_ _ | refine blk_drew ?_ | refine blk_alloc ?_ _ )); exact BK_W.out) hb); have n5_ := Aside0.mk (blk_below (g := gb_X) (o := .cells #[.slice Ao_X t223.length co_X, .int .i64 t226] 26 (0, 0)) (by (with_reducible repeat (first | refine blk_drewN ?_ _ | refine blk_drew ?_ | refine blk_alloc ?_ _ )); exact BK_X.out) hb); have n6_ := Aside0.mk (blk_below (g := gb_G) (o := .cells #[.slice Ao_G t228.length co_G, .int .i64 t231] 26 (0, 0)) (by (with_reducible repeat (first | refine blk_drewN ?_ _ | refine blk_drew ?_ | refine blk_alloc ?_ _ )); exact BK_G.out) hb); have n7_ := Aside0.mk (below_step (by repeat ((with_reducible exact HB.out))) hb); have n8_ := Aside0.mk (below_step (by repeat ((with_reducible exact HG.out))) hb); have n9_ := Aside0.mk (Kd.S_lower ho_H (below_size (by repeat ((with_reducible exact HG.out))))); (try clear HO_W); (try clear HO_G); (try clear HO_p3); (try clear BK_aS); (try clear BK_W); (try clear BK_X); (try clear BK_G); (try clear HB); (try clear HG); (try clear HO_H); have HO_W := n0_; have HO_G := n1_; have HO_p3 := n2_; have BK_aS := n3_; have BK_W := n4_; have BK_X := n5_; have BK_G := n6_; have HB := n7_; have HG := n8_; have HO_H := n9_; clear n0_ n1_ n2_ n3_ n4_ n5_ n6_ n7_ n8_ n9_; (try clear hb ho_H); obtain ⟨Ao_H, co_H, eo_H⟩ := Kd.S_slice HO_H.out; subst eo_H) | ((with_reducible refine gate_dst (N := 12) rfl ?_); refine box_event ?hg (N := 12) ?hd (cs := #[.slice none 0 0, .int .i64 0]) (t := 26) ?hr ?_; (case hd => rfl); (case hg => rfl); (case hr => (go_simp; done)); intro gb_H hg w67 hbox hb; have n0_ := Aside0.mk (Kd.S_below (by (with_reducible repeat (first | apply Kd.S_alloc | apply Kd.S_drewN | apply Kd.S_drew )); exact HO_W.out) hb); have n1_ := Aside0.mk (Kd.S_below (by (with_reducible repeat (first | apply Kd.S_alloc | apply Kd.S_drewN | apply Kd.S_drew )); exact HO_G.out) hb); have n2_ := Aside0.mk (Kd.S_below (by (with_reducible repeat (first | apply Kd.S_alloc | apply Kd.S_drewN | apply Kd.S_drew )); exact HO_H.out) hb); have n3_ := Aside0.mk (blk_below (g := gb_aS) (o := .cells #[.slice A0_0 l0_0.length c0_0, .int .i64 a0_1] 31 (0, 0)) (by (with_reducible repeat (first | refine blk_drewN ?_ _ | refine blk_drew ?_ | refine blk_alloc ?_ _ )); exact BK_aS.out) hb); have n4_ := Aside0.mk (blk_below (g := gb_W) (o := .cells #[.slice Ao_W t218.length co_W, .int .i64 t221] 26 (0, 0)) (by (with_reducible repeat (first | refine blk_drewN ?_ _ | refine blk_drew ?_ | refine blk_alloc ?_ _ )); exact BK_W.out) hb); have n5_ := Aside0.mk (blk_below (g := gb_X) (o := .cells #[.slice Ao_X t223.length co_X, .int .i64 t226] 26 (0, 0)) (by (with_reducible repeat (first | refine blk_drewN ?_ _ | refine blk_drew ?_ | refine blk_alloc ?_ _ )); exact BK_X.out) hb); have n6_ := Aside0.mk (blk_below (g := gb_G) (o := .cells #[.slice Ao_G t228.length co_G, .int .i64 t231] 26 (0, 0)) (by (with_reducible repeat (first | refine blk_drewN ?_ _ | refine blk_drew ?_ | refine blk_alloc ?_ _ )); exact BK_G.out) hb); have n7_ := Aside0.mk (below_step (by repeat ((with_reducible exact HB.out))) hb); have n8_ := Aside0.mk (below_step (by repeat ((with_reducible exact HG.out))) hb); have n9_ := Aside0.mk (hbox); have n10_ := Aside0.mk ((by rw [hg]; exact (below_size (by repeat ((with_reducible exact HB.out)))) : w.heap.size ≤ gb_H)); have n11_ := Aside0.mk ((by rw [hg]; exact (below_size (by repeat ((with_reducible exact HG.out)))) : WG.heap.size ≤ gb_H)); have n12_ := Aside0.mk ((by rw [hg]; exact Nat.ne_of_lt (blk_lt (g := gb_aS) (o := .cells #[.slice A0_0 l0_0.length c0_0, .int .i64 a0_1] 31 (0, 0)) (by (with_reducible repeat (first | refine blk_drewN ?_ _ | refine blk_drew ?_ | refine blk_alloc ?_ _ )); exact BK_aS.out)) : gb_aS ≠ gb_H)); have n13_ := Aside0.mk ((by rw [hg]; exact Nat.ne_of_gt (blk_lt (g := gb_aS) (o := .cells #[.slice A0_0 l0_0.length c0_0, .int .i64 a0_1] 31 (0, 0)) (by (with_reducible repeat (first | refine blk_drewN ?_ _ | refine blk_drew ?_ | refine blk_alloc ?_ _ )); exact BK_aS.out)) : gb_H ≠ gb_aS)); have n14_ := Aside0.mk ((by rw [hg]; exact Nat.ne_of_lt (blk_lt (g := gb_W) (o := .cells #[.slice Ao_W t218.length co_W, .int .i64 t221] 26 (0, 0)) (by (with_reducible repeat (first | refine blk_drewN ?_ _ | refine blk_drew ?_ | refine blk_alloc ?_ _ )); exact BK_W.out)) : gb_W ≠ gb_H)); have n15_ := Aside0.mk ((by rw [hg]; exact Nat.ne_of_gt (blk_lt (g := gb_W) (o := .cells #[.slice Ao_W t218.length co_W, .int .i64 t221] 26 (0, 0)) (by (with_reducible repeat (first | refine blk_drewN ?_ _ | refine blk_drew ?_ | refine blk_alloc ?_ _ )); exact BK_W.out)) : gb_H ≠ gb_W)); have n16_ := Aside0.mk ((by rw [hg]; exact Nat.ne_of_lt (blk_lt (g := gb_X) (o := .cells #[.slice Ao_X t223.length co_X, .int .i64 t226] 26 (0, 0)) (by (with_reducible repeat (first | refine blk_drewN ?_ _ | refine blk_drew ?_ | refine blk_alloc ?_ _ )); exact BK_X.out)) : gb_X ≠ gb_H)); have n17_ := Aside0.mk ((by rw [hg]; exact Nat.ne_of_gt (blk_lt (g := gb_X) (o := .cells #[.slice Ao_X t223.length co_X, .int .i64 t226] 26 (0, 0)) (by (with_reducible repeat (first | refine blk_drewN ?_ _ | refine blk_drew ?_ | refine blk_alloc ?_ _ )); exact BK_X.out)) : gb_H ≠ gb_X)); have n18_ := Aside0.mk ((by rw [hg]; exact Nat.ne_of_lt (blk_lt (g := gb_G) (o := .cells #[.slice Ao_G t228.length co_G, .int .i64 t231] 26 (0, 0)) (by (with_reducible repeat (first | refine blk_drewN ?_ _ | refine blk_drew ?_ | refine blk_alloc ?_ _ )); exact BK_G.out)) : gb_G ≠ gb_H)); have n19_ := Aside0.mk ((by rw [hg]; exact Nat.ne_of_gt (blk_lt (g := gb_G) (o := .cells #[.slice Ao_G t228.length co_G, .int .i64 t231] 26 (0, 0)) (by (with_reducible repeat (first | refine blk_drewN ?_ _ | refine blk_drew ?_ | refine blk_alloc ?_ _ )); exact BK_G.out)) : gb_H ≠ gb_G)); (try clear HO_W); (try clear HO_G); (try clear HO_H); (try clear BK_aS); (try clear BK_W); (try clear BK_X); (try clear BK_G); (try clear HB); (try clear HG); (try clear BK_H); (try clear GE_H); (try clear GG_H); (try clear NB_aS_H); (try clear NB_H_aS); (try clear NB_W_H); (try clear NB_H_W); (try clear NB_X_H); (try clear NB_H_X); (try clear NB_G_H); (try clear NB_H_G); have HO_W := n0_; have HO_G := n1_; have HO_H := n2_; have BK_aS := n3_; have BK_W := n4_; have BK_X := n5_; have BK_G := n6_; have HB := n7_; have HG := n8_; have BK_H := n9_; have GE_H := n10_; have GG_H := n11_; have NB_aS_H := n12_; have NB_H_aS := n13_; have NB_W_H := n14_; have NB_H_W := n15_; have NB_X_H := n16_; have NB_H_X := n17_; have NB_G_H := n18_; have NB_H_G := n19_; clear n0_ n1_ n2_ n3_ n4_ n5_ n6_ n7_ n8_ n9_ n10_ n11_ n12_ n13_ n14_ n15_ n16_ n17_ n18_ n19_; clear hb hbox hg; have hnb_aS_H := NB_aS_H.out; have hnb_H_aS := NB_H_aS.out; have hnb_W_H := NB_W_H.out; have hnb_H_W := NB_H_W.out; have hnb_X_H := NB_X_H.out; have hnb_H_X := NB_H_X.out; have hnb_G_H := NB_G_H.out; have hnb_H_G := NB_H_G.out; have hcz15_0 : w67.cell? ⟨gb_H, 0, none⟩ = some (.slice none 0 0) := (blk_cell BK_H.out 0).trans rfl; have hfz15_0 := blk_frozen BK_H.out 0; have hcz15_1 : w67.cell? ⟨gb_H, 1, none⟩ = some (.int .i64 0) := (blk_cell BK_H.out 1).trans rfl; have hfz15_1 := blk_frozen BK_H.out 1; have hcz16_0 : w67.cell? ⟨gb_W, 0, none⟩ = some (.slice Ao_W t218.length co_W) := (blk_cell BK_W.out 0).trans rfl; have hfz16_0 := blk_frozen BK_W.out 0; have hcz16_1 : w67.cell? ⟨gb_W, 1, none⟩ = some (.int .i64 t221) := (blk_cell BK_W.out 1).trans rfl; have hfz16_1 := blk_frozen BK_W.out 1) | ((with_reducible refine gate_callee (f := 21) rfl ?_); refine goesL_ (some 67) rfl rfl Try.func21 (by kernel_rfl) rfl #[.agg #[.slice Ao_H t247.length co_H, .int .i64 t250], .agg #[.slice Ao_W t218.length co_W, .int .i64 t221]] rfl (by (try simp only [List.map_toArray, List.map_cons, List.map_nil]); rfl) ?_; (with_reducible refine (laws_eqSketch.calls k _ _ t247 t250 _ _ t218 t221 true _ ?side1 ?side2 ?side3 ?side4 A20.out).mono ?_); (case side1 => refine (Kd.S_reads' (e := 58) (base := WG.heap.size) (ok := (fun _ => True)) (n := t247.length) (c := co_H) ?_).2.2; exact (by (with_reducible repeat (first | apply Kd.S_alloc | apply Kd.S_drewN | apply Kd.S_drew )); exact Kd.S_drop (Kd.S_far (p := ⟨gb_H, 1, none⟩) (Kd.S_far (p := ⟨gb_H, 0, none⟩) (Kd.S_types HO_H.out BK_H.out (by decide)) (fun _ hk => hk.2) (.slice Ao_H t247.length co_H)) (fun _ hk => hk.2) (.int .i64 t250)))); (case side2 => exact (Kd.S_reads' HO_H.out).2.1); (case side3 => refine (Kd.S_reads' (e := 58) (base := w.heap.size) (ok := (fun k_ => True ∧ k_ < WG.heap.size)) (n := t218.length) (c := co_W) ?_).2.2; exact (by (with_reducible repeat (first | apply Kd.S_alloc | apply Kd.S_drewN | apply Kd.S_drew )); exact Kd.S_drop (Kd.S_far (p := ⟨gb_H, 1, none⟩) (Kd.S_far (p := ⟨gb_H, 0, none⟩) (Kd.S_types HO_W.out BK_H.out (by decide)) (fun _ hk => hk.2) (.slice Ao_H t247.length co_H)) (fun _ hk => hk.2) (.int .i64 t250)))); (case side4 => exact (Kd.S_reads' HO_W.out).2.1); rintro e w68 ⟨rfl, hb⟩; refine ⟨_, rfl, ?_⟩; have n0_ := Aside0.mk (Kd.S_below (by (with_reducible repeat (first | apply Kd.S_alloc | apply Kd.S_drewN | apply Kd.S_drew )); exact Kd.S_drop (Kd.S_far (p := ⟨gb_H, 1, none⟩) (Kd.S_far (p := ⟨gb_H, 0, none⟩) (Kd.S_types HO_W.out BK_H.out (by decide)) (fun _ hk => hk.2) (.slice Ao_H t247.length co_H)) (fun _ hk => hk.2) (.int .i64 t250))) hb); have n1_ := Aside0.mk (Kd.S_below (by (with_reducible repeat (first | apply Kd.S_alloc | apply Kd.S_drewN | apply Kd.S_drew )); exact Kd.S_drop (Kd.S_far (p := ⟨gb_H, 1, none⟩) (Kd.S_far (p := ⟨gb_H, 0, none⟩) (Kd.S_types HO_G.out BK_H.out (by decide)) (fun _ hk => hk.2) (.slice Ao_H t247.length co_H)) (fun _ hk => hk.2) (.int .i64 t250))) hb); have n2_ := Aside0.mk (Kd.S_below (by (with_reducible repeat (first | apply Kd.S_alloc | apply Kd.S_drewN | apply Kd.S_drew )); exact Kd.S_drop (Kd.S_far (p := ⟨gb_H, 1, none⟩) (Kd.S_far (p := ⟨gb_H, 0, none⟩) (Kd.S_types HO_H.out BK_H.out (by decide)) (fun _ hk => hk.2) (.slice Ao_H t247.length co_H)) (fun _ hk => hk.2) (.int .i64 t250))) hb); have n3_ := Aside0.mk (blk_below (g := gb_aS) (o := .cells #[.slice A0_0 l0_0.length c0_0, .int .i64 a0_1] 31 (0, 0)) (by (with_reducible repeat (first | refine blk_drewN ?_ _ | refine blk_drew ?_ | refine blk_alloc ?_ _ )); refine blk_far ?_ NB_aS_H.out _; (with_reducible repeat (first | refine blk_drewN ?_ _ | refine blk_drew ?_ | refine blk_alloc ?_ _ )); refine blk_far ?_ NB_aS_H.out _; (with_reducible repeat (first | refine blk_drewN ?_ _ | refine blk_drew ?_ | refine blk_alloc ?_ _ )); exact BK_aS.out) hb); have n4_ := Aside0.mk (blk_below (g := gb_W) (o := .cells #[.slice Ao_W t218.length co_W, .int .i64 t221] 26 (0, 0)) (by (with_reducible repeat (first | refine blk_drewN ?_ _ | refine blk_drew ?_ | refine blk_alloc ?_ _ )); refine blk_far ?_ NB_W_H.out _; (with_reducible repeat (first | refine blk_drewN ?_ _ | refine blk_drew ?_ | refine blk_alloc ?_ _ )); refine blk_far ?_ NB_W_H.out _; (with_reducible repeat (first | refine blk_drewN ?_ _ | refine blk_drew ?_ | refine blk_alloc ?_ _ )); exact BK_W.out) hb); have n5_ := Aside0.mk (blk_below (g := gb_X) (o := .cells #[.slice Ao_X t223.length co_X, .int .i64 t226] 26 (0, 0)) (by (with_reducible repeat (first | refine blk_drewN ?_ _ | refine blk_drew ?_ | refine blk_alloc ?_ _ )); refine blk_far ?_ NB_X_H.out _; (with_reducible repeat (first | refine blk_drewN ?_ _ | refine blk_drew ?_ | refine blk_alloc ?_ _ )); refine blk_far ?_ NB_X_H.out _; (with_reducible repeat (first | refine blk_drewN ?_ _ | refine blk_drew ?_ | refine blk_alloc ?_ _ )); exact BK_X.out) hb); have n6_ := Aside0.mk (blk_below (g := gb_G) (o := .cells #[.slice Ao_G t228.length co_G, .int .i64 t231] 26 (0, 0)) (by (with_reducible repeat (first | refine blk_drewN ?_ _ | refine blk_drew ?_ | refine blk_alloc ?_ _ )); refine blk_far ?_ NB_G_H.out _; (with_reducible repeat (first | refine blk_drewN ?_ _ | refine blk_drew ?_ | refine blk_alloc ?_ _ )); refine blk_far ?_ NB_G_H.out _; (with_reducible repeat (first | refine blk_drewN ?_ _ | refine blk_drew ?_ | refine blk_alloc ?_ _ )); exact BK_G.out) hb); have n7_ := Aside0.mk (blk_below (g := gb_H) (o := .cells #[.slice Ao_H t247.length co_H, .int .i64 t250] 26 (0, 0)) (by (with_reducible repeat (first | refine blk_drewN ?_ _ | refine blk_drew ?_ | refine blk_alloc ?_ _ )); refine blk_put (cs := #[.slice Ao_H t247.length co_H, .int .i64 0]) ?_ 1 _ rfl; (with_reducible repeat (first | refine blk_drewN ?_ _ | refine blk_drew ?_ | refine blk_alloc ?_ _ )); refine blk_put (cs := #[.slice none 0 0, .int .i64 0]) ?_ 0 _ rfl; (with_reducible repeat (first | refine blk_drewN ?_ _ | refine blk_drew ?_ | refine blk_alloc ?_ _ )); exact BK_H.out) hb); have n8_ := Aside0.mk (below_step (by repeat ((with_reducible first | exact HB.out | refine below_set ?_ GE_H.out))) hb); have n9_ := Aside0.mk (below_step (by repeat ((with_reducible first | exact HG.out | refine below_set ?_ GG_H.out))) hb); (try clear HO_W); (try clear HO_G); (try clear HO_H); (try clear BK_aS); (try clear BK_W); (try clear BK_X); (try clear BK_G); (try clear BK_H); (try clear HB); (try clear HG); have HO_W := n0_; have HO_G := n1_; have HO_H := n2_; have BK_aS := n3_; have BK_W := n4_; have BK_X := n5_; have BK_G := n6_; have BK_H := n7_; have HB := n8_; have HG := n9_; clear n0_ n1_ n2_ n3_ n4_ n5_ n6_ n7_ n8_ n9_; (try clear hb); have hcz17_0 : w68.cell? ⟨gb_G, 0, none⟩ = some (.slice Ao_G t228.length co_G) := (blk_cell BK_G.out 0).trans rfl; have hfz17_0 := blk_frozen BK_G.out 0; have hcz17_1 : w68.cell? ⟨gb_G, 1, none⟩ = some (.int .i64 t231) := (blk_cell BK_G.out 1).trans rfl; have hfz17_1 := blk_frozen BK_G.out 1) | ((with_reducible refine gate_callee (f := 23) rfl ?_); refine goesL_ (some 71) rfl rfl Try.func23 (by kernel_rfl) rfl #[.agg #[.slice Ao_G t228.length co_G, .int .i64 t231], .int .i64 1] rfl (by (try simp only [List.map_toArray, List.map_cons, List.map_nil]); rfl) ?_; (with_reducible refine (laws_FnExactSketchBump.calls_held k _ _ t228.length m241 t231 1 t252 _ hlen_.out ?side1 ?side2 A22.out).mono ?_); (case side1 => exact (Kd.S_reads' (by (with_reducible repeat (first | apply Kd.S_alloc | apply Kd.S_drewN | apply Kd.S_drew )); exact HO_G.out)).2.2); (case side2 => exact (Kd.S_reads' HO_G.out).2.1); rintro e w69 ⟨rfl, hb⟩; refine ⟨_, rfl, ?_⟩; have n0_ := Aside0.mk (Kd.S_below (by (with_reducible repeat (first | apply Kd.S_alloc | apply Kd.S_drewN | apply Kd.S_drew )); exact HO_W.out) hb); have n1_ := Aside0.mk (Kd.S_below (by (with_reducible repeat (first | apply Kd.S_alloc | apply Kd.S_drewN | apply Kd.S_drew )); exact HO_G.out) hb); have n2_ := Aside0.mk (Kd.S_below (by (with_reducible repeat (first | apply Kd.S_alloc | apply Kd.S_drewN | apply Kd.S_drew )); exact HO_H.out) hb); have n3_ := Aside0.mk (blk_below (g := gb_aS) (o := .cells #[.slice A0_0 l0_0.length c0_0, .int .i64 a0_1] 31 (0, 0)) (by (with_reducible repeat (first | refine blk_drewN ?_ _ | refine blk_drew ?_ | refine blk_alloc ?_ _ )); exact BK_aS.out) hb); have n4_ := Aside0.mk (blk_below (g := gb_W) (o := .cells #[.slice Ao_W t218.length co_W, .int .i64 t221] 26 (0, 0)) (by (with_reducible repeat (first | refine blk_drewN ?_ _ | refine blk_drew ?_ | refine blk_alloc ?_ _ )); exact BK_W.out) hb); have n5_ := Aside0.mk (blk_below (g := gb_X) (o := .cells #[.slice Ao_X t223.length co_X, .int .i64 t226] 26 (0, 0)) (by (with_reducible repeat (first | refine blk_drewN ?_ _ | refine blk_drew ?_ | refine blk_alloc ?_ _ )); exact BK_X.out) hb); have n6_ := Aside0.mk (blk_below (g := gb_G) (o := .cells #[.slice Ao_G t228.length co_G, .int .i64 t231] 26 (0, 0)) (by (with_reducible repeat (first | refine blk_drewN ?_ _ | refine blk_drew ?_ | refine blk_alloc ?_ _ )); exact BK_G.out) hb); have n7_ := Aside0.mk (blk_below (g := gb_H) (o := .cells #[.slice Ao_H t247.length co_H, .int .i64 t250] 26 (0, 0)) (by (with_reducible repeat (first | refine blk_drewN ?_ _ | refine blk_drew ?_ | refine blk_alloc ?_ _ )); exact BK_H.out) hb); have n8_ := Aside0.mk (below_step (by repeat ((with_reducible exact HB.out))) hb); have n9_ := Aside0.mk (below_step (by repeat ((with_reducible exact HG.out))) hb); (try clear HO_W); (try clear HO_G); (try clear HO_H); (try clear BK_aS); (try clear BK_W); (try clear BK_X); (try clear BK_G); (try clear BK_H); (try clear HB); (try clear HG); have HO_W := n0_; have HO_G := n1_; have HO_H := n2_; have BK_aS := n3_; have BK_W := n4_; have BK_X := n5_; have BK_G := n6_; have BK_H := n7_; have HB := n8_; have HG := n9_; clear n0_ n1_ n2_ n3_ n4_ n5_ n6_ n7_ n8_ n9_; (try clear hb)))
      go_ret
      exact ⟨rfl, (by repeat ((with_reducible exact HB.out)))⟩

end Go.Proofs.Ytoopdknphikgkaa.Q
