import Derived.Test.YtiibecpllokhiaaDoorHtB0
import Derived.Test.YtiibecpllokhiaaDoorHtG58
import Derived.Test.YtiibecpllokhiaaDoorHtG68
import Derived.Test.YtiibecpllokhiaaDoorHtWords
namespace Go.Proofs.YtiibecpllokhiaaDoor.Q
open Go.RowKit Go.Proofs.YtiibecpllokhiaaDoorW.PrintWords Go.Proofs.YtiibecpllokhiaaDoorW.PrintLast Go.Proofs.YtiibecpllokhiaaDoorW.PrintMore
attribute [local go_sem] max2_int min2_int max_two min_two max_three min_three max_four min_four   -- for this text's walks alone
set_option linter.unusedVariables false
set_option linter.unusedSimpArgs false
def impl_headText.l0 : Nat → ByteArray → List (S40) → Int → Int → Option (ByteArray)
  | 0, _, _, _, _ => none
  | k + 1, x3, x10, x11, x12 => if x12 < x11 then (if 0 ≤ x12 then (if x12 < (x10.length : Int) then (if ((rd_T40 x10 x12).f0).size + 2 ≤ 9223372036854775807 then (if (((rd_T40 x10 x12).f0) ++ (⟨#[58, 32]⟩ : ByteArray)).size + ((rd_T40 x10 x12).f1).size ≤ 9223372036854775807 then (if ((((rd_T40 x10 x12).f0) ++ (⟨#[58, 32]⟩ : ByteArray)) ++ ((rd_T40 x10 x12).f1)).size + 2 ≤ 9223372036854775807 then (if x3.size + (((((rd_T40 x10 x12).f0) ++ (⟨#[58, 32]⟩ : ByteArray)) ++ ((rd_T40 x10 x12).f1)) ++ (⟨#[13, 10]⟩ : ByteArray)).size ≤ 9223372036854775807 then (impl_headText.l0 k (x3 ++ (((((rd_T40 x10 x12).f0) ++ (⟨#[58, 32]⟩ : ByteArray)) ++ ((rd_T40 x10 x12).f1)) ++ (⟨#[13, 10]⟩ : ByteArray))) x10 x11 (wrap64 (x12 + 1))) else (none)) else (none)) else (none)) else (none)) else (none)) else (none)) else (if x3.size + 2 ≤ 9223372036854775807 then (some (x3 ++ (⟨#[13, 10]⟩ : ByteArray))) else (none))
def impl_headText.f (k : Nat) (a0_0 : ByteArray) (l0_1 : List (S40)) : Option (ByteArray) := if a0_0.size + 2 ≤ 9223372036854775807 then (impl_headText.l0 k (a0_0 ++ (⟨#[13, 10]⟩ : ByteArray)) l0_1 (l0_1.length : Int) 0) else (none)
set_option maxHeartbeats 8000000 in
set_option maxRecDepth 100000 in
theorem impl_headText.calls (k : Nat) (a0_0 : ByteArray) (A0_1 : Option Addr) (c0_1 : Nat) (l0_1 : List (S40)) (r : ByteArray) (w : World) (hr0_1 : Kd.C k40 w A0_1 l0_1.length l0_1) (hc0_1 : l0_1.length ≤ c0_1) (h : impl_headText.f k a0_0 l0_1 = some r) :
    Calls Tryd.prog 49 #[.agg #[.string a0_0, .slice A0_1 l0_1.length c0_1]] w fun e w' => e = .returned (.string r) ∧ Below w.heap.size w w' := by
  have hu26 := Tryd.underlying26
  have hu40 := Tryd.underlying40
  have HR0_1 := Aside0.mk hr0_1
  have HC0_1 := Aside0.mk hc0_1
  clear hr0_1 hc0_1
  have HB := Aside0.mk (Below.refl w.heap.size w)
  have H : (if a0_0.size + 2 ≤ 9223372036854775807 then (impl_headText.l0 k (a0_0 ++ (⟨#[13, 10]⟩ : ByteArray)) l0_1 (l0_1.length : Int) 0) else (none)) = some r := h
  clear h
  by_cases c2 : a0_0.size + 2 ≤ 9223372036854775807
  · rw [if_pos c2] at H
    have c2b0 := eq_true c2
    have c2b1 : decide (a0_0.size + 2 ≤ 9223372036854775807) = true := decide_eq_true c2
    have c2b2 : (9223372036854775807 < a0_0.size + 2) = False := eq_false (Nat.not_lt.2 c2)
    have H' := Aside0.mk H
    clear H
    go_enter Tryd.func49, Tryd.ntmps49
    go_wp2_with (((with_reducible refine gate_dst (N := 1) rfl ?_); refine box_event ?hg (N := 1) ?hd (cs := #[.string a0_0, .slice A0_1 l0_1.length c0_1]) (t := 26) ?hr ?_; (case hd => rfl); (case hg => rfl); (case hr => (go_simp; done)); intro gb173 hg w3 hbox hb; have n0_ := Aside0.mk (below_step (by repeat ((with_reducible exact HB.out))) hb); have n1_ := Aside0.mk (hbox); have n2_ := Aside0.mk ((by rw [hg]; exact (below_size (by repeat ((with_reducible exact HB.out)))) : w.heap.size ≤ gb173)); have n3_ := Aside0.mk ((by rw [hg]; exact (below_size (by repeat ((with_reducible exact HB.out)))) : w.heap.size ≤ gb173)); clear HB; have HB := n0_; have BK173 := n1_; have GW173 := n2_; have GE173 := n3_; clear n0_ n1_ n2_ n3_; clear hb hbox hg; have hcz4_0 : w3.cell? ⟨gb173, 0, none⟩ = some (.string a0_0) := (blk_cell BK173.out 0).trans rfl; have hcz4_1 : w3.cell? ⟨gb173, 1, none⟩ = some (.slice A0_1 l0_1.length c0_1) := (blk_cell BK173.out 1).trans rfl; have hfz4_0 := blk_frozen BK173.out 0; have hfz4_1 := blk_frozen BK173.out 1))
    go_loopg [3, 12] k (fun kq v3 v12 w' => ∃ (x3_1 : ByteArray) (x12_1 : Int), v3 = .string x3_1 ∧ v12 = .int .i64 x12_1 ∧ Aside0 (impl_headText.l0 kq x3_1 l0_1 (l0_1.length : Int) x12_1 = some r) ∧ Aside0 (kq ≤ k) ∧ Aside0 (w'.heap[gb173]? = some (.cells #[.string a0_0, (.slice A0_1 l0_1.length c0_1)] 26 (0, 0))) ∧ Aside0 (Below w.heap.size w w'))
    case atStart => exact ⟨(a0_0 ++ (⟨#[13, 10]⟩ : ByteArray)), (0), (by rfl), (by rfl), H', ⟨Nat.le_refl _⟩, ⟨by (with_reducible repeat (first | refine blk_drewN ?_ _ | refine blk_drew ?_ | refine blk_alloc ?_ _ )); exact BK173.out⟩, ⟨by repeat ((with_reducible exact HB.out))⟩⟩
    case round =>
      clear H'
      clear c2
      clear c2b0
      clear c2b1
      clear c2b2
      clear hcz4_0
      clear hcz4_1
      clear hfz4_0
      clear hfz4_1
      obtain ⟨x3_1, x12_1, rfl, rfl, HA, HK1, BK173, HB⟩ := hrel
      cases gk with
      | zero => exact absurd HA.out (by simp [impl_headText.l0])
      | succ k1 =>
        have H := HA.out
        clear HA
        simp only [impl_headText.l0] at H
        by_cases c5 : x12_1 < (l0_1.length : Int)
        · rw [if_pos c5] at H
          have c5b0 : decide (x12_1 < (l0_1.length : Int)) = true := decide_eq_true c5
          clear c5
          by_cases c6 : 0 ≤ x12_1
          · rw [if_pos c6] at H
            have c6b0 : decide (0 ≤ x12_1) = true := decide_eq_true c6
            clear c6
            by_cases c7 : x12_1 < (l0_1.length : Int)
            · rw [if_pos c7] at H
              have c7b0 : decide (x12_1 < (l0_1.length : Int)) = true := decide_eq_true c7
              clear c7
              by_cases c8 : ((rd_T40 l0_1 x12_1).f0).size + 2 ≤ 9223372036854775807
              · rw [if_pos c8] at H
                have c8b0 := eq_true c8
                have c8b1 : decide (((rd_T40 l0_1 x12_1).f0).size + 2 ≤ 9223372036854775807) = true := decide_eq_true c8
                have c8b2 : (9223372036854775807 < ((rd_T40 l0_1 x12_1).f0).size + 2) = False := eq_false (Nat.not_lt.2 c8)
                by_cases c9 : (((rd_T40 l0_1 x12_1).f0) ++ (⟨#[58, 32]⟩ : ByteArray)).size + ((rd_T40 l0_1 x12_1).f1).size ≤ 9223372036854775807
                · rw [if_pos c9] at H
                  have c9b0 := eq_true c9
                  have c9b1 : decide ((((rd_T40 l0_1 x12_1).f0) ++ (⟨#[58, 32]⟩ : ByteArray)).size + ((rd_T40 l0_1 x12_1).f1).size ≤ 9223372036854775807) = true := decide_eq_true c9
                  have c9x : ((rd_T40 l0_1 x12_1).f0).size + 2 + ((rd_T40 l0_1 x12_1).f1).size ≤ 9223372036854775807 := by have h_ := c9; (try simp only [ByteArray.size_append] at h_); exact h_
                  have c9x0 := eq_true c9x
                  have c9x2 : (9223372036854775807 < ((rd_T40 l0_1 x12_1).f0).size + 2 + ((rd_T40 l0_1 x12_1).f1).size) = False := eq_false (Nat.not_lt.2 c9x)
                  have c9b2 : (9223372036854775807 < (((rd_T40 l0_1 x12_1).f0) ++ (⟨#[58, 32]⟩ : ByteArray)).size + ((rd_T40 l0_1 x12_1).f1).size) = False := eq_false (Nat.not_lt.2 c9)
                  by_cases c10 : ((((rd_T40 l0_1 x12_1).f0) ++ (⟨#[58, 32]⟩ : ByteArray)) ++ ((rd_T40 l0_1 x12_1).f1)).size + 2 ≤ 9223372036854775807
                  · rw [if_pos c10] at H
                    have c10b0 := eq_true c10
                    have c10b1 : decide (((((rd_T40 l0_1 x12_1).f0) ++ (⟨#[58, 32]⟩ : ByteArray)) ++ ((rd_T40 l0_1 x12_1).f1)).size + 2 ≤ 9223372036854775807) = true := decide_eq_true c10
                    have c10x : ((rd_T40 l0_1 x12_1).f0).size + 2 + ((rd_T40 l0_1 x12_1).f1).size + 2 ≤ 9223372036854775807 := by have h_ := c10; (try simp only [ByteArray.size_append] at h_); exact h_
                    have c10x0 := eq_true c10x
                    have c10x2 : (9223372036854775807 < ((rd_T40 l0_1 x12_1).f0).size + 2 + ((rd_T40 l0_1 x12_1).f1).size + 2) = False := eq_false (Nat.not_lt.2 c10x)
                    have c10b2 : (9223372036854775807 < ((((rd_T40 l0_1 x12_1).f0) ++ (⟨#[58, 32]⟩ : ByteArray)) ++ ((rd_T40 l0_1 x12_1).f1)).size + 2) = False := eq_false (Nat.not_lt.2 c10)
                    by_cases c11 : x3_1.size + (((((rd_T40 l0_1 x12_1).f0) ++ (⟨#[58, 32]⟩ : ByteArray)) ++ ((rd_T40 l0_1 x12_1).f1)) ++ (⟨#[13, 10]⟩ : ByteArray)).size ≤ 9223372036854775807
                    · rw [if_pos c11] at H
                      have c11b0 := eq_true c11
                      have c11b1 : decide (x3_1.size + (((((rd_T40 l0_1 x12_1).f0) ++ (⟨#[58, 32]⟩ : ByteArray)) ++ ((rd_T40 l0_1 x12_1).f1)) ++ (⟨#[13, 10]⟩ : ByteArray)).size ≤ 9223372036854775807) = true := decide_eq_true c11
                      have c11x : x3_1.size + (((rd_T40 l0_1 x12_1).f0).size + 2 + ((rd_T40 l0_1 x12_1).f1).size + 2) ≤ 9223372036854775807 := by have h_ := c11; (try simp only [ByteArray.size_append] at h_); exact h_
                      have c11x0 := eq_true c11x
                      have c11x2 : (9223372036854775807 < x3_1.size + (((rd_T40 l0_1 x12_1).f0).size + 2 + ((rd_T40 l0_1 x12_1).f1).size + 2)) = False := eq_false (Nat.not_lt.2 c11x)
                      have c11b2 : (9223372036854775807 < x3_1.size + (((((rd_T40 l0_1 x12_1).f0) ++ (⟨#[58, 32]⟩ : ByteArray)) ++ ((rd_T40 l0_1 x12_1).f1)) ++ (⟨#[13, 10]⟩ : ByteArray)).size) = False := eq_false (Nat.not_lt.2 c11)
                      have H' := Aside0.mk H
                      clear H
                      have p174 : 0 ≤ (x12_1 : Int) := of_decide_eq_true (by (with_reducible assumption))
                      have q174 : x12_1 < (l0_1.length : Int) := of_decide_eq_true (by (with_reducible assumption))
                      obtain ⟨ad174, e174, hx174_0, hx174_1⟩ := at_T40 HR0_1.out x12_1 p174 q174
                      cases e174
                      replace hx174_0 := (HB.out.cell (World.block_lt_of_cell? w _ hx174_0)).trans hx174_0
                      replace hx174_1 := (HB.out.cell (World.block_lt_of_cell? w _ hx174_1)).trans hx174_1
                      replace p174 := eq_true p174
                      replace q174 := eq_true q174
                      go_wp2_with (((with_reducible refine gate_dst (N := 5) rfl ?_); refine box_event ?hg (N := 5) ?hd (cs := #[.string (⟨#[]⟩ : ByteArray), .string (⟨#[]⟩ : ByteArray)]) (t := 40) ?hr ?_; (case hd => rfl); (case hg => rfl); (case hr => (go_simp; done)); intro gb175 hg w12 hbox hb; have n0_ := Aside0.mk (blk_below (g := gb173) (o := .cells #[.string a0_0, .slice (some ad174) l0_1.length c0_1] 26 (0, 0)) (by (with_reducible repeat (first | refine blk_drewN ?_ _ | refine blk_drew ?_ | refine blk_alloc ?_ _ )); exact BK173.out) hb); have n1_ := Aside0.mk (below_step (by repeat ((with_reducible exact HB.out))) hb); have n2_ := Aside0.mk (hbox); have n3_ := Aside0.mk ((by rw [hg]; exact (below_size (by repeat ((with_reducible exact HB.out)))) : w.heap.size ≤ gb175)); have n4_ := Aside0.mk ((by rw [hg]; exact (below_size (by repeat ((with_reducible exact HB.out)))) : w.heap.size ≤ gb175)); have n5_ := Aside0.mk ((by rw [hg]; exact Nat.ne_of_lt (blk_lt (g := gb173) (o := .cells #[.string a0_0, .slice (some ad174) l0_1.length c0_1] 26 (0, 0)) (by (with_reducible repeat (first | refine blk_drewN ?_ _ | refine blk_drew ?_ | refine blk_alloc ?_ _ )); exact BK173.out)) : gb173 ≠ gb175)); have n6_ := Aside0.mk ((by rw [hg]; exact Nat.ne_of_gt (blk_lt (g := gb173) (o := .cells #[.string a0_0, .slice (some ad174) l0_1.length c0_1] 26 (0, 0)) (by (with_reducible repeat (first | refine blk_drewN ?_ _ | refine blk_drew ?_ | refine blk_alloc ?_ _ )); exact BK173.out)) : gb175 ≠ gb173)); clear BK173; clear HB; have BK173 := n0_; have HB := n1_; have BK175 := n2_; have GW175 := n3_; have GE175 := n4_; have NB173_175 := n5_; have NB175_173 := n6_; clear n0_ n1_ n2_ n3_ n4_ n5_ n6_; clear hb hbox hg; have hnb13 := NB175_173.out; have hnc13 := NB173_175.out; have hcz14_0 : w12.cell? ⟨gb175, 0, none⟩ = some (.string (⟨#[]⟩ : ByteArray)) := (blk_cell BK175.out 0).trans rfl; have hcz14_1 : w12.cell? ⟨gb175, 1, none⟩ = some (.string (⟨#[]⟩ : ByteArray)) := (blk_cell BK175.out 1).trans rfl; have hfz14_0 := blk_frozen BK175.out 0; have hfz14_1 := blk_frozen BK175.out 1))
                      go_roundg k1
                      case measure => have := HK1.out; omega
                      case rel => exact ⟨(x3_1 ++ (((((rd_T40 l0_1 x12_1).f0) ++ (⟨#[58, 32]⟩ : ByteArray)) ++ ((rd_T40 l0_1 x12_1).f1)) ++ (⟨#[13, 10]⟩ : ByteArray))), (wrap64 (x12_1 + 1)), (by rfl), (by rfl), H', ⟨by have := HK1.out; omega⟩, ⟨by (with_reducible repeat (first | refine blk_drewN ?_ _ | refine blk_drew ?_ | refine blk_alloc ?_ _ )); refine blk_far ?_ NB173_175.out _; (with_reducible repeat (first | refine blk_drewN ?_ _ | refine blk_drew ?_ | refine blk_alloc ?_ _ )); refine blk_far ?_ NB173_175.out _; (with_reducible repeat (first | refine blk_drewN ?_ _ | refine blk_drew ?_ | refine blk_alloc ?_ _ )); exact BK173.out⟩, ⟨by repeat ((with_reducible first | exact HB.out | refine below_set ?_ GE175.out))⟩⟩
                    · rw [if_neg c11] at H
                      exact absurd H (by simp)
                  · rw [if_neg c10] at H
                    exact absurd H (by simp)
                · rw [if_neg c9] at H
                  exact absurd H (by simp)
              · rw [if_neg c8] at H
                exact absurd H (by simp)
            · rw [if_neg c7] at H
              exact absurd H (by simp)
          · rw [if_neg c6] at H
            exact absurd H (by simp)
        · rw [if_neg c5] at H
          have c5b0 : decide (x12_1 < (l0_1.length : Int)) = false := decide_eq_false c5
          clear c5
          by_cases c15 : x3_1.size + 2 ≤ 9223372036854775807
          · rw [if_pos c15] at H
            have c15b0 := eq_true c15
            have c15b1 : decide (x3_1.size + 2 ≤ 9223372036854775807) = true := decide_eq_true c15
            have c15b2 : (9223372036854775807 < x3_1.size + 2) = False := eq_false (Nat.not_lt.2 c15)
            obtain rfl := Option.some.inj H
            go_wp2
            go_ret
            exact ⟨by rfl, by repeat ((with_reducible exact HB.out))⟩
          · rw [if_neg c15] at H
            exact absurd H (by simp)
  · rw [if_neg c2] at H
    exact absurd H (by simp)
def impl_isLine.f (k : Nat) (a0 : ByteArray) : Option (Bool) := (impl_within.f (a0.size : Int) 1 80).bind fun t176 => (if t176 = true then ((impl_bytesIn.f k a0 32 126).bind fun t177 => (some t177)) else (some false))
set_option maxHeartbeats 8000000 in
set_option maxRecDepth 100000 in
theorem impl_isLine.calls (k : Nat) (a0 : ByteArray) (r : Bool) (w : World) (h : impl_isLine.f k a0 = some r) :
    Calls Tryd.prog 51 #[.string a0] w fun e w' => e = .returned (.bool r) ∧ Drawn0 w w' := by
  have H : ((impl_within.f (a0.size : Int) 1 80).bind fun t176 => (if t176 = true then ((impl_bytesIn.f k a0 32 126).bind fun t177 => (some t177)) else (some false))) = some r := h
  clear h
  replace H := Option.bind_eq_some_iff.mp H
  obtain ⟨t176, A20, H⟩ := H
  replace H : (if t176 = true then ((impl_bytesIn.f k a0 32 126).bind fun t177 => (some t177)) else (some false)) = some r := H
  have A2 := Aside0.mk A20
  clear A20
  by_cases c3 : t176 = true
  · subst c3
    have H1 : ((impl_bytesIn.f k a0 32 126).bind fun t177 => (some t177)) = some r := by rw [if_pos rfl] at H; exact H
    clear H
    have H := H1
    clear H1
    replace H := Option.bind_eq_some_iff.mp H
    obtain ⟨t177, A40, H⟩ := H
    replace H : (some t177) = some r := H
    have A4 := Aside0.mk A40
    clear A40
    obtain rfl := Option.some.inj H
    go_enter Tryd.func51, Tryd.ntmps51
    go_wp2_with (first | ((with_reducible refine gate_callee (f := 68) rfl ?_); refine goesL_ (some 5) rfl rfl Tryd.func68 (by kernel_rfl) rfl #[.int .i64 (a0.size : Int), .int .i64 1, .int .i64 80] rfl (by (try simp only [List.map_toArray, List.map_cons, List.map_nil]); rfl) ?_; (with_reducible refine (impl_within.calls (a0.size : Int) 1 80 true _ A2.out).mono ?_); rintro e w' ⟨rfl, rfl⟩; refine ⟨_, rfl, ?_⟩) | (go_at_call 59; (with_reducible refine (impl_bytesIn.calls k a0 32 126 t177 _ A4.out).mono ?_); rintro e w' ⟨rfl, ⟨nd, rfl⟩⟩))
    go_ret
    exact ⟨by rfl, by repeat (first | exact Drawn0.refl _ | apply Drawn0.step)⟩
  · replace c3 := Bool.eq_false_iff.mpr c3
    subst c3
    have H1 : (some false) = some r := by rw [if_neg (show ¬ (false = true) by decide)] at H; exact H
    clear H
    have H := H1
    clear H1
    obtain rfl := Option.some.inj H
    go_enter Tryd.func51, Tryd.ntmps51
    go_wp2_with (((with_reducible refine gate_callee (f := 68) rfl ?_); refine goesL_ (some 5) rfl rfl Tryd.func68 (by kernel_rfl) rfl #[.int .i64 (a0.size : Int), .int .i64 1, .int .i64 80] rfl (by (try simp only [List.map_toArray, List.map_cons, List.map_nil]); rfl) ?_; (with_reducible refine (impl_within.calls (a0.size : Int) 1 80 false _ A2.out).mono ?_); rintro e w' ⟨rfl, rfl⟩; refine ⟨_, rfl, ?_⟩))
    go_ret
    exact ⟨by rfl, by repeat (exact Drawn0.refl _)⟩
def impl_HeadOk.l0 : Nat → List (S40) → Int → Int → ByteArray → List (S40) → Option (Bool)
  | 0, _, _, _, _, _ => none
  | k + 1, x6, x7, x8, x179000, x179001 => if x8 < x7 then (if 0 ≤ x8 then (if x8 < (x6.length : Int) then ((impl_FieldOk.f k ((rd_T40 x6 x8).f0) ((rd_T40 x6 x8).f1)).bind fun t181 => (if t181 = true then (impl_HeadOk.l0 k x6 x7 (wrap64 (x8 + 1)) x179000 x179001) else (some false))) else (none)) else (none)) else ((impl_isLine.f k x179000).bind fun t182 => (if t182 = true then (if (x179001.length : Int) ≤ 8 then ((impl_headText.f k x179000 x179001).bind fun t183 => (some (decide ((t183.size : Int) ≤ 300)))) else (some false)) else (some false)))
def impl_HeadOk.f (k : Nat) (a0_0 : ByteArray) (l0_1 : List (S40)) : Option (Bool) := impl_HeadOk.l0 k l0_1 (l0_1.length : Int) 0 a0_0 l0_1
set_option maxHeartbeats 8000000 in
set_option maxRecDepth 100000 in
theorem impl_HeadOk.calls (k : Nat) (a0_0 : ByteArray) (A0_1 : Option Addr) (c0_1 : Nat) (l0_1 : List (S40)) (r : Bool) (w : World) (hr0_1 : Kd.C k40 w A0_1 l0_1.length l0_1) (hc0_1 : l0_1.length ≤ c0_1) (h : impl_HeadOk.f k a0_0 l0_1 = some r) :
    Calls Tryd.prog 19 #[.agg #[.string a0_0, .slice A0_1 l0_1.length c0_1]] w fun e w' => e = .returned (.bool r) ∧ Below w.heap.size w w' := by
  have hu26 := Tryd.underlying26
  have hu40 := Tryd.underlying40
  have HR0_1 := Aside0.mk hr0_1
  have HC0_1 := Aside0.mk hc0_1
  clear hr0_1 hc0_1
  have HB := Aside0.mk (Below.refl w.heap.size w)
  have H : (impl_HeadOk.l0 k l0_1 (l0_1.length : Int) 0 a0_0 l0_1) = some r := h
  clear h
  have H' := Aside0.mk H
  clear H
  go_enter Tryd.func19, Tryd.ntmps19
  go_wp2_with (((with_reducible refine gate_dst (N := 1) rfl ?_); (try (refine gate_guard (by rfl) ?_; dsimp only)); refine box_event ?hg (N := 1) ?hd (cs := #[.string a0_0, .slice A0_1 l0_1.length c0_1]) (t := 26) ?hr ?_; (case hd => rfl); (case hg => rfl); (case hr => (go_simp; done)); intro gb178 hg w2 hbox hb; have n0_ := Aside0.mk (below_step (by repeat ((with_reducible exact HB.out))) hb); have n1_ := Aside0.mk (hbox); have n2_ := Aside0.mk ((by rw [hg]; exact (below_size (by repeat ((with_reducible exact HB.out)))) : w.heap.size ≤ gb178)); have n3_ := Aside0.mk ((by rw [hg]; exact (below_size (by repeat ((with_reducible exact HB.out)))) : w.heap.size ≤ gb178)); clear HB; have HB := n0_; have BK178 := n1_; have GW178 := n2_; have GE178 := n3_; clear n0_ n1_ n2_ n3_; clear hb hbox hg; have hcz3_0 : w2.cell? ⟨gb178, 0, none⟩ = some (.string a0_0) := (blk_cell BK178.out 0).trans rfl; have hcz3_1 : w2.cell? ⟨gb178, 1, none⟩ = some (.slice A0_1 l0_1.length c0_1) := (blk_cell BK178.out 1).trans rfl; have hfz3_0 := blk_frozen BK178.out 0; have hfz3_1 := blk_frozen BK178.out 1))
  go_loopg [8] k (fun kq v8 w' => ∃ (x8_1 : Int), v8 = .int .i64 x8_1 ∧ Aside0 (impl_HeadOk.l0 kq l0_1 (l0_1.length : Int) x8_1 a0_0 l0_1 = some r) ∧ Aside0 (kq ≤ k) ∧ Aside0 (w'.heap[gb178]? = some (.cells #[.string a0_0, (.slice A0_1 l0_1.length c0_1)] 26 (0, 0))) ∧ Aside0 (Below w.heap.size w w'))
  case atStart => exact ⟨(0), (by rfl), H', ⟨Nat.le_refl _⟩, ⟨by (with_reducible repeat (first | refine blk_drewN ?_ _ | refine blk_drew ?_ | refine blk_alloc ?_ _ )); exact BK178.out⟩, ⟨by repeat ((with_reducible exact HB.out))⟩⟩
  case round =>
    clear H'
    clear hcz3_0
    clear hcz3_1
    clear hfz3_0
    clear hfz3_1
    obtain ⟨x8_1, rfl, HA, HK1, BK178, HB⟩ := hrel
    cases gk with
    | zero => exact absurd HA.out (by simp [impl_HeadOk.l0])
    | succ k1 =>
      have H := HA.out
      clear HA
      simp only [impl_HeadOk.l0] at H
      by_cases c4 : x8_1 < (l0_1.length : Int)
      · rw [if_pos c4] at H
        have c4b0 : decide (x8_1 < (l0_1.length : Int)) = true := decide_eq_true c4
        clear c4
        by_cases c5 : 0 ≤ x8_1
        · rw [if_pos c5] at H
          have c5b0 : decide (0 ≤ x8_1) = true := decide_eq_true c5
          clear c5
          by_cases c6 : x8_1 < (l0_1.length : Int)
          · rw [if_pos c6] at H
            have c6b0 : decide (x8_1 < (l0_1.length : Int)) = true := decide_eq_true c6
            clear c6
            replace H := Option.bind_eq_some_iff.mp H
            obtain ⟨t181, A70, H⟩ := H
            replace H : (if t181 = true then (impl_HeadOk.l0 k1 l0_1 (l0_1.length : Int) (wrap64 (x8_1 + 1)) a0_0 l0_1) else (some false)) = some r := H
            have A7 := Aside0.mk A70
            clear A70
            have HS8 := Aside0.mk H
            clear H
            have p179 : 0 ≤ (x8_1 : Int) := of_decide_eq_true (by (with_reducible assumption))
            have q179 : x8_1 < (l0_1.length : Int) := of_decide_eq_true (by (with_reducible assumption))
            obtain ⟨ad179, e179, hx179_0, hx179_1⟩ := at_T40 HR0_1.out x8_1 p179 q179
            cases e179
            replace hx179_0 := (HB.out.cell (World.block_lt_of_cell? w _ hx179_0)).trans hx179_0
            replace hx179_1 := (HB.out.cell (World.block_lt_of_cell? w _ hx179_1)).trans hx179_1
            replace p179 := eq_true p179
            replace q179 := eq_true q179
            go_upto_if 14 with (first | ((with_reducible refine gate_dst (N := 4) rfl ?_); (try (refine gate_guard (by rfl) ?_; dsimp only)); refine box_event ?hg (N := 4) ?hd (cs := #[.string (⟨#[]⟩ : ByteArray), .string (⟨#[]⟩ : ByteArray)]) (t := 40) ?hr ?_; (case hd => rfl); (case hg => rfl); (case hr => (go_simp; done)); intro gb180 hg w9 hbox hb; have n0_ := Aside0.mk (blk_below (g := gb178) (o := .cells #[.string a0_0, .slice (some ad179) l0_1.length c0_1] 26 (0, 0)) (by (with_reducible repeat (first | refine blk_drewN ?_ _ | refine blk_drew ?_ | refine blk_alloc ?_ _ )); exact BK178.out) hb); have n1_ := Aside0.mk (below_step (by repeat ((with_reducible exact HB.out))) hb); have n2_ := Aside0.mk (hbox); have n3_ := Aside0.mk ((by rw [hg]; exact (below_size (by repeat ((with_reducible exact HB.out)))) : w.heap.size ≤ gb180)); have n4_ := Aside0.mk ((by rw [hg]; exact (below_size (by repeat ((with_reducible exact HB.out)))) : w.heap.size ≤ gb180)); have n5_ := Aside0.mk ((by rw [hg]; exact Nat.ne_of_lt (blk_lt (g := gb178) (o := .cells #[.string a0_0, .slice (some ad179) l0_1.length c0_1] 26 (0, 0)) (by (with_reducible repeat (first | refine blk_drewN ?_ _ | refine blk_drew ?_ | refine blk_alloc ?_ _ )); exact BK178.out)) : gb178 ≠ gb180)); have n6_ := Aside0.mk ((by rw [hg]; exact Nat.ne_of_gt (blk_lt (g := gb178) (o := .cells #[.string a0_0, .slice (some ad179) l0_1.length c0_1] 26 (0, 0)) (by (with_reducible repeat (first | refine blk_drewN ?_ _ | refine blk_drew ?_ | refine blk_alloc ?_ _ )); exact BK178.out)) : gb180 ≠ gb178)); clear BK178; clear HB; have BK178 := n0_; have HB := n1_; have BK180 := n2_; have GW180 := n3_; have GE180 := n4_; have NB178_180 := n5_; have NB180_178 := n6_; clear n0_ n1_ n2_ n3_ n4_ n5_ n6_; clear hb hbox hg; have hnb10 := NB180_178.out; have hnc10 := NB178_180.out; have hcz11_0 : w9.cell? ⟨gb180, 0, none⟩ = some (.string (⟨#[]⟩ : ByteArray)) := (blk_cell BK180.out 0).trans rfl; have hcz11_1 : w9.cell? ⟨gb180, 1, none⟩ = some (.string (⟨#[]⟩ : ByteArray)) := (blk_cell BK180.out 1).trans rfl; have hfz11_0 := blk_frozen BK180.out 0; have hfz11_1 := blk_frozen BK180.out 1) | ((with_reducible refine gate_callee (f := 23) rfl ?_); refine goesL_ (some 13) rfl rfl Tryd.func23 (by kernel_rfl) rfl #[.agg #[.string ((rd_T40 l0_1 x8_1).f0), .string ((rd_T40 l0_1 x8_1).f1)]] rfl (by (try simp only [List.map_toArray, List.map_cons, List.map_nil]); rfl) ?_; (with_reducible refine (impl_FieldOk.calls k1 ((rd_T40 l0_1 x8_1).f0) ((rd_T40 l0_1 x8_1).f1) t181 _ A7.out).mono ?_); rintro e w12 ⟨rfl, hb⟩; refine ⟨_, rfl, ?_⟩; have n0_ := Aside0.mk (blk_below (g := gb178) (o := .cells #[.string a0_0, .slice (some ad179) l0_1.length c0_1] 26 (0, 0)) (by (with_reducible repeat (first | refine blk_drewN ?_ _ | refine blk_drew ?_ | refine blk_alloc ?_ _ )); refine blk_far ?_ NB178_180.out _; (with_reducible repeat (first | refine blk_drewN ?_ _ | refine blk_drew ?_ | refine blk_alloc ?_ _ )); refine blk_far ?_ NB178_180.out _; (with_reducible repeat (first | refine blk_drewN ?_ _ | refine blk_drew ?_ | refine blk_alloc ?_ _ )); exact BK178.out) hb); have n1_ := Aside0.mk (blk_below (g := gb180) (o := .cells #[.string ((rd_T40 l0_1 x8_1).f0), .string ((rd_T40 l0_1 x8_1).f1)] 40 (0, 0)) (by (with_reducible repeat (first | refine blk_drewN ?_ _ | refine blk_drew ?_ | refine blk_alloc ?_ _ )); refine blk_put (cs := #[.string ((rd_T40 l0_1 x8_1).f0), .string (⟨#[]⟩ : ByteArray)]) ?_ 1 _ rfl; (with_reducible repeat (first | refine blk_drewN ?_ _ | refine blk_drew ?_ | refine blk_alloc ?_ _ )); refine blk_put (cs := #[.string (⟨#[]⟩ : ByteArray), .string (⟨#[]⟩ : ByteArray)]) ?_ 0 _ rfl; (with_reducible repeat (first | refine blk_drewN ?_ _ | refine blk_drew ?_ | refine blk_alloc ?_ _ )); exact BK180.out) hb); have n2_ := Aside0.mk (below_step (by repeat ((with_reducible first | exact HB.out | refine below_set ?_ GE180.out))) hb); clear BK178; clear BK180; clear HB; have BK178 := n0_; have BK180 := n1_; have HB := n2_; clear n0_ n1_ n2_; (try clear hb); (try clear hb2); (try clear hk); (try clear hi)))
            (try simp only [Act.put, List.setIfInBounds_toArray, List.set_cons_zero, List.set_cons_succ])
            have H := HS8.out
            clear HS8
            by_cases c13 : t181 = true
            · subst c13
              have H1 : (impl_HeadOk.l0 k1 l0_1 (l0_1.length : Int) (wrap64 (x8_1 + 1)) a0_0 l0_1) = some r := by rw [if_pos rfl] at H; exact H
              clear H
              have H := H1
              clear H1
              have H' := Aside0.mk H
              clear H
              go_wp2
              go_roundg k1
              case measure => have := HK1.out; omega
              case rel => exact ⟨(wrap64 (x8_1 + 1)), (by rfl), H', ⟨by have := HK1.out; omega⟩, ⟨by (with_reducible repeat (first | refine blk_drewN ?_ _ | refine blk_drew ?_ | refine blk_alloc ?_ _ )); exact BK178.out⟩, ⟨by repeat ((with_reducible exact HB.out))⟩⟩
            · replace c13 := Bool.eq_false_iff.mpr c13
              subst c13
              have H1 : (some false) = some r := by rw [if_neg (show ¬ (false = true) by decide)] at H; exact H
              clear H
              have H := H1
              clear H1
              obtain rfl := Option.some.inj H
              go_wp2
              go_ret
              exact ⟨by rfl, by repeat ((with_reducible exact HB.out))⟩
          · rw [if_neg c6] at H
            exact absurd H (by simp)
        · rw [if_neg c5] at H
          exact absurd H (by simp)
      · rw [if_neg c4] at H
        have c4b0 : decide (x8_1 < (l0_1.length : Int)) = false := decide_eq_false c4
        clear c4
        replace H := Option.bind_eq_some_iff.mp H
        obtain ⟨t182, A140, H⟩ := H
        replace H : (if t182 = true then (if (l0_1.length : Int) ≤ 8 then ((impl_headText.f k1 a0_0 l0_1).bind fun t183 => (some (decide ((t183.size : Int) ≤ 300)))) else (some false)) else (some false)) = some r := H
        have A14 := Aside0.mk A140
        clear A140
        by_cases c15 : t182 = true
        · subst c15
          have H1 : (if (l0_1.length : Int) ≤ 8 then ((impl_headText.f k1 a0_0 l0_1).bind fun t183 => (some (decide ((t183.size : Int) ≤ 300)))) else (some false)) = some r := by rw [if_pos rfl] at H; exact H
          clear H
          have H := H1
          clear H1
          by_cases c16 : (l0_1.length : Int) ≤ 8
          · rw [if_pos c16] at H
            have c16b0 : decide ((l0_1.length : Int) ≤ 8) = true := decide_eq_true c16
            have c16b1 : decide (l0_1.length ≤ 8) = true := decide_eq_true (by omega)
            clear c16
            replace H := Option.bind_eq_some_iff.mp H
            obtain ⟨t183, A170, H⟩ := H
            replace H : (some (decide ((t183.size : Int) ≤ 300))) = some r := H
            have A17 := Aside0.mk A170
            clear A170
            obtain rfl := Option.some.inj H
            have hcz18_0 : wr.cell? ⟨gb178, 0, none⟩ = some (.string a0_0) := (blk_cell BK178.out 0).trans rfl
            have hcz18_1 : wr.cell? ⟨gb178, 1, none⟩ = some (.slice A0_1 l0_1.length c0_1) := (blk_cell BK178.out 1).trans rfl
            have hfz18_0 := blk_frozen BK178.out 0
            have hfz18_1 := blk_frozen BK178.out 1
            go_wp2_with (first | ((with_reducible refine gate_callee (f := 51) rfl ?_); refine goesL_ (some 18) rfl rfl Tryd.func51 (by kernel_rfl) rfl #[.string a0_0] rfl (by (try simp only [List.map_toArray, List.map_cons, List.map_nil]); rfl) ?_; (with_reducible refine (impl_isLine.calls k1 a0_0 true _ A14.out).mono ?_); rintro e w' ⟨rfl, ⟨nd, rfl⟩⟩; refine ⟨_, rfl, ?_⟩) | (go_at_call 49; (with_reducible refine (impl_headText.calls k1 a0_0 _ _ l0_1 t183 _ ?side1 ?side2 A17.out).mono ?_); (case side1 => repeat (exact (Kd.C_below HR0_1.out (by repeat ((with_reducible first | exact HB.out | apply pw_below_drewN)))))); (case side2 => exact HC0_1.out); rintro e w19 ⟨rfl, hb⟩; have n0_ := Aside0.mk (blk_below (g := gb178) (o := .cells #[.string a0_0, .slice A0_1 l0_1.length c0_1] 26 (0, 0)) (by (with_reducible repeat (refine blk_drewN ?_ _)); exact BK178.out) hb); have n1_ := Aside0.mk (below_step (by repeat ((with_reducible first | exact HB.out | apply pw_below_drewN))) hb); clear BK178; clear HB; have BK178 := n0_; have HB := n1_; clear n0_ n1_; (try clear hb); (try clear hb2); (try clear hk); (try clear hi)))
            go_ret
            exact ⟨by rfl, by repeat ((with_reducible exact HB.out))⟩
          · rw [if_neg c16] at H
            have c16b0 : decide ((l0_1.length : Int) ≤ 8) = false := decide_eq_false c16
            have c16b1 : decide (l0_1.length ≤ 8) = false := decide_eq_false (by omega)
            clear c16
            obtain rfl := Option.some.inj H
            have hcz20_0 : wr.cell? ⟨gb178, 0, none⟩ = some (.string a0_0) := (blk_cell BK178.out 0).trans rfl
            have hcz20_1 : wr.cell? ⟨gb178, 1, none⟩ = some (.slice A0_1 l0_1.length c0_1) := (blk_cell BK178.out 1).trans rfl
            have hfz20_0 := blk_frozen BK178.out 0
            have hfz20_1 := blk_frozen BK178.out 1
            go_wp2_with (((with_reducible refine gate_callee (f := 51) rfl ?_); refine goesL_ (some 18) rfl rfl Tryd.func51 (by kernel_rfl) rfl #[.string a0_0] rfl (by (try simp only [List.map_toArray, List.map_cons, List.map_nil]); rfl) ?_; (with_reducible refine (impl_isLine.calls k1 a0_0 true _ A14.out).mono ?_); rintro e w' ⟨rfl, ⟨nd, rfl⟩⟩; refine ⟨_, rfl, ?_⟩))
            go_ret
            exact ⟨by rfl, by repeat ((with_reducible first | exact HB.out | apply pw_below_drewN))⟩
        · replace c15 := Bool.eq_false_iff.mpr c15
          subst c15
          have H1 : (some false) = some r := by rw [if_neg (show ¬ (false = true) by decide)] at H; exact H
          clear H
          have H := H1
          clear H1
          obtain rfl := Option.some.inj H
          have hcz21_0 : wr.cell? ⟨gb178, 0, none⟩ = some (.string a0_0) := (blk_cell BK178.out 0).trans rfl
          have hcz21_1 : wr.cell? ⟨gb178, 1, none⟩ = some (.slice A0_1 l0_1.length c0_1) := (blk_cell BK178.out 1).trans rfl
          have hfz21_0 := blk_frozen BK178.out 0
          have hfz21_1 := blk_frozen BK178.out 1
          go_wp2_with (((with_reducible refine gate_callee (f := 51) rfl ?_); refine goesL_ (some 18) rfl rfl Tryd.func51 (by kernel_rfl) rfl #[.string a0_0] rfl (by (try simp only [List.map_toArray, List.map_cons, List.map_nil]); rfl) ?_; (with_reducible refine (impl_isLine.calls k1 a0_0 false _ A14.out).mono ?_); rintro e w' ⟨rfl, ⟨nd, rfl⟩⟩; refine ⟨_, rfl, ?_⟩))
          go_ret
          exact ⟨by rfl, by repeat ((with_reducible first | exact HB.out | apply pw_below_drewN))⟩
end Go.Proofs.YtiibecpllokhiaaDoor.Q
