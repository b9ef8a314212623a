import Derived.Test.YtiibecpllokhiaaDoorHtB0
import Derived.Test.YtiibecpllokhiaaDoorHtG56
import Derived.Test.YtiibecpllokhiaaDoorHtWords
namespace Go.Proofs.YtiibecpllokhiaaDoor.Q
open Go.RowKit Go.Proofs.YtiibecpllokhiaaDoorW.PrintWords Go.Proofs.YtiibecpllokhiaaDoorW.PrintLast Go.Proofs.YtiibecpllokhiaaDoorW.PrintMore
attribute [local go_sem] max2_int min2_int max_two min_two max_three min_three max_four min_four   -- for this text's walks alone
set_option linter.unusedVariables false
set_option linter.unusedSimpArgs false
def spec_l09Text.l0 : Nat → ByteArray → Int → ByteArray → List (S40) → Option (ByteArray)
  | 0, _, _, _, _ => none
  | k + 1, x3, x4, x292000, x292001 => if x4 < (x292001.length : Int) then (if 0 ≤ x4 then (if x3.size + ((rd_T40 x292001 x4).f0).size ≤ 9223372036854775807 then (if (x3 ++ ((rd_T40 x292001 x4).f0)).size + 2 ≤ 9223372036854775807 then (if ((x3 ++ ((rd_T40 x292001 x4).f0)) ++ (⟨#[58, 32]⟩ : ByteArray)).size + ((rd_T40 x292001 x4).f1).size ≤ 9223372036854775807 then (if (((x3 ++ ((rd_T40 x292001 x4).f0)) ++ (⟨#[58, 32]⟩ : ByteArray)) ++ ((rd_T40 x292001 x4).f1)).size + 2 ≤ 9223372036854775807 then (spec_l09Text.l0 k ((((x3 ++ ((rd_T40 x292001 x4).f0)) ++ (⟨#[58, 32]⟩ : ByteArray)) ++ ((rd_T40 x292001 x4).f1)) ++ (⟨#[13, 10]⟩ : ByteArray)) (wrap64 (x4 + 1)) x292000 x292001) else (none)) else (none)) else (none)) else (none)) else (none)) else (if x3.size + 2 ≤ 9223372036854775807 then (some (x3 ++ (⟨#[13, 10]⟩ : ByteArray))) else (none))
def spec_l09Text.f (k : Nat) (a0_0 : ByteArray) (l0_1 : List (S40)) : Option (ByteArray) := if a0_0.size + 2 ≤ 9223372036854775807 then (spec_l09Text.l0 k (a0_0 ++ (⟨#[13, 10]⟩ : ByteArray)) 0 a0_0 l0_1) else (none)
set_option maxHeartbeats 8000000 in
set_option maxRecDepth 100000 in
theorem spec_l09Text.calls (k : Nat) (a0_0 : ByteArray) (A0_1 : Option Addr) (c0_1 : Nat) (l0_1 : List (S40)) (r : ByteArray) (w : World) (hr0_1 : Kd.C k40 w A0_1 l0_1.length l0_1) (hc0_1 : l0_1.length ≤ c0_1) (h : spec_l09Text.f k a0_0 l0_1 = some r) :
    Calls Tryd.prog 62 #[.agg #[.string a0_0, .slice A0_1 l0_1.length c0_1]] w fun e w' => e = .returned (.string r) ∧ Below w.heap.size w w' := by
  have hu26 := Tryd.underlying26
  have HR0_1 := Aside0.mk hr0_1
  have HC0_1 := Aside0.mk hc0_1
  clear hr0_1 hc0_1
  have HB := Aside0.mk (Below.refl w.heap.size w)
  have H : (if a0_0.size + 2 ≤ 9223372036854775807 then (spec_l09Text.l0 k (a0_0 ++ (⟨#[13, 10]⟩ : ByteArray)) 0 a0_0 l0_1) else (none)) = some r := h
  clear h
  by_cases c2 : a0_0.size + 2 ≤ 9223372036854775807
  · rw [if_pos c2] at H
    have c2b0 := eq_true c2
    have c2b1 : decide (a0_0.size + 2 ≤ 9223372036854775807) = true := decide_eq_true c2
    have c2b2 : (9223372036854775807 < a0_0.size + 2) = False := eq_false (Nat.not_lt.2 c2)
    have H' := Aside0.mk H
    clear H
    go_enter Tryd.func62, Tryd.ntmps62
    go_wp2_with (((with_reducible refine gate_dst (N := 1) rfl ?_); refine box_event ?hg (N := 1) ?hd (cs := #[.string a0_0, .slice A0_1 l0_1.length c0_1]) (t := 26) ?hr ?_; (case hd => rfl); (case hg => rfl); (case hr => (go_simp; done)); intro gb291 hg w3 hbox hb; have n0_ := Aside0.mk (below_step (by repeat ((with_reducible exact HB.out))) hb); have n1_ := Aside0.mk (hbox); have n2_ := Aside0.mk ((by rw [hg]; exact (below_size (by repeat ((with_reducible exact HB.out)))) : w.heap.size ≤ gb291)); have n3_ := Aside0.mk ((by rw [hg]; exact (below_size (by repeat ((with_reducible exact HB.out)))) : w.heap.size ≤ gb291)); clear HB; have HB := n0_; have BK291 := n1_; have GW291 := n2_; have GE291 := n3_; clear n0_ n1_ n2_ n3_; clear hb hbox hg; have hcz4_0 : w3.cell? ⟨gb291, 0, none⟩ = some (.string a0_0) := (blk_cell BK291.out 0).trans rfl; have hcz4_1 : w3.cell? ⟨gb291, 1, none⟩ = some (.slice A0_1 l0_1.length c0_1) := (blk_cell BK291.out 1).trans rfl; have hfz4_0 := blk_frozen BK291.out 0; have hfz4_1 := blk_frozen BK291.out 1))
    go_loopg [3, 4] k (fun kq v3 v4 w' => ∃ (x3_1 : ByteArray) (x4_1 : Int), v3 = .string x3_1 ∧ v4 = .int .i64 x4_1 ∧ Aside0 (spec_l09Text.l0 kq x3_1 x4_1 a0_0 l0_1 = some r) ∧ Aside0 (kq ≤ k) ∧ Aside0 (w'.heap[gb291]? = some (.cells #[.string a0_0, (.slice A0_1 l0_1.length c0_1)] 26 (0, 0))) ∧ Aside0 (Below w.heap.size w w'))
    case atStart => exact ⟨(a0_0 ++ (⟨#[13, 10]⟩ : ByteArray)), (0), (by rfl), (by rfl), H', ⟨Nat.le_refl _⟩, ⟨by (with_reducible repeat (first | refine blk_drewN ?_ _ | refine blk_drew ?_ | refine blk_alloc ?_ _ )); exact BK291.out⟩, ⟨by repeat ((with_reducible exact HB.out))⟩⟩
    case round =>
      clear H'
      clear c2
      clear c2b0
      clear c2b1
      clear c2b2
      clear hcz4_0
      clear hcz4_1
      clear hfz4_0
      clear hfz4_1
      obtain ⟨x3_1, x4_1, rfl, rfl, HA, HK1, BK291, HB⟩ := hrel
      cases gk with
      | zero => exact absurd HA.out (by simp [spec_l09Text.l0])
      | succ k1 =>
        have H := HA.out
        clear HA
        simp only [spec_l09Text.l0] at H
        by_cases c5 : x4_1 < (l0_1.length : Int)
        · rw [if_pos c5] at H
          have c5b0 : decide (x4_1 < (l0_1.length : Int)) = true := decide_eq_true c5
          clear c5
          by_cases c6 : 0 ≤ x4_1
          · rw [if_pos c6] at H
            have c6b0 : decide (0 ≤ x4_1) = true := decide_eq_true c6
            clear c6
            by_cases c7 : x3_1.size + ((rd_T40 l0_1 x4_1).f0).size ≤ 9223372036854775807
            · rw [if_pos c7] at H
              have c7b0 := eq_true c7
              have c7b1 : decide (x3_1.size + ((rd_T40 l0_1 x4_1).f0).size ≤ 9223372036854775807) = true := decide_eq_true c7
              have c7b2 : (9223372036854775807 < x3_1.size + ((rd_T40 l0_1 x4_1).f0).size) = False := eq_false (Nat.not_lt.2 c7)
              by_cases c8 : (x3_1 ++ ((rd_T40 l0_1 x4_1).f0)).size + 2 ≤ 9223372036854775807
              · rw [if_pos c8] at H
                have c8b0 := eq_true c8
                have c8b1 : decide ((x3_1 ++ ((rd_T40 l0_1 x4_1).f0)).size + 2 ≤ 9223372036854775807) = true := decide_eq_true c8
                have c8x : x3_1.size + ((rd_T40 l0_1 x4_1).f0).size + 2 ≤ 9223372036854775807 := by have h_ := c8; (try simp only [ByteArray.size_append] at h_); exact h_
                have c8x0 := eq_true c8x
                have c8x2 : (9223372036854775807 < x3_1.size + ((rd_T40 l0_1 x4_1).f0).size + 2) = False := eq_false (Nat.not_lt.2 c8x)
                have c8b2 : (9223372036854775807 < (x3_1 ++ ((rd_T40 l0_1 x4_1).f0)).size + 2) = False := eq_false (Nat.not_lt.2 c8)
                by_cases c9 : ((x3_1 ++ ((rd_T40 l0_1 x4_1).f0)) ++ (⟨#[58, 32]⟩ : ByteArray)).size + ((rd_T40 l0_1 x4_1).f1).size ≤ 9223372036854775807
                · rw [if_pos c9] at H
                  have c9b0 := eq_true c9
                  have c9b1 : decide (((x3_1 ++ ((rd_T40 l0_1 x4_1).f0)) ++ (⟨#[58, 32]⟩ : ByteArray)).size + ((rd_T40 l0_1 x4_1).f1).size ≤ 9223372036854775807) = true := decide_eq_true c9
                  have c9x : x3_1.size + ((rd_T40 l0_1 x4_1).f0).size + 2 + ((rd_T40 l0_1 x4_1).f1).size ≤ 9223372036854775807 := by have h_ := c9; (try simp only [ByteArray.size_append] at h_); exact h_
                  have c9x0 := eq_true c9x
                  have c9x2 : (9223372036854775807 < x3_1.size + ((rd_T40 l0_1 x4_1).f0).size + 2 + ((rd_T40 l0_1 x4_1).f1).size) = False := eq_false (Nat.not_lt.2 c9x)
                  have c9b2 : (9223372036854775807 < ((x3_1 ++ ((rd_T40 l0_1 x4_1).f0)) ++ (⟨#[58, 32]⟩ : ByteArray)).size + ((rd_T40 l0_1 x4_1).f1).size) = False := eq_false (Nat.not_lt.2 c9)
                  by_cases c10 : (((x3_1 ++ ((rd_T40 l0_1 x4_1).f0)) ++ (⟨#[58, 32]⟩ : ByteArray)) ++ ((rd_T40 l0_1 x4_1).f1)).size + 2 ≤ 9223372036854775807
                  · rw [if_pos c10] at H
                    have c10b0 := eq_true c10
                    have c10b1 : decide ((((x3_1 ++ ((rd_T40 l0_1 x4_1).f0)) ++ (⟨#[58, 32]⟩ : ByteArray)) ++ ((rd_T40 l0_1 x4_1).f1)).size + 2 ≤ 9223372036854775807) = true := decide_eq_true c10
                    have c10x : x3_1.size + ((rd_T40 l0_1 x4_1).f0).size + 2 + ((rd_T40 l0_1 x4_1).f1).size + 2 ≤ 9223372036854775807 := by have h_ := c10; (try simp only [ByteArray.size_append] at h_); exact h_
                    have c10x0 := eq_true c10x
                    have c10x2 : (9223372036854775807 < x3_1.size + ((rd_T40 l0_1 x4_1).f0).size + 2 + ((rd_T40 l0_1 x4_1).f1).size + 2) = False := eq_false (Nat.not_lt.2 c10x)
                    have c10b2 : (9223372036854775807 < (((x3_1 ++ ((rd_T40 l0_1 x4_1).f0)) ++ (⟨#[58, 32]⟩ : ByteArray)) ++ ((rd_T40 l0_1 x4_1).f1)).size + 2) = False := eq_false (Nat.not_lt.2 c10)
                    have H' := Aside0.mk H
                    clear H
                    have hcz11_0 : wr.cell? ⟨gb291, 0, none⟩ = some (.string a0_0) := (blk_cell BK291.out 0).trans rfl
                    have hcz11_1 : wr.cell? ⟨gb291, 1, none⟩ = some (.slice A0_1 l0_1.length c0_1) := (blk_cell BK291.out 1).trans rfl
                    have hfz11_0 := blk_frozen BK291.out 0
                    have hfz11_1 := blk_frozen BK291.out 1
                    have p292 : 0 ≤ (x4_1 : Int) := of_decide_eq_true (by (with_reducible assumption))
                    have q292 : x4_1 < (l0_1.length : Int) := of_decide_eq_true (by (with_reducible assumption))
                    obtain ⟨ad292, e292, hx292_0, hx292_1⟩ := at_T40 HR0_1.out x4_1 p292 q292
                    cases e292
                    replace hx292_0 := (HB.out.cell (World.block_lt_of_cell? w _ hx292_0)).trans hx292_0
                    replace hx292_1 := (HB.out.cell (World.block_lt_of_cell? w _ hx292_1)).trans hx292_1
                    replace p292 := eq_true p292
                    replace q292 := eq_true q292
                    have p293 : 0 ≤ (x4_1 : Int) := of_decide_eq_true (by (with_reducible assumption))
                    have q293 : x4_1 < (l0_1.length : Int) := of_decide_eq_true (by (with_reducible assumption))
                    obtain ⟨ad293, e293, hx293_0, hx293_1⟩ := at_T40 HR0_1.out x4_1 p293 q293
                    obtain rfl : ad292 = ad293 := (by injection e293)
                    replace hx293_0 := (HB.out.cell (World.block_lt_of_cell? w _ hx293_0)).trans hx293_0
                    replace hx293_1 := (HB.out.cell (World.block_lt_of_cell? w _ hx293_1)).trans hx293_1
                    replace p293 := eq_true p293
                    replace q293 := eq_true q293
                    go_wp2
                    repeat (go_quiet (fail); try go_wp2)
                    go_roundg k1
                    case measure => have := HK1.out; omega
                    case rel => exact ⟨((((x3_1 ++ ((rd_T40 l0_1 x4_1).f0)) ++ (⟨#[58, 32]⟩ : ByteArray)) ++ ((rd_T40 l0_1 x4_1).f1)) ++ (⟨#[13, 10]⟩ : ByteArray)), (wrap64 (x4_1 + 1)), (by rfl), (by rfl), H', ⟨by have := HK1.out; omega⟩, ⟨by (with_reducible repeat (refine blk_drewN ?_ _)); exact BK291.out⟩, ⟨by repeat ((with_reducible first | exact HB.out | apply pw_below_drewN))⟩⟩
                  · rw [if_neg c10] at H
                    exact absurd H (by simp)
                · rw [if_neg c9] at H
                  exact absurd H (by simp)
              · rw [if_neg c8] at H
                exact absurd H (by simp)
            · rw [if_neg c7] at H
              exact absurd H (by simp)
          · rw [if_neg c6] at H
            exact absurd H (by simp)
        · rw [if_neg c5] at H
          have c5b0 : decide (x4_1 < (l0_1.length : Int)) = false := decide_eq_false c5
          clear c5
          by_cases c12 : x3_1.size + 2 ≤ 9223372036854775807
          · rw [if_pos c12] at H
            have c12b0 := eq_true c12
            have c12b1 : decide (x3_1.size + 2 ≤ 9223372036854775807) = true := decide_eq_true c12
            have c12b2 : (9223372036854775807 < x3_1.size + 2) = False := eq_false (Nat.not_lt.2 c12)
            obtain rfl := Option.some.inj H
            have hcz13_0 : wr.cell? ⟨gb291, 0, none⟩ = some (.string a0_0) := (blk_cell BK291.out 0).trans rfl
            have hcz13_1 : wr.cell? ⟨gb291, 1, none⟩ = some (.slice A0_1 l0_1.length c0_1) := (blk_cell BK291.out 1).trans rfl
            have hfz13_0 := blk_frozen BK291.out 0
            have hfz13_1 := blk_frozen BK291.out 1
            go_wp2
            go_ret
            exact ⟨by rfl, by repeat ((with_reducible exact HB.out))⟩
          · rw [if_neg c12] at H
            exact absurd H (by simp)
  · rw [if_neg c2] at H
    exact absurd H (by simp)
mutual
def spec_HeadOk.j0 : Nat → Bool → ByteArray → List (S40) → Option (Bool)
  | 0, _, _, _ => none
  | k + 1, x19, x295000, x295001 => if x19 = true then (some false) else (spec_HeadOk.l0 k 0 x295000 x295001)
def spec_HeadOk.l0 : Nat → Int → ByteArray → List (S40) → Option (Bool)
  | 0, _, _, _ => none
  | k + 1, x3, x295000, x295001 => if x3 < (x295001.length : Int) then (if 0 ≤ x3 then ((spec_FieldOk.f k ((rd_T40 x295001 x3).f0) ((rd_T40 x295001 x3).f1)).bind fun t297 => (if t297 = true then (spec_HeadOk.l0 k (wrap64 (x3 + 1)) x295000 x295001) else (some false))) else (none)) else ((spec_l09Text.f k x295000 x295001).bind fun t298 => (some (decide ((t298.size : Int) ≤ 300))))
end
def spec_HeadOk.f (k : Nat) (a0_0 : ByteArray) (l0_1 : List (S40)) : Option (Bool) := if (a0_0.size : Int) = 0 then (spec_HeadOk.j0 k true a0_0 l0_1) else ((spec_l09Plain.f k a0_0 80).bind fun t295 => (if t295 = true then (spec_HeadOk.j0 k (decide ((l0_1.length : Int) > 8)) a0_0 l0_1) else (spec_HeadOk.j0 k true a0_0 l0_1)))
set_option maxHeartbeats 8000000 in
set_option maxRecDepth 100000 in
theorem spec_HeadOk.calls (k : Nat) (a0_0 : ByteArray) (A0_1 : Option Addr) (c0_1 : Nat) (l0_1 : List (S40)) (r : Bool) (w : World) (hr0_1 : Kd.C k40 w A0_1 l0_1.length l0_1) (hc0_1 : l0_1.length ≤ c0_1) (h : spec_HeadOk.f k a0_0 l0_1 = some r) :
    Calls Tryd.prog 25 #[.agg #[.string a0_0, .slice A0_1 l0_1.length c0_1]] w fun e w' => e = .returned (.bool r) ∧ Below w.heap.size w w' := by
  have hu26 := Tryd.underlying26
  have hu40 := Tryd.underlying40
  have HR0_1 := Aside0.mk hr0_1
  have HC0_1 := Aside0.mk hc0_1
  clear hr0_1 hc0_1
  have HB := Aside0.mk (Below.refl w.heap.size w)
  have H : (if (a0_0.size : Int) = 0 then (spec_HeadOk.j0 k true a0_0 l0_1) else ((spec_l09Plain.f k a0_0 80).bind fun t295 => (if t295 = true then (spec_HeadOk.j0 k (decide ((l0_1.length : Int) > 8)) a0_0 l0_1) else (spec_HeadOk.j0 k true a0_0 l0_1)))) = some r := h
  clear h
  have HC2 := Aside0.mk H
  clear H
  go_enter Tryd.func25, Tryd.ntmps25
  go_upto_region 1 with (((with_reducible refine gate_dst (N := 1) rfl ?_); (try (refine gate_guard (by rfl) ?_; dsimp only)); refine box_event ?hg (N := 1) ?hd (cs := #[.string a0_0, .slice A0_1 l0_1.length c0_1]) (t := 26) ?hr ?_; (case hd => rfl); (case hg => rfl); (case hr => (go_simp; done)); intro gb294 hg w3 hbox hb; have n0_ := Aside0.mk (below_step (by repeat ((with_reducible exact HB.out))) hb); have n1_ := Aside0.mk (hbox); have n2_ := Aside0.mk ((by rw [hg]; exact (below_size (by repeat ((with_reducible exact HB.out)))) : w.heap.size ≤ gb294)); have n3_ := Aside0.mk ((by rw [hg]; exact (below_size (by repeat ((with_reducible exact HB.out)))) : w.heap.size ≤ gb294)); clear HB; have HB := n0_; have BK294 := n1_; have GW294 := n2_; have GE294 := n3_; clear n0_ n1_ n2_ n3_; clear hb hbox hg))
  (try simp only [Act.put, List.setIfInBounds_toArray, List.set_cons_zero, List.set_cons_succ])
  go_cut [19] (fun v19 wc => ∃ (kq : Nat) (x19_1 : Bool), v19 = .bool x19_1 ∧ Aside0 (spec_HeadOk.j0 kq x19_1 a0_0 l0_1 = some r) ∧ Aside0 (kq ≤ k) ∧ Aside0 (wc.heap[gb294]? = some (.cells #[.string a0_0, (.slice A0_1 l0_1.length c0_1)] 26 (0, 0))) ∧ Aside0 (Below w.heap.size w wc))
  case first =>
    have H := HC2.out
    clear HC2
    by_cases c4 : (a0_0.size : Int) = 0
    · rw [if_pos c4] at H
      have c4b0 : ((a0_0.size : Int) == 0) = true := beq_iff_eq.mpr c4
      have c4b1 : ((a0_0.size : Int) != 0) = false := bne_eq_false_iff_eq.mpr c4
      clear c4
      (skip)
      have H' := Aside0.mk H
      clear H
      have hcz5_0 : w3.cell? ⟨gb294, 0, none⟩ = some (.string a0_0) := (blk_cell BK294.out 0).trans rfl
      have hcz5_1 : w3.cell? ⟨gb294, 1, none⟩ = some (.slice A0_1 l0_1.length c0_1) := (blk_cell BK294.out 1).trans rfl
      have hfz5_0 := blk_frozen BK294.out 0
      have hfz5_1 := blk_frozen BK294.out 1
      go_wp2
      go_meet
      case rel => exact ⟨_, (true), (by rfl), H', ⟨by omega⟩, ⟨by (with_reducible repeat (first | refine blk_drewN ?_ _ | refine blk_drew ?_ | refine blk_alloc ?_ _ )); exact BK294.out⟩, ⟨by repeat ((with_reducible exact HB.out))⟩⟩
    · rw [if_neg c4] at H
      have c4b0 : ((a0_0.size : Int) == 0) = false := beq_eq_false_iff_ne.mpr c4
      have c4b1 : ((a0_0.size : Int) != 0) = true := bne_iff_ne.mpr c4
      (skip)
      replace H := Option.bind_eq_some_iff.mp H
      obtain ⟨t295, A60, H⟩ := H
      replace H : (if t295 = true then (spec_HeadOk.j0 k (decide ((l0_1.length : Int) > 8)) a0_0 l0_1) else (spec_HeadOk.j0 k true a0_0 l0_1)) = some r := H
      have A6 := Aside0.mk A60
      clear A60
      by_cases c7 : t295 = true
      · subst c7
        have H1 : (spec_HeadOk.j0 k (decide ((l0_1.length : Int) > 8)) a0_0 l0_1) = some r := by rw [if_pos rfl] at H; exact H
        clear H
        have H := H1
        clear H1
        have H' := Aside0.mk H
        clear H
        have hcz8_0 : w3.cell? ⟨gb294, 0, none⟩ = some (.string a0_0) := (blk_cell BK294.out 0).trans rfl
        have hcz8_1 : w3.cell? ⟨gb294, 1, none⟩ = some (.slice A0_1 l0_1.length c0_1) := (blk_cell BK294.out 1).trans rfl
        have hfz8_0 := blk_frozen BK294.out 0
        have hfz8_1 := blk_frozen BK294.out 1
        go_wp2_with ((go_at_call 57; (with_reducible refine (spec_l09Plain.calls k a0_0 80 true _ A6.out).mono ?_); rintro e w' ⟨rfl, ⟨nd, rfl⟩⟩))
        go_meet
        case rel => exact ⟨_, (decide ((l0_1.length : Int) > 8)), (by rfl), H', ⟨by omega⟩, ⟨by (with_reducible repeat (refine blk_drewN ?_ _)); exact BK294.out⟩, ⟨by repeat ((with_reducible first | exact HB.out | apply pw_below_drewN))⟩⟩
      · replace c7 := Bool.eq_false_iff.mpr c7
        subst c7
        have H1 : (spec_HeadOk.j0 k true a0_0 l0_1) = some r := by rw [if_neg (show ¬ (false = true) by decide)] at H; exact H
        clear H
        have H := H1
        clear H1
        have H' := Aside0.mk H
        clear H
        have hcz9_0 : w3.cell? ⟨gb294, 0, none⟩ = some (.string a0_0) := (blk_cell BK294.out 0).trans rfl
        have hcz9_1 : w3.cell? ⟨gb294, 1, none⟩ = some (.slice A0_1 l0_1.length c0_1) := (blk_cell BK294.out 1).trans rfl
        have hfz9_0 := blk_frozen BK294.out 0
        have hfz9_1 := blk_frozen BK294.out 1
        go_wp2_with ((go_at_call 57; (with_reducible refine (spec_l09Plain.calls k a0_0 80 false _ A6.out).mono ?_); rintro e w' ⟨rfl, ⟨nd, rfl⟩⟩))
        go_meet
        case rel => exact ⟨_, (true), (by rfl), H', ⟨by omega⟩, ⟨by (with_reducible repeat (refine blk_drewN ?_ _)); exact BK294.out⟩, ⟨by repeat ((with_reducible first | exact HB.out | apply pw_below_drewN))⟩⟩
  case rest =>
    clear HC2
    obtain ⟨kq, x19_1, rfl, HA, HJ1, BK294, HB⟩ := hcut
    cases kq with
    | zero => exact absurd HA.out (by simp [spec_HeadOk.j0])
    | succ kj1 =>
      have H := HA.out
      clear HA
      simp only [spec_HeadOk.j0] at H
      by_cases c10 : x19_1 = true
      · subst c10
        have H1 : (some false) = some r := by rw [if_pos rfl] at H; exact H
        clear H
        have H := H1
        clear H1
        obtain rfl := Option.some.inj H
        go_wp2
        go_ret
        exact ⟨by rfl, by repeat ((with_reducible exact HB.out))⟩
      · replace c10 := Bool.eq_false_iff.mpr c10
        subst c10
        have H1 : (spec_HeadOk.l0 kj1 0 a0_0 l0_1) = some r := by rw [if_neg (show ¬ (false = true) by decide)] at H; exact H
        clear H
        have H := H1
        clear H1
        have H' := Aside0.mk H
        clear H
        go_wp2
        go_loopg [3] kj1 (fun kq v3 w' => ∃ (x3_2 : Int), v3 = .int .i64 x3_2 ∧ Aside0 (spec_HeadOk.l0 kq x3_2 a0_0 l0_1 = some r) ∧ Aside0 (kq ≤ kj1) ∧ Aside0 (w'.heap[gb294]? = some (.cells #[.string a0_0, (.slice A0_1 l0_1.length c0_1)] 26 (0, 0))) ∧ Aside0 (Below w.heap.size w w'))
        case atStart => exact ⟨(0), (by rfl), H', ⟨Nat.le_refl _⟩, ⟨by (with_reducible repeat (first | refine blk_drewN ?_ _ | refine blk_drew ?_ | refine blk_alloc ?_ _ )); exact BK294.out⟩, ⟨by repeat ((with_reducible exact HB.out))⟩⟩
        case round =>
          clear H'
          obtain ⟨x3_2, rfl, HA, HK2, BK294, HB⟩ := hrel
          cases gk with
          | zero => exact absurd HA.out (by simp [spec_HeadOk.l0])
          | succ k2 =>
            have H := HA.out
            clear HA
            simp only [spec_HeadOk.l0] at H
            by_cases c11 : x3_2 < (l0_1.length : Int)
            · rw [if_pos c11] at H
              have c11b0 : decide (x3_2 < (l0_1.length : Int)) = true := decide_eq_true c11
              clear c11
              by_cases c12 : 0 ≤ x3_2
              · rw [if_pos c12] at H
                have c12b0 : decide (0 ≤ x3_2) = true := decide_eq_true c12
                clear c12
                replace H := Option.bind_eq_some_iff.mp H
                obtain ⟨t297, A130, H⟩ := H
                replace H : (if t297 = true then (spec_HeadOk.l0 k2 (wrap64 (x3_2 + 1)) a0_0 l0_1) else (some false)) = some r := H
                have A13 := Aside0.mk A130
                clear A130
                have HS14 := Aside0.mk H
                clear H
                have hcz15_0 : wr.cell? ⟨gb294, 0, none⟩ = some (.string a0_0) := (blk_cell BK294.out 0).trans rfl
                have hcz15_1 : wr.cell? ⟨gb294, 1, none⟩ = some (.slice A0_1 l0_1.length c0_1) := (blk_cell BK294.out 1).trans rfl
                have hfz15_0 := blk_frozen BK294.out 0
                have hfz15_1 := blk_frozen BK294.out 1
                have p296 : 0 ≤ (x3_2 : Int) := of_decide_eq_true (by (with_reducible assumption))
                have q296 : x3_2 < (l0_1.length : Int) := of_decide_eq_true (by (with_reducible assumption))
                obtain ⟨ad296, e296, hx296_0, hx296_1⟩ := at_T40 HR0_1.out x3_2 p296 q296
                cases e296
                replace hx296_0 := (HB.out.cell (World.block_lt_of_cell? w _ hx296_0)).trans hx296_0
                replace hx296_1 := (HB.out.cell (World.block_lt_of_cell? w _ hx296_1)).trans hx296_1
                replace p296 := eq_true p296
                replace q296 := eq_true q296
                go_upto_if 33 with (((with_reducible refine gate_callee (f := 21) rfl ?_); refine goesL_ (some 32) rfl rfl Tryd.func21 (by kernel_rfl) rfl #[.agg #[.string ((rd_T40 l0_1 x3_2).f0), .string ((rd_T40 l0_1 x3_2).f1)]] rfl (by (try simp only [List.map_toArray, List.map_cons, List.map_nil]); rfl) ?_; (with_reducible refine (spec_FieldOk.calls k2 ((rd_T40 l0_1 x3_2).f0) ((rd_T40 l0_1 x3_2).f1) t297 _ A13.out).mono ?_); rintro e w16 ⟨rfl, hb⟩; refine ⟨_, rfl, ?_⟩; have n0_ := Aside0.mk (blk_below (g := gb294) (o := .cells #[.string a0_0, .slice (some ad296) l0_1.length c0_1] 26 (0, 0)) (by (with_reducible repeat (first | refine blk_drewN ?_ _ | refine blk_drew ?_ | refine blk_alloc ?_ _ )); exact BK294.out) hb); have n1_ := Aside0.mk (below_step (by repeat ((with_reducible exact HB.out))) hb); clear BK294; clear HB; have BK294 := n0_; have HB := n1_; clear n0_ n1_; (try clear hb); (try clear hb2); (try clear hk); (try clear hi)))
                (try simp only [Act.put, List.setIfInBounds_toArray, List.set_cons_zero, List.set_cons_succ])
                have H := HS14.out
                clear HS14
                by_cases c17 : t297 = true
                · subst c17
                  have H1 : (spec_HeadOk.l0 k2 (wrap64 (x3_2 + 1)) a0_0 l0_1) = some r := by rw [if_pos rfl] at H; exact H
                  clear H
                  have H := H1
                  clear H1
                  have H' := Aside0.mk H
                  clear H
                  go_wp2
                  go_roundg k2
                  case measure => have := HJ1.out; have := HK2.out; omega
                  case rel => exact ⟨(wrap64 (x3_2 + 1)), (by rfl), H', ⟨by have := HJ1.out; have := HK2.out; omega⟩, ⟨by (with_reducible repeat (first | refine blk_drewN ?_ _ | refine blk_drew ?_ | refine blk_alloc ?_ _ )); exact BK294.out⟩, ⟨by repeat ((with_reducible exact HB.out))⟩⟩
                · replace c17 := Bool.eq_false_iff.mpr c17
                  subst c17
                  have H1 : (some false) = some r := by rw [if_neg (show ¬ (false = true) by decide)] at H; exact H
                  clear H
                  have H := H1
                  clear H1
                  obtain rfl := Option.some.inj H
                  go_wp2
                  go_ret
                  exact ⟨by rfl, by repeat ((with_reducible exact HB.out))⟩
              · rw [if_neg c12] at H
                exact absurd H (by simp)
            · rw [if_neg c11] at H
              have c11b0 : decide (x3_2 < (l0_1.length : Int)) = false := decide_eq_false c11
              clear c11
              replace H := Option.bind_eq_some_iff.mp H
              obtain ⟨t298, A180, H⟩ := H
              replace H : (some (decide ((t298.size : Int) ≤ 300))) = some r := H
              have A18 := Aside0.mk A180
              clear A180
              obtain rfl := Option.some.inj H
              have hcz19_0 : wr.cell? ⟨gb294, 0, none⟩ = some (.string a0_0) := (blk_cell BK294.out 0).trans rfl
              have hcz19_1 : wr.cell? ⟨gb294, 1, none⟩ = some (.slice A0_1 l0_1.length c0_1) := (blk_cell BK294.out 1).trans rfl
              have hfz19_0 := blk_frozen BK294.out 0
              have hfz19_1 := blk_frozen BK294.out 1
              go_wp2_with (((with_reducible refine gate_callee (f := 62) rfl ?_); refine goesL_ (some 35) rfl rfl Tryd.func62 (by kernel_rfl) rfl #[.agg #[.string a0_0, .slice A0_1 l0_1.length c0_1]] rfl (by (try simp only [List.map_toArray, List.map_cons, List.map_nil]); rfl) ?_; (with_reducible refine (spec_l09Text.calls k2 a0_0 _ _ l0_1 t298 _ ?side1 ?side2 A18.out).mono ?_); (case side1 => repeat (exact (Kd.C_below HR0_1.out HB.out))); (case side2 => exact HC0_1.out); rintro e w20 ⟨rfl, hb⟩; refine ⟨_, rfl, ?_⟩; have n0_ := Aside0.mk (blk_below (g := gb294) (o := .cells #[.string a0_0, .slice A0_1 l0_1.length c0_1] 26 (0, 0)) (by (with_reducible repeat (first | refine blk_drewN ?_ _ | refine blk_drew ?_ | refine blk_alloc ?_ _ )); exact BK294.out) hb); have n1_ := Aside0.mk (below_step (by repeat ((with_reducible exact HB.out))) hb); clear BK294; clear HB; have BK294 := n0_; have HB := n1_; clear n0_ n1_; (try clear hb); (try clear hb2); (try clear hk); (try clear hi)))
              go_ret
              exact ⟨by rfl, by repeat ((with_reducible exact HB.out))⟩
end Go.Proofs.YtiibecpllokhiaaDoor.Q
