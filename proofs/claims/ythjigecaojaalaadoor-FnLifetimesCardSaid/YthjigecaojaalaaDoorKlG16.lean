import Derived.Test.YthjigecaojaalaaDoorKlB0
import Derived.Test.YthjigecaojaalaaDoorKlWords
namespace Go.Proofs.YthjigecaojaalaaDoor.Q
open Go.RowKit Go.Proofs.YthjigecaojaalaaDoorW.PrintWords Go.Proofs.YthjigecaojaalaaDoorW.PrintLast Go.Proofs.YthjigecaojaalaaDoorW.PrintMore
attribute [local go_sem] max2_int min2_int max_two min_two max_three min_three max_four min_four   -- for this text's walks alone
set_option linter.unusedVariables false
set_option linter.unusedSimpArgs false
def impl_Lifetime.j0 : Nat → Bool → Bool → Bool → Int → Int → Option (Int)
  | 0, _, _, _, _, _ => none
  | k + 1, x3, x263000, x263001, x263002, x263003 => if x3 = true then (some 0) else (if x263003 ≥ 0 then (some x263003) else (some (mx x263002 0)))
def impl_Lifetime.f (k : Nat) (a0_0 : Bool) (a0_1 : Bool) (a0_2 : Int) (a0_3 : Int) : Option (Int) := if a0_0 = true then (impl_Lifetime.j0 k true a0_0 a0_1 a0_2 a0_3) else (impl_Lifetime.j0 k a0_1 a0_0 a0_1 a0_2 a0_3)
set_option maxHeartbeats 8000000 in
set_option maxRecDepth 100000 in
theorem impl_Lifetime.calls (k : Nat) (a0_0 : Bool) (a0_1 : Bool) (a0_2 : Int) (a0_3 : Int) (r : Int) (w : World) (h : impl_Lifetime.f k a0_0 a0_1 a0_2 a0_3 = some r) :
    Calls Tryd.prog 16 #[.agg #[.bool a0_0, .bool a0_1, .int .i64 a0_2, .int .i64 a0_3]] w fun e w' => e = .returned (.int .i64 r) ∧ Below w.heap.size w w' := by
  have hu25 := Tryd.underlying25
  have HB := Aside0.mk (Below.refl w.heap.size w)
  have H : (if a0_0 = true then (impl_Lifetime.j0 k true a0_0 a0_1 a0_2 a0_3) else (impl_Lifetime.j0 k a0_1 a0_0 a0_1 a0_2 a0_3)) = some r := h
  clear h
  have HC2 := Aside0.mk H
  clear H
  go_enter Tryd.func16, Tryd.ntmps16
  go_upto_region 1 with (((with_reducible refine gate_dst (N := 1) rfl ?_); refine box_event ?hg (N := 1) ?hd (cs := #[.bool a0_0, .bool a0_1, .int .i64 a0_2, .int .i64 a0_3]) (t := 25) ?hr ?_; (case hd => rfl); (case hg => rfl); (case hr => (go_simp; done)); intro gb262 hg w3 hbox hb; have n0_ := Aside0.mk (below_step (by repeat ((with_reducible exact HB.out))) hb); have n1_ := Aside0.mk (hbox); have n2_ := Aside0.mk ((by rw [hg]; exact (below_size (by repeat ((with_reducible exact HB.out)))) : w.heap.size ≤ gb262)); have n3_ := Aside0.mk ((by rw [hg]; exact (below_size (by repeat ((with_reducible exact HB.out)))) : w.heap.size ≤ gb262)); clear HB; have HB := n0_; have BK262 := n1_; have GW262 := n2_; have GE262 := n3_; clear n0_ n1_ n2_ n3_; clear hb hbox hg))
  (try simp only [Act.put, List.setIfInBounds_toArray, List.set_cons_zero, List.set_cons_succ])
  go_cut [3] (fun v3 wc => ∃ (kq : Nat) (x3_1 : Bool), v3 = .bool x3_1 ∧ Aside0 (impl_Lifetime.j0 kq x3_1 a0_0 a0_1 a0_2 a0_3 = some r) ∧ Aside0 (kq ≤ k) ∧ Aside0 (wc.heap[gb262]? = some (.cells #[.bool a0_0, .bool a0_1, .int .i64 a0_2, .int .i64 a0_3] 25 (0, 0))) ∧ Aside0 (Below w.heap.size w wc))
  case first =>
    have H := HC2.out
    clear HC2
    by_cases c4 : a0_0 = true
    · subst c4
      have H1 : (impl_Lifetime.j0 k true true a0_1 a0_2 a0_3) = some r := by rw [if_pos rfl] at H; exact H
      clear H
      have H := H1
      clear H1
      have H' := Aside0.mk H
      clear H
      have hcz5_0 : w3.cell? ⟨gb262, 0, none⟩ = some (.bool true) := (blk_cell BK262.out 0).trans rfl
      have hcz5_1 : w3.cell? ⟨gb262, 1, none⟩ = some (.bool a0_1) := (blk_cell BK262.out 1).trans rfl
      have hcz5_2 : w3.cell? ⟨gb262, 2, none⟩ = some (.int .i64 a0_2) := (blk_cell BK262.out 2).trans rfl
      have hcz5_3 : w3.cell? ⟨gb262, 3, none⟩ = some (.int .i64 a0_3) := (blk_cell BK262.out 3).trans rfl
      have hfz5_0 := blk_frozen BK262.out 0
      have hfz5_1 := blk_frozen BK262.out 1
      have hfz5_2 := blk_frozen BK262.out 2
      have hfz5_3 := blk_frozen BK262.out 3
      go_wp2
      go_meet
      case rel => exact ⟨_, (true), (by rfl), H', ⟨by omega⟩, ⟨by (with_reducible repeat (first | refine blk_drewN ?_ _ | refine blk_drew ?_ | refine blk_alloc ?_ _ )); exact BK262.out⟩, ⟨by repeat ((with_reducible exact HB.out))⟩⟩
    · replace c4 := Bool.eq_false_iff.mpr c4
      subst c4
      have H1 : (impl_Lifetime.j0 k a0_1 false a0_1 a0_2 a0_3) = some r := by rw [if_neg (show ¬ (false = true) by decide)] at H; exact H
      clear H
      have H := H1
      clear H1
      have H' := Aside0.mk H
      clear H
      have hcz6_0 : w3.cell? ⟨gb262, 0, none⟩ = some (.bool false) := (blk_cell BK262.out 0).trans rfl
      have hcz6_1 : w3.cell? ⟨gb262, 1, none⟩ = some (.bool a0_1) := (blk_cell BK262.out 1).trans rfl
      have hcz6_2 : w3.cell? ⟨gb262, 2, none⟩ = some (.int .i64 a0_2) := (blk_cell BK262.out 2).trans rfl
      have hcz6_3 : w3.cell? ⟨gb262, 3, none⟩ = some (.int .i64 a0_3) := (blk_cell BK262.out 3).trans rfl
      have hfz6_0 := blk_frozen BK262.out 0
      have hfz6_1 := blk_frozen BK262.out 1
      have hfz6_2 := blk_frozen BK262.out 2
      have hfz6_3 := blk_frozen BK262.out 3
      go_wp2
      go_meet
      case rel => exact ⟨_, (a0_1), (by rfl), H', ⟨by omega⟩, ⟨by (with_reducible repeat (first | refine blk_drewN ?_ _ | refine blk_drew ?_ | refine blk_alloc ?_ _ )); exact BK262.out⟩, ⟨by repeat ((with_reducible exact HB.out))⟩⟩
  case rest =>
    clear HC2
    obtain ⟨kq, x3_1, rfl, HA, HJ1, BK262, HB⟩ := hcut
    cases kq with
    | zero => exact absurd HA.out (by simp [impl_Lifetime.j0])
    | succ kj1 =>
      have H := HA.out
      clear HA
      simp only [impl_Lifetime.j0] at H
      by_cases c7 : x3_1 = true
      · subst c7
        have H1 : (some 0) = some r := by rw [if_pos rfl] at H; exact H
        clear H
        have H := H1
        clear H1
        obtain rfl := Option.some.inj H
        go_wp2
        go_ret
        exact ⟨by rfl, by repeat ((with_reducible exact HB.out))⟩
      · replace c7 := Bool.eq_false_iff.mpr c7
        subst c7
        have H1 : (if a0_3 ≥ 0 then (some a0_3) else (some (mx a0_2 0))) = some r := by rw [if_neg (show ¬ (false = true) by decide)] at H; exact H
        clear H
        have H := H1
        clear H1
        by_cases c8 : a0_3 ≥ 0
        · rw [if_pos c8] at H
          have c8b0 : decide (0 ≤ a0_3) = true := decide_eq_true c8
          clear c8
          obtain rfl := Option.some.inj H
          have hcz9_0 : wc.cell? ⟨gb262, 0, none⟩ = some (.bool a0_0) := (blk_cell BK262.out 0).trans rfl
          have hcz9_1 : wc.cell? ⟨gb262, 1, none⟩ = some (.bool a0_1) := (blk_cell BK262.out 1).trans rfl
          have hcz9_2 : wc.cell? ⟨gb262, 2, none⟩ = some (.int .i64 a0_2) := (blk_cell BK262.out 2).trans rfl
          have hcz9_3 : wc.cell? ⟨gb262, 3, none⟩ = some (.int .i64 a0_3) := (blk_cell BK262.out 3).trans rfl
          have hfz9_0 := blk_frozen BK262.out 0
          have hfz9_1 := blk_frozen BK262.out 1
          have hfz9_2 := blk_frozen BK262.out 2
          have hfz9_3 := blk_frozen BK262.out 3
          go_wp2
          go_ret
          exact ⟨by rfl, by repeat ((with_reducible exact HB.out))⟩
        · rw [if_neg c8] at H
          have c8b0 : decide (0 ≤ a0_3) = false := decide_eq_false c8
          clear c8
          obtain ⟨ji10, hji10⟩ : ∃ j_ : Int, (mx a0_2 0) = j_ := ⟨_, rfl⟩
          replace H : (some ji10) = some r := by (rw [hji10] at H; exact H)
          have hji10_ : (if a0_2 < 0 then 0 else a0_2) = ji10 := hji10
          obtain rfl := Option.some.inj H
          have hcz11_0 : wc.cell? ⟨gb262, 0, none⟩ = some (.bool a0_0) := (blk_cell BK262.out 0).trans rfl
          have hcz11_1 : wc.cell? ⟨gb262, 1, none⟩ = some (.bool a0_1) := (blk_cell BK262.out 1).trans rfl
          have hcz11_2 : wc.cell? ⟨gb262, 2, none⟩ = some (.int .i64 a0_2) := (blk_cell BK262.out 2).trans rfl
          have hcz11_3 : wc.cell? ⟨gb262, 3, none⟩ = some (.int .i64 a0_3) := (blk_cell BK262.out 3).trans rfl
          have hfz11_0 := blk_frozen BK262.out 0
          have hfz11_1 := blk_frozen BK262.out 1
          have hfz11_2 := blk_frozen BK262.out 2
          have hfz11_3 := blk_frozen BK262.out 3
          go_wp2
          go_ret
          exact ⟨by rfl, by repeat ((with_reducible exact HB.out))⟩
def spec_Lifetime.j0 : Nat → Bool → Bool → Bool → Int → Int → Option (Int)
  | 0, _, _, _, _, _ => none
  | k + 1, x8, x280000, x280001, x280002, x280003 => if x8 = true then (some 0) else (if x280003 ≥ 0 then (some x280003) else (if x280002 ≥ 0 then (some x280002) else (some 0)))
def spec_Lifetime.f (k : Nat) (a0_0 : Bool) (a0_1 : Bool) (a0_2 : Int) (a0_3 : Int) : Option (Int) := if a0_0 = true then (spec_Lifetime.j0 k true a0_0 a0_1 a0_2 a0_3) else (spec_Lifetime.j0 k a0_1 a0_0 a0_1 a0_2 a0_3)
set_option maxHeartbeats 8000000 in
set_option maxRecDepth 100000 in
theorem spec_Lifetime.calls (k : Nat) (a0_0 : Bool) (a0_1 : Bool) (a0_2 : Int) (a0_3 : Int) (r : Int) (w : World) (h : spec_Lifetime.f k a0_0 a0_1 a0_2 a0_3 = some r) :
    Calls Tryd.prog 19 #[.agg #[.bool a0_0, .bool a0_1, .int .i64 a0_2, .int .i64 a0_3]] w fun e w' => e = .returned (.int .i64 r) ∧ Below w.heap.size w w' := by
  have hu25 := Tryd.underlying25
  have HB := Aside0.mk (Below.refl w.heap.size w)
  have H : (if a0_0 = true then (spec_Lifetime.j0 k true a0_0 a0_1 a0_2 a0_3) else (spec_Lifetime.j0 k a0_1 a0_0 a0_1 a0_2 a0_3)) = some r := h
  clear h
  have HC2 := Aside0.mk H
  clear H
  go_enter Tryd.func19, Tryd.ntmps19
  go_upto_region 1 with (((with_reducible refine gate_dst (N := 1) rfl ?_); refine box_event ?hg (N := 1) ?hd (cs := #[.bool a0_0, .bool a0_1, .int .i64 a0_2, .int .i64 a0_3]) (t := 25) ?hr ?_; (case hd => rfl); (case hg => rfl); (case hr => (go_simp; done)); intro gb279 hg w3 hbox hb; have n0_ := Aside0.mk (below_step (by repeat ((with_reducible exact HB.out))) hb); have n1_ := Aside0.mk (hbox); have n2_ := Aside0.mk ((by rw [hg]; exact (below_size (by repeat ((with_reducible exact HB.out)))) : w.heap.size ≤ gb279)); have n3_ := Aside0.mk ((by rw [hg]; exact (below_size (by repeat ((with_reducible exact HB.out)))) : w.heap.size ≤ gb279)); clear HB; have HB := n0_; have BK279 := n1_; have GW279 := n2_; have GE279 := n3_; clear n0_ n1_ n2_ n3_; clear hb hbox hg))
  (try simp only [Act.put, List.setIfInBounds_toArray, List.set_cons_zero, List.set_cons_succ])
  go_cut [8] (fun v8 wc => ∃ (kq : Nat) (x8_1 : Bool), v8 = .bool x8_1 ∧ Aside0 (spec_Lifetime.j0 kq x8_1 a0_0 a0_1 a0_2 a0_3 = some r) ∧ Aside0 (kq ≤ k) ∧ Aside0 (wc.heap[gb279]? = some (.cells #[.bool a0_0, .bool a0_1, .int .i64 a0_2, .int .i64 a0_3] 25 (0, 0))) ∧ Aside0 (Below w.heap.size w wc))
  case first =>
    have H := HC2.out
    clear HC2
    by_cases c4 : a0_0 = true
    · subst c4
      have H1 : (spec_Lifetime.j0 k true true a0_1 a0_2 a0_3) = some r := by rw [if_pos rfl] at H; exact H
      clear H
      have H := H1
      clear H1
      have H' := Aside0.mk H
      clear H
      have hcz5_0 : w3.cell? ⟨gb279, 0, none⟩ = some (.bool true) := (blk_cell BK279.out 0).trans rfl
      have hcz5_1 : w3.cell? ⟨gb279, 1, none⟩ = some (.bool a0_1) := (blk_cell BK279.out 1).trans rfl
      have hcz5_2 : w3.cell? ⟨gb279, 2, none⟩ = some (.int .i64 a0_2) := (blk_cell BK279.out 2).trans rfl
      have hcz5_3 : w3.cell? ⟨gb279, 3, none⟩ = some (.int .i64 a0_3) := (blk_cell BK279.out 3).trans rfl
      have hfz5_0 := blk_frozen BK279.out 0
      have hfz5_1 := blk_frozen BK279.out 1
      have hfz5_2 := blk_frozen BK279.out 2
      have hfz5_3 := blk_frozen BK279.out 3
      go_wp2
      go_meet
      case rel => exact ⟨_, (true), (by rfl), H', ⟨by omega⟩, ⟨by (with_reducible repeat (first | refine blk_drewN ?_ _ | refine blk_drew ?_ | refine blk_alloc ?_ _ )); exact BK279.out⟩, ⟨by repeat ((with_reducible exact HB.out))⟩⟩
    · replace c4 := Bool.eq_false_iff.mpr c4
      subst c4
      have H1 : (spec_Lifetime.j0 k a0_1 false a0_1 a0_2 a0_3) = some r := by rw [if_neg (show ¬ (false = true) by decide)] at H; exact H
      clear H
      have H := H1
      clear H1
      have H' := Aside0.mk H
      clear H
      have hcz6_0 : w3.cell? ⟨gb279, 0, none⟩ = some (.bool false) := (blk_cell BK279.out 0).trans rfl
      have hcz6_1 : w3.cell? ⟨gb279, 1, none⟩ = some (.bool a0_1) := (blk_cell BK279.out 1).trans rfl
      have hcz6_2 : w3.cell? ⟨gb279, 2, none⟩ = some (.int .i64 a0_2) := (blk_cell BK279.out 2).trans rfl
      have hcz6_3 : w3.cell? ⟨gb279, 3, none⟩ = some (.int .i64 a0_3) := (blk_cell BK279.out 3).trans rfl
      have hfz6_0 := blk_frozen BK279.out 0
      have hfz6_1 := blk_frozen BK279.out 1
      have hfz6_2 := blk_frozen BK279.out 2
      have hfz6_3 := blk_frozen BK279.out 3
      go_wp2
      go_meet
      case rel => exact ⟨_, (a0_1), (by rfl), H', ⟨by omega⟩, ⟨by (with_reducible repeat (first | refine blk_drewN ?_ _ | refine blk_drew ?_ | refine blk_alloc ?_ _ )); exact BK279.out⟩, ⟨by repeat ((with_reducible exact HB.out))⟩⟩
  case rest =>
    clear HC2
    obtain ⟨kq, x8_1, rfl, HA, HJ1, BK279, HB⟩ := hcut
    cases kq with
    | zero => exact absurd HA.out (by simp [spec_Lifetime.j0])
    | succ kj1 =>
      have H := HA.out
      clear HA
      simp only [spec_Lifetime.j0] at H
      by_cases c7 : x8_1 = true
      · subst c7
        have H1 : (some 0) = some r := by rw [if_pos rfl] at H; exact H
        clear H
        have H := H1
        clear H1
        obtain rfl := Option.some.inj H
        go_wp2
        go_ret
        exact ⟨by rfl, by repeat ((with_reducible exact HB.out))⟩
      · replace c7 := Bool.eq_false_iff.mpr c7
        subst c7
        have H1 : (if a0_3 ≥ 0 then (some a0_3) else (if a0_2 ≥ 0 then (some a0_2) else (some 0))) = some r := by rw [if_neg (show ¬ (false = true) by decide)] at H; exact H
        clear H
        have H := H1
        clear H1
        by_cases c8 : a0_3 ≥ 0
        · rw [if_pos c8] at H
          have c8b0 : decide (0 ≤ a0_3) = true := decide_eq_true c8
          clear c8
          obtain rfl := Option.some.inj H
          have hcz9_0 : wc.cell? ⟨gb279, 0, none⟩ = some (.bool a0_0) := (blk_cell BK279.out 0).trans rfl
          have hcz9_1 : wc.cell? ⟨gb279, 1, none⟩ = some (.bool a0_1) := (blk_cell BK279.out 1).trans rfl
          have hcz9_2 : wc.cell? ⟨gb279, 2, none⟩ = some (.int .i64 a0_2) := (blk_cell BK279.out 2).trans rfl
          have hcz9_3 : wc.cell? ⟨gb279, 3, none⟩ = some (.int .i64 a0_3) := (blk_cell BK279.out 3).trans rfl
          have hfz9_0 := blk_frozen BK279.out 0
          have hfz9_1 := blk_frozen BK279.out 1
          have hfz9_2 := blk_frozen BK279.out 2
          have hfz9_3 := blk_frozen BK279.out 3
          go_wp2
          go_ret
          exact ⟨by rfl, by repeat ((with_reducible exact HB.out))⟩
        · rw [if_neg c8] at H
          have c8b0 : decide (0 ≤ a0_3) = false := decide_eq_false c8
          clear c8
          by_cases c10 : a0_2 ≥ 0
          · rw [if_pos c10] at H
            have c10b0 : decide (0 ≤ a0_2) = true := decide_eq_true c10
            clear c10
            obtain rfl := Option.some.inj H
            have hcz11_0 : wc.cell? ⟨gb279, 0, none⟩ = some (.bool a0_0) := (blk_cell BK279.out 0).trans rfl
            have hcz11_1 : wc.cell? ⟨gb279, 1, none⟩ = some (.bool a0_1) := (blk_cell BK279.out 1).trans rfl
            have hcz11_2 : wc.cell? ⟨gb279, 2, none⟩ = some (.int .i64 a0_2) := (blk_cell BK279.out 2).trans rfl
            have hcz11_3 : wc.cell? ⟨gb279, 3, none⟩ = some (.int .i64 a0_3) := (blk_cell BK279.out 3).trans rfl
            have hfz11_0 := blk_frozen BK279.out 0
            have hfz11_1 := blk_frozen BK279.out 1
            have hfz11_2 := blk_frozen BK279.out 2
            have hfz11_3 := blk_frozen BK279.out 3
            go_wp2
            go_ret
            exact ⟨by rfl, by repeat ((with_reducible exact HB.out))⟩
          · rw [if_neg c10] at H
            have c10b0 : decide (0 ≤ a0_2) = false := decide_eq_false c10
            clear c10
            obtain rfl := Option.some.inj H
            have hcz12_0 : wc.cell? ⟨gb279, 0, none⟩ = some (.bool a0_0) := (blk_cell BK279.out 0).trans rfl
            have hcz12_1 : wc.cell? ⟨gb279, 1, none⟩ = some (.bool a0_1) := (blk_cell BK279.out 1).trans rfl
            have hcz12_2 : wc.cell? ⟨gb279, 2, none⟩ = some (.int .i64 a0_2) := (blk_cell BK279.out 2).trans rfl
            have hcz12_3 : wc.cell? ⟨gb279, 3, none⟩ = some (.int .i64 a0_3) := (blk_cell BK279.out 3).trans rfl
            have hfz12_0 := blk_frozen BK279.out 0
            have hfz12_1 := blk_frozen BK279.out 1
            have hfz12_2 := blk_frozen BK279.out 2
            have hfz12_3 := blk_frozen BK279.out 3
            go_wp2
            go_ret
            exact ⟨by rfl, by repeat ((with_reducible exact HB.out))⟩
end Go.Proofs.YthjigecaojaalaaDoor.Q
