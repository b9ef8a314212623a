import Derived.Test.YtoopdknphikgkaaB0
import Derived.Test.YtoopdknphikgkaaG19
import Derived.Test.YtoopdknphikgkaaG20
import Derived.Test.YtoopdknphikgkaaG72
import Derived.Test.YtoopdknphikgkaaG103
import Derived.Test.YtoopdknphikgkaaWApart
import Derived.Test.YtoopdknphikgkaaWFoot
import Derived.Test.YtoopdknphikgkaaWInv
import Derived.Test.YtoopdknphikgkaaWKept
import Derived.Test.YtoopdknphikgkaaWLast
import Derived.Test.YtoopdknphikgkaaWMore
import Derived.Test.YtoopdknphikgkaaWN
import Derived.Test.YtoopdknphikgkaaWRepsOne
import Derived.Test.YtoopdknphikgkaaWShare
import Derived.Test.YtoopdknphikgkaaWWords
namespace Go.Proofs.Ytoopdknphikgkaa.Q
open Go.RowKit Go.Proofs.YtoopdknphikgkaaW.PrintWords Go.Proofs.YtoopdknphikgkaaW.PrintLast Go.Proofs.YtoopdknphikgkaaW.PrintMore
attribute [local go_sem] max2_int min2_int max_two min_two max_three min_three max_four min_four   -- for this text's walks alone
set_option linter.unusedVariables false
set_option linter.unusedSimpArgs false

/-! ### spec_PolicyNew: function 32 -/
def spec_PolicyNew.f (k : Nat)  : Option (List ByteArray × List ByteArray × (List (List Int)) × Int) := (spec_SketchNew.f k).bind fun bt284 => (some (([] : List ByteArray), ([] : List ByteArray), bt284.1, bt284.2))
theorem spec_PolicyNew.mono : ∀ k, LeO (spec_PolicyNew.f k ) (spec_PolicyNew.f (k + 1) ) := by
  intro  k
  unfold spec_PolicyNew.f
  repeat' first | (with_reducible exact spec_SketchNew.mono _) | (with_reducible exact LeO.refl _) | (with_reducible refine LeO.bind ?_ (fun _ => ?_))
set_option maxHeartbeats 8000000 in
set_option maxRecDepth 100000 in
theorem spec_PolicyNew.calls (k : Nat)  (r1 : List ByteArray) (r2 : List ByteArray) (r3 : List (List Int)) (r4 : Int) (w : World) (h : spec_PolicyNew.f k  = some (r1, r2, r3, r4)) :
    Calls Try.prog 32 #[] w fun e w' => ∃ v0_ v1_ v2_ : Value, e = .returned (.agg #[v0_, v1_, v2_, .int .i64 r4]) ∧ Kd.R Kd.string 9 w' w.heap.size (fun k_ => some k_ ≠ (v1_ : Value).ownBlock) v0_ r1 ∧ Kd.R Kd.string 9 w' w.heap.size (fun k_ => some k_ ≠ (v0_ : Value).ownBlock) v1_ r2 ∧ Kd.S (Kd.slice 3 (Kd.int .i64)) 58 w' w.heap.size (fun _ => True) v2_ r3 ∧ Below w.heap.size w w' := by
  have hu43 := Try.underlying43
  have HB := Aside0.mk (Below.refl w.heap.size w)
  have H : ((spec_SketchNew.f k).bind fun bt284 => (some (([] : List ByteArray), ([] : List ByteArray), bt284.1, bt284.2))) = some (r1, r2, r3, r4) := h
  clear h
  replace H := Option.bind_eq_some_iff.mp H
  obtain ⟨⟨t284, t287⟩, A10, H⟩ := H
  replace H : (some (([] : List ByteArray), ([] : List ByteArray), t284, t287)) = some (r1, r2, r3, r4) := H
  have A1 := Aside0.mk A10
  clear A10
  simp only [Option.some.injEq, Prod.mk.injEq] at H
  obtain ⟨rfl, rfl, rfl, rfl⟩ := H
  go_enter Try.func32, Try.ntmps32
  go_wp2_with (first | ((with_reducible refine gate_dst (N := 0) rfl ?_); refine box_event ?hg (N := 0) ?hd (cs := #[.slice none 0 0, .slice none 0 0, .slice none 0 0, .int .i64 0]) (t := 43) ?hr ?_; (case hd => rfl); (case hg => rfl); (case hr => (go_simp; done)); intro gb283 hg w2 hbox hb; have n0_ := Aside0.mk (below_step (by repeat ((with_reducible exact HB.out))) hb); have n1_ := Aside0.mk (hbox); have n2_ := Aside0.mk ((by rw [hg]; exact (below_size (by repeat ((with_reducible exact HB.out)))) : w.heap.size ≤ gb283)); have n3_ := Aside0.mk ((by rw [hg]; exact (below_size (by repeat ((with_reducible exact HB.out)))) : w.heap.size ≤ gb283)); clear HB; have HB := n0_; have BK283 := n1_; have GW283 := n2_; have GE283 := n3_; clear n0_ n1_ n2_ n3_; clear hb hbox hg) | ((with_reducible refine gate_callee (f := 19) rfl ?_); refine goesL_ (some 1) rfl rfl Try.func19 (by kernel_rfl) rfl #[] rfl (by (try simp only [List.map_toArray, List.map_cons, List.map_nil]); done) ?_; (with_reducible refine (spec_SketchNew.calls k  t284 t287 _ A1.out).mono ?_); rintro e w3 ⟨v285, rfl, ho0, hb⟩; refine ⟨_, rfl, ?_⟩; have n0_ := Aside0.mk (Kd.S_lower ho0 (below_size (by repeat ((with_reducible exact HB.out))))); have n1_ := Aside0.mk (blk_below (g := gb283) (o := .cells #[.slice none 0 0, .slice none 0 0, .slice none 0 0, .int .i64 0] 43 (0, 0)) (by (with_reducible repeat (first | refine blk_drewN ?_ _ | refine blk_drew ?_ | refine blk_alloc ?_ _ )); exact BK283.out) hb); have n2_ := Aside0.mk (below_step (by repeat ((with_reducible exact HB.out))) hb); clear BK283; clear HB; have HO286 := n0_; have BK283 := n1_; have HB := n2_; clear n0_ n1_ n2_; (try clear hb); (try clear hb2); (try clear hk); (try clear hi); (try clear ho0); obtain ⟨Ao4, co4, eo4⟩ := Kd.S_slice HO286.out; subst eo4; have hcz5_0 : w3.cell? ⟨gb283, 0, none⟩ = some (.slice none 0 0) := (blk_cell BK283.out 0).trans rfl; have hcz5_1 : w3.cell? ⟨gb283, 1, none⟩ = some (.slice none 0 0) := (blk_cell BK283.out 1).trans rfl; have hcz5_2 : w3.cell? ⟨gb283, 2, none⟩ = some (.slice none 0 0) := (blk_cell BK283.out 2).trans rfl; have hcz5_3 : w3.cell? ⟨gb283, 3, none⟩ = some (.int .i64 0) := (blk_cell BK283.out 3).trans rfl; have hfz5_0 := blk_frozen BK283.out 0; have hfz5_1 := blk_frozen BK283.out 1; have hfz5_2 := blk_frozen BK283.out 2; have hfz5_3 := blk_frozen BK283.out 3))
  refine bodyPost_ret (results_cell_row rfl _ _ gb283 43 #[.slice none 0 0, .slice none 0 0, .slice Ao4 t284.length co4, .int .i64 t287] (0, 0) _ rfl (by (with_reducible repeat (first | refine blk_drewN ?_ _ | refine blk_drew ?_ | refine blk_alloc ?_ _ )); refine blk_put (cs := #[.slice none 0 0, .slice none 0 0, .slice Ao4 t284.length co4, .int .i64 0]) ?_ 3 _ rfl; (with_reducible repeat (first | refine blk_drewN ?_ _ | refine blk_drew ?_ | refine blk_alloc ?_ _ )); refine blk_put (cs := #[.slice none 0 0, .slice none 0 0, .slice none 0 0, .int .i64 0]) ?_ 2 _ rfl; (with_reducible repeat (first | refine blk_drewN ?_ _ | refine blk_drew ?_ | refine blk_alloc ?_ _ )); refine blk_put (cs := #[.slice none 0 0, .slice none 0 0, .slice none 0 0, .int .i64 0]) ?_ 1 _ rfl; (with_reducible repeat (first | refine blk_drewN ?_ _ | refine blk_drew ?_ | refine blk_alloc ?_ _ )); refine blk_put (cs := #[.slice none 0 0, .slice none 0 0, .slice none 0 0, .int .i64 0]) ?_ 0 _ rfl; (with_reducible repeat (first | refine blk_drewN ?_ _ | refine blk_drew ?_ | refine blk_alloc ?_ _ )); exact BK283.out) Try.underlying43 rfl (by kernel_rfl)) rfl ?_
  exact ⟨_, _, _, by rfl, by exact Kd.R_nil _ _ _ _ _, by exact Kd.R_nil _ _ _ _ _, by (with_reducible repeat (first | apply Kd.S_alloc | apply Kd.S_drewN | apply Kd.S_drew )); exact Kd.S_mono (Kd.S_far (p := ⟨gb283, 3, none⟩) (Kd.S_far (p := ⟨gb283, 2, none⟩) (Kd.S_far (p := ⟨gb283, 1, none⟩) (Kd.S_far (p := ⟨gb283, 0, none⟩) (Kd.S_types HO286.out BK283.out (by decide)) (fun _ hk => hk.2) (.slice none 0 0)) (fun _ hk => hk.2) (.slice none 0 0)) (fun _ hk => hk.2) (.slice Ao4 t284.length co4)) (fun _ hk => hk.2) (.int .i64 t287)) (fun _ hk => trivial), by repeat ((with_reducible first | exact HB.out | refine below_set ?_ GE283.out))⟩

/-! ### impl_PolicyNew: function 33 -/
def impl_PolicyNew.f (k : Nat)  : Option (List ByteArray × List ByteArray × (List (List Int)) × Int) := (impl_SketchNew.f k).bind fun bt289 => (some (([] : List ByteArray), ([] : List ByteArray), bt289.1, bt289.2))
theorem impl_PolicyNew.mono : ∀ k, LeO (impl_PolicyNew.f k ) (impl_PolicyNew.f (k + 1) ) := by
  intro  k
  unfold impl_PolicyNew.f
  repeat' first | (with_reducible exact impl_SketchNew.mono _) | (with_reducible exact LeO.refl _) | (with_reducible refine LeO.bind ?_ (fun _ => ?_))
set_option maxHeartbeats 8000000 in
set_option maxRecDepth 100000 in
theorem impl_PolicyNew.calls (k : Nat)  (r1 : List ByteArray) (r2 : List ByteArray) (r3 : List (List Int)) (r4 : Int) (w : World) (h : impl_PolicyNew.f k  = some (r1, r2, r3, r4)) :
    Calls Try.prog 33 #[] w fun e w' => ∃ v0_ v1_ v2_ : Value, e = .returned (.agg #[v0_, v1_, v2_, .int .i64 r4]) ∧ Kd.R Kd.string 9 w' w.heap.size (fun k_ => some k_ ≠ (v1_ : Value).ownBlock) v0_ r1 ∧ Kd.R Kd.string 9 w' w.heap.size (fun k_ => some k_ ≠ (v0_ : Value).ownBlock) v1_ r2 ∧ Kd.S (Kd.slice 3 (Kd.int .i64)) 58 w' w.heap.size (fun _ => True) v2_ r3 ∧ Below w.heap.size w w' := by
  have hu43 := Try.underlying43
  have HB := Aside0.mk (Below.refl w.heap.size w)
  have H : ((impl_SketchNew.f k).bind fun bt289 => (some (([] : List ByteArray), ([] : List ByteArray), bt289.1, bt289.2))) = some (r1, r2, r3, r4) := h
  clear h
  replace H := Option.bind_eq_some_iff.mp H
  obtain ⟨⟨t289, t292⟩, A10, H⟩ := H
  replace H : (some (([] : List ByteArray), ([] : List ByteArray), t289, t292)) = some (r1, r2, r3, r4) := H
  have A1 := Aside0.mk A10
  clear A10
  simp only [Option.some.injEq, Prod.mk.injEq] at H
  obtain ⟨rfl, rfl, rfl, rfl⟩ := H
  go_enter Try.func33, Try.ntmps33
  go_wp2_with (first | ((with_reducible refine gate_dst (N := 0) rfl ?_); refine box_event ?hg (N := 0) ?hd (cs := #[.slice none 0 0, .slice none 0 0, .slice none 0 0, .int .i64 0]) (t := 43) ?hr ?_; (case hd => rfl); (case hg => rfl); (case hr => (go_simp; done)); intro gb288 hg w2 hbox hb; have n0_ := Aside0.mk (below_step (by repeat ((with_reducible exact HB.out))) hb); have n1_ := Aside0.mk (hbox); have n2_ := Aside0.mk ((by rw [hg]; exact (below_size (by repeat ((with_reducible exact HB.out)))) : w.heap.size ≤ gb288)); have n3_ := Aside0.mk ((by rw [hg]; exact (below_size (by repeat ((with_reducible exact HB.out)))) : w.heap.size ≤ gb288)); clear HB; have HB := n0_; have BK288 := n1_; have GW288 := n2_; have GE288 := n3_; clear n0_ n1_ n2_ n3_; clear hb hbox hg) | ((with_reducible refine gate_callee (f := 20) rfl ?_); refine goesL_ (some 1) rfl rfl Try.func20 (by kernel_rfl) rfl #[] rfl (by (try simp only [List.map_toArray, List.map_cons, List.map_nil]); done) ?_; (with_reducible refine (impl_SketchNew.calls k  t289 t292 _ A1.out).mono ?_); rintro e w3 ⟨v290, rfl, ho0, hb⟩; refine ⟨_, rfl, ?_⟩; have n0_ := Aside0.mk (Kd.S_lower ho0 (below_size (by repeat ((with_reducible exact HB.out))))); have n1_ := Aside0.mk (blk_below (g := gb288) (o := .cells #[.slice none 0 0, .slice none 0 0, .slice none 0 0, .int .i64 0] 43 (0, 0)) (by (with_reducible repeat (first | refine blk_drewN ?_ _ | refine blk_drew ?_ | refine blk_alloc ?_ _ )); exact BK288.out) hb); have n2_ := Aside0.mk (below_step (by repeat ((with_reducible exact HB.out))) hb); clear BK288; clear HB; have HO291 := n0_; have BK288 := n1_; have HB := n2_; clear n0_ n1_ n2_; (try clear hb); (try clear hb2); (try clear hk); (try clear hi); (try clear ho0); obtain ⟨Ao4, co4, eo4⟩ := Kd.S_slice HO291.out; subst eo4; have hcz5_0 : w3.cell? ⟨gb288, 0, none⟩ = some (.slice none 0 0) := (blk_cell BK288.out 0).trans rfl; have hcz5_1 : w3.cell? ⟨gb288, 1, none⟩ = some (.slice none 0 0) := (blk_cell BK288.out 1).trans rfl; have hcz5_2 : w3.cell? ⟨gb288, 2, none⟩ = some (.slice none 0 0) := (blk_cell BK288.out 2).trans rfl; have hcz5_3 : w3.cell? ⟨gb288, 3, none⟩ = some (.int .i64 0) := (blk_cell BK288.out 3).trans rfl; have hfz5_0 := blk_frozen BK288.out 0; have hfz5_1 := blk_frozen BK288.out 1; have hfz5_2 := blk_frozen BK288.out 2; have hfz5_3 := blk_frozen BK288.out 3))
  refine bodyPost_ret (results_cell_row rfl _ _ gb288 43 #[.slice none 0 0, .slice none 0 0, .slice Ao4 t289.length co4, .int .i64 t292] (0, 0) _ rfl (by (with_reducible repeat (first | refine blk_drewN ?_ _ | refine blk_drew ?_ | refine blk_alloc ?_ _ )); refine blk_put (cs := #[.slice none 0 0, .slice none 0 0, .slice Ao4 t289.length co4, .int .i64 0]) ?_ 3 _ rfl; (with_reducible repeat (first | refine blk_drewN ?_ _ | refine blk_drew ?_ | refine blk_alloc ?_ _ )); refine blk_put (cs := #[.slice none 0 0, .slice none 0 0, .slice none 0 0, .int .i64 0]) ?_ 2 _ rfl; (with_reducible repeat (first | refine blk_drewN ?_ _ | refine blk_drew ?_ | refine blk_alloc ?_ _ )); refine blk_put (cs := #[.slice none 0 0, .slice none 0 0, .slice none 0 0, .int .i64 0]) ?_ 1 _ rfl; (with_reducible repeat (first | refine blk_drewN ?_ _ | refine blk_drew ?_ | refine blk_alloc ?_ _ )); refine blk_put (cs := #[.slice none 0 0, .slice none 0 0, .slice none 0 0, .int .i64 0]) ?_ 0 _ rfl; (with_reducible repeat (first | refine blk_drewN ?_ _ | refine blk_drew ?_ | refine blk_alloc ?_ _ )); exact BK288.out) Try.underlying43 rfl (by kernel_rfl)) rfl ?_
  exact ⟨_, _, _, by rfl, by exact Kd.R_nil _ _ _ _ _, by exact Kd.R_nil _ _ _ _ _, by (with_reducible repeat (first | apply Kd.S_alloc | apply Kd.S_drewN | apply Kd.S_drew )); exact Kd.S_mono (Kd.S_far (p := ⟨gb288, 3, none⟩) (Kd.S_far (p := ⟨gb288, 2, none⟩) (Kd.S_far (p := ⟨gb288, 1, none⟩) (Kd.S_far (p := ⟨gb288, 0, none⟩) (Kd.S_types HO291.out BK288.out (by decide)) (fun _ hk => hk.2) (.slice none 0 0)) (fun _ hk => hk.2) (.slice none 0 0)) (fun _ hk => hk.2) (.slice Ao4 t289.length co4)) (fun _ hk => hk.2) (.int .i64 t292)) (fun _ hk => trivial), by repeat ((with_reducible first | exact HB.out | refine below_set ?_ GE288.out))⟩

/-! ### laws_markText: function 108 -/
def laws_markText.l0 : Nat → Int → ByteArray → Option (ByteArray)
  | 0, _, _ => none
  | k + 1, x0, x3 => if x0 > 0 then ((some (([(wrap64 (48 + (Int.tmod x0 10))) % 256] : List Int) : List Int)).bind fun y300 => (if (strOfNums y300).size + x3.size ≤ 9223372036854775807 then (laws_markText.l0 k (wrap64 (Int.tdiv x0 10)) ((strOfNums y300) ++ x3)) else (none))) else (if 1 + x3.size ≤ 9223372036854775807 then (some ((⟨#[109]⟩ : ByteArray) ++ x3)) else (none))
def laws_markText.f (k : Nat) (a0 : Int) : Option (ByteArray) := if a0 ≤ 0 then (some (⟨#[109, 48]⟩ : ByteArray)) else (laws_markText.l0 k a0 (⟨#[]⟩ : ByteArray))
theorem laws_markText.mono_l : ∀ k, (∀ y0 y1, LeO (laws_markText.l0 k y0 y1) (laws_markText.l0 (k + 1) y0 y1))
  | 0 => fun _ _ r h => by simp [laws_markText.l0] at h
  | k + 1 => by
    have ih0 := laws_markText.mono_l k
    · intro y0 y1
      unfold laws_markText.l0
      repeat' first | (with_reducible exact ih0 _ _) | (with_reducible exact LeO.refl _) | (with_reducible refine LeO.ite ?_ ?_) | (with_reducible refine LeO.bind ?_ (fun _ => ?_))
theorem laws_markText.mono : ∀ a0 k, LeO (laws_markText.f k a0) (laws_markText.f (k + 1) a0) := by
  intro a0 k
  have ih0 := laws_markText.mono_l k
  unfold laws_markText.f
  repeat' first | (with_reducible exact ih0 _ _) | (with_reducible exact LeO.refl _) | (with_reducible refine LeO.ite ?_ ?_)
set_option maxHeartbeats 8000000 in
set_option maxRecDepth 100000 in
theorem laws_markText.calls (k : Nat) (a0 : Int) (r : ByteArray) (w : World) (h : laws_markText.f k a0 = some r) :
    Calls Try.prog 108 #[.int .i64 a0] w fun e w' => e = .returned (.string r) ∧ Below w.heap.size w w' := by
  have HB := Aside0.mk (Below.refl w.heap.size w)
  have H : (if a0 ≤ 0 then (some (⟨#[109, 48]⟩ : ByteArray)) else (laws_markText.l0 k a0 (⟨#[]⟩ : ByteArray))) = some r := h
  clear h
  by_cases c2 : a0 ≤ 0
  · rw [if_pos c2] at H
    have c2b0 : decide (a0 ≤ 0) = true := decide_eq_true c2
    clear c2
    obtain rfl := Option.some.inj H
    go_enter Try.func108, Try.ntmps108
    go_wp2
    go_ret
    exact ⟨by rfl, by repeat ((with_reducible exact HB.out))⟩
  · rw [if_neg c2] at H
    have c2b0 : decide (a0 ≤ 0) = false := decide_eq_false c2
    clear c2
    have H' := Aside0.mk H
    clear H
    go_enter Try.func108, Try.ntmps108
    go_wp2
    go_loopg [0, 3] k (fun kq v0 v3 w' => ∃ (x0_1 : Int) (x3_1 : ByteArray), v0 = .int .i64 x0_1 ∧ v3 = .string x3_1 ∧ Aside0 (laws_markText.l0 kq x0_1 x3_1 = some r) ∧ Aside0 (kq ≤ k) ∧ Aside0 (Below w.heap.size w w'))
    case atStart => exact ⟨(a0), ((⟨#[]⟩ : ByteArray)), (by rfl), (by rfl), H', ⟨Nat.le_refl _⟩, ⟨by repeat ((with_reducible exact HB.out))⟩⟩
    case round =>
      clear H'
      clear c2b0
      obtain ⟨x0_1, x3_1, rfl, rfl, HA, HK1, HB⟩ := hrel
      cases gk with
      | zero => exact absurd HA.out (by simp [laws_markText.l0])
      | succ k1 =>
        have H := HA.out
        clear HA
        simp only [laws_markText.l0] at H
        by_cases c3 : x0_1 > 0
        · rw [if_pos c3] at H
          have c3b0 : decide (0 < x0_1) = true := decide_eq_true c3
          clear c3
          obtain ⟨y300, hy300⟩ : ∃ y_ : List Int, y_ = (([(wrap64 (48 + (Int.tmod x0_1 10))) % 256] : List Int)) := ⟨_, rfl⟩
          replace H : (if (strOfNums y300).size + x3_1.size ≤ 9223372036854775807 then (laws_markText.l0 k1 (wrap64 (Int.tdiv x0_1 10)) ((strOfNums y300) ++ x3_1)) else (none)) = some r := by (have H2_ := (Option.bind_some _ _).symm.trans H; rw [hy300]; with_reducible exact H2_)
          have Ny300 := Aside0.mk hy300
          clear hy300
          by_cases c4 : (strOfNums y300).size + x3_1.size ≤ 9223372036854775807
          · rw [if_pos c4] at H
            have c4b0 := eq_true c4
            have c4b1 : decide ((strOfNums y300).size + x3_1.size ≤ 9223372036854775807) = true := decide_eq_true c4
            have c4b2 : (9223372036854775807 < (strOfNums y300).size + x3_1.size) = False := eq_false (Nat.not_lt.2 c4)
            have H' := Aside0.mk H
            clear H
            go_wp2_with (((with_reducible refine gate_dst (N := 12) rfl ?_); refine Kd.R_lit (Kd.int .u8) _ 5 ?hg (N := 12) ?hd (xs := ([(wrap64 (48 + (Int.tmod x0_1 10))) % 256] : List Int)) (inner := [.int .u8 ((wrap64 (48 + (Int.tmod x0_1 10))) % 256)]) (ok := fun _ => True) (okp := fun _ => True) ?hr ?hp (fun _ hk => hk) trivial (Below.refl _ _) (Nat.le_refl _) (by simp) ?_; (case hd => rfl); (case hg => rfl); (case hr => (go_simp; done)); (case hp => exact (Reps.one (show Kd.M (Kd.int .u8) _ _ _ ((wrap64 (48 + (Int.tmod x0_1 10))) % 256) [.int .u8 ((wrap64 (48 + (Int.tmod x0_1 10))) % 256)] from rfl) (Reps.none _ _))); intro v301 w5 ho6 hb hg_ hnew_; clear hg_ hnew_; (rw [← Ny300.out] at ho6); have n0_ := Aside0.mk (Kd.R_lower ho6 (below_size (by repeat ((with_reducible exact HB.out))))); have n1_ := Aside0.mk (below_step (by repeat ((with_reducible exact HB.out))) hb); clear HB; have HO302 := n0_; have HB := n1_; clear n0_ n1_; clear hb ho6; have hcv7 := own_string (P := Try.prog) Try.underlying36 Try.underlying5 Try.underlying9 (Kd.own_of_R HO302.out)))
            go_roundg k1
            case measure => have := HK1.out; omega
            case rel => exact ⟨(wrap64 (Int.tdiv x0_1 10)), ((strOfNums y300) ++ x3_1), (by rfl), (by rfl), H', ⟨by have := HK1.out; omega⟩, ⟨by repeat ((with_reducible exact HB.out))⟩⟩
          · rw [if_neg c4] at H
            exact absurd H (by simp)
        · rw [if_neg c3] at H
          have c3b0 : decide (0 < x0_1) = false := decide_eq_false c3
          clear c3
          by_cases c8 : 1 + x3_1.size ≤ 9223372036854775807
          · rw [if_pos c8] at H
            have c8b0 := eq_true c8
            have c8b1 : decide (1 + x3_1.size ≤ 9223372036854775807) = true := decide_eq_true c8
            have c8b2 : (9223372036854775807 < 1 + x3_1.size) = False := eq_false (Nat.not_lt.2 c8)
            obtain rfl := Option.some.inj H
            go_wp2
            go_ret
            exact ⟨by rfl, by repeat ((with_reducible exact HB.out))⟩
          · rw [if_neg c8] at H
            exact absurd H (by simp)

/-! ### laws_markStringS: function 73 -/
def laws_markStringS.l0 : Nat → List ByteArray → Int → Int → Option (Int × List ByteArray)
  | 0, _, _, _ => none
  | k + 1, x0, x1, x5 => if x5 < (x0.length : Int) then ((laws_markText.f k x1).bind fun t303 => (if 0 ≤ x5 then (laws_markStringS.l0 k (x0.set (x5 : Int).toNat t303) (wrap64 (x1 + 1)) (wrap64 (x5 + 1))) else (none))) else (some (x1, x0))
def laws_markStringS.f (k : Nat) (l0 : List ByteArray) (a1 : Int) : Option (Int × List ByteArray) := laws_markStringS.l0 k l0 a1 0
theorem laws_markStringS.mono_l : ∀ k, (∀ y0 y1 y2, LeO (laws_markStringS.l0 k y0 y1 y2) (laws_markStringS.l0 (k + 1) y0 y1 y2))
  | 0 => fun _ _ _ r h => by simp [laws_markStringS.l0] at h
  | k + 1 => by
    have ih0 := laws_markStringS.mono_l k
    · intro y0 y1 y2
      unfold laws_markStringS.l0
      repeat' first | (with_reducible exact ih0 _ _ _) | (with_reducible exact laws_markText.mono _ _) | (with_reducible exact LeO.refl _) | (with_reducible refine LeO.ite ?_ ?_) | (with_reducible refine LeO.bind ?_ (fun _ => ?_))
theorem laws_markStringS.mono : ∀ a0 a1 k, LeO (laws_markStringS.f k a0 a1) (laws_markStringS.f (k + 1) a0 a1) := by
  intro a0 a1 k
  have ih0 := laws_markStringS.mono_l k
  unfold laws_markStringS.f
  repeat' (with_reducible exact ih0 _ _ _)
set_option maxHeartbeats 8000000 in
set_option maxRecDepth 100000 in
theorem laws_markStringS.calls (k : Nat) (P0_ : Nat → Prop) (u9000_ : Value) (l0 : List ByteArray) (a1 : Int) (r1 : Int) (r2 : List ByteArray) (w0 w : World) (hB : Below w0.heap.size w0 w) (ho0 : Kd.R Kd.string 9 w w0.heap.size P0_ u9000_ l0) (h : laws_markStringS.f k l0 a1 = some (r1, r2)) :
    Calls Try.prog 73 #[u9000_, .int .i64 a1] w fun e w' => e = .returned (.int .i64 r1) ∧ Kd.R Kd.string 9 w' w0.heap.size (fun k_ => (P0_ k_ ∨ w.heap.size ≤ k_)) u9000_ r2 ∧ Below w0.heap.size w0 w' ∧ Kept w w' (fun k_ => P0_ k_) := by
  have HO0 := Aside0.mk (show Kd.R Kd.string 9 w w0.heap.size (fun k_ => (P0_ k_ ∨ w.heap.size ≤ k_)) u9000_ l0 from Kd.R_mono ho0 (fun k_ hk => (.inl hk)))
  have HK := Aside0.mk (Kept.refl w (fun k_ => P0_ k_))
  have HW0 := Aside0.mk hB.size
  have HB := Aside0.mk hB
  clear hB
  have H : (laws_markStringS.l0 k l0 a1 0) = some (r1, r2) := h
  clear h
  have H' := Aside0.mk H
  clear H
  go_enter Try.func73, Try.ntmps73
  go_wp2
  go_loopg [1, 5] k (fun kq v1 v5 w' => ∃ (x0_1 : List ByteArray) (x1_1 : Int) (x5_1 : Int), v1 = .int .i64 x1_1 ∧ v5 = .int .i64 x5_1 ∧ Aside0 (laws_markStringS.l0 kq x0_1 x1_1 x5_1 = some (r1, r2)) ∧ Aside0 (kq ≤ k) ∧ Aside0 (Kd.R Kd.string 9 w' w0.heap.size (fun k_ => (P0_ k_ ∨ w.heap.size ≤ k_)) u9000_ x0_1) ∧ Aside0 (Kept w w' (fun k_ => P0_ k_)) ∧ Aside0 (Below w0.heap.size w0 w'))
  case atStart => exact ⟨(l0), (a1), (0), (by rfl), (by rfl), H', ⟨Nat.le_refl _⟩, ⟨by (with_reducible repeat (first | apply Kd.R_alloc | apply Kd.R_drewN | apply Kd.R_drew )); exact HO0.out⟩, ⟨by repeat ((with_reducible exact HK.out))⟩, ⟨by repeat ((with_reducible exact HB.out))⟩⟩
  case round =>
    clear H'
    obtain ⟨x0_1, x1_1, x5_1, rfl, rfl, HA, HK1, HO_0, HK, HB⟩ := hrel
    cases gk with
    | zero => exact absurd HA.out (by simp [laws_markStringS.l0])
    | succ k1 =>
      have H := HA.out
      clear HA
      simp only [laws_markStringS.l0] at H
      by_cases c3 : x5_1 < (x0_1.length : Int)
      · rw [if_pos c3] at H
        have c3b0 : decide (x5_1 < (x0_1.length : Int)) = true := decide_eq_true c3
        clear c3
        replace H := Option.bind_eq_some_iff.mp H
        obtain ⟨t303, A40, H⟩ := H
        replace H : (if 0 ≤ x5_1 then (laws_markStringS.l0 k1 (x0_1.set (x5_1 : Int).toNat t303) (wrap64 (x1_1 + 1)) (wrap64 (x5_1 + 1))) else (none)) = some (r1, r2) := H
        have A4 := Aside0.mk A40
        clear A40
        by_cases c5 : 0 ≤ x5_1
        · rw [if_pos c5] at H
          have c5b0 : decide (0 ≤ x5_1) = true := decide_eq_true c5
          clear c5
          obtain ⟨y304, hy304⟩ : ∃ y_ : List ByteArray, y_ = (x0_1.set (x5_1 : Int).toNat t303) := ⟨_, rfl⟩
          replace H : (laws_markStringS.l0 k1 y304 (wrap64 (x1_1 + 1)) (wrap64 (x5_1 + 1))) = some (r1, r2) := by (rw [hy304]; with_reducible exact H)
          have Ny304 := Aside0.mk hy304
          clear hy304
          have H' := Aside0.mk H
          clear H
          obtain ⟨Ao7, co7, eo7⟩ := Kd.R_slice HO_0.out
          subst eo7
          go_wp2_with (first | ((with_reducible refine gate_callee (f := 108) rfl ?_); refine goesL_ (some 15) rfl rfl Try.func108 (by kernel_rfl) rfl #[.int .i64 x1_1] rfl (by (try simp only [List.map_toArray, List.map_cons, List.map_nil]); rfl) ?_; (with_reducible refine (laws_markText.calls k1 x1_1 t303 _ A4.out).mono ?_); rintro e w8 ⟨rfl, hb⟩; refine ⟨_, rfl, ?_⟩; have n0_ := Aside0.mk (Kd.R_below (by (with_reducible repeat (first | apply Kd.R_alloc | apply Kd.R_drewN | apply Kd.R_drew )); exact HO_0.out) hb); have n1_ := Aside0.mk (Kept.below (S := (fun k_ => P0_ k_)) (by repeat ((with_reducible exact HK.out))) hb); have n2_ := Aside0.mk (below_step (by repeat ((with_reducible exact HB.out))) hb); clear HO_0; clear HK; clear HB; have HO_0 := n0_; have HK := n1_; have HB := n2_; clear n0_ n1_ n2_; (try clear hb); (try clear hb2); (try clear hk); (try clear hi); have p6 : 0 ≤ (x5_1 : Int) := of_decide_eq_true (by (with_reducible assumption)); have q6 : (x5_1 : Int) < ((x0_1.length : Int) : Int) := of_decide_eq_true (by (with_reducible assumption)); obtain ⟨go6, co6, eo6, gb6, gl6, cl6, HG6⟩ := Kd.R_form HO_0.out (by omega); (cases eo6); have GB6 := Aside0.mk gb6; have GG6 := Aside0.mk HG6; clear gb6 gl6 HG6; have HMgo6 := Aside0.mk (show (P0_ go6 ∨ w.heap.size ≤ go6) from (HO_0.out.1 _ rfl)); obtain ⟨hx6_0, hf6_0⟩ := Kd.R_celln (⟨#[]⟩ : ByteArray) HO_0.out (x5_1 : Int) p6 q6; replace p6 := eq_true p6; replace q6 := eq_true q6; obtain ⟨hy9_, hz9_⟩ := Kd.R_celln (⟨#[]⟩ : ByteArray) HO_0.out (x5_1 : Int) (of_decide_eq_true (by (with_reducible assumption))) (of_decide_eq_true (by (with_reducible assumption))); have HP9 := Kd.R_putg HO_0.out (x5_1 : Int) t303) | ((with_reducible refine gate_store (t := 9) (p := 16) rfl ?_); refine store_event (t := 9) (p := 16) (v := ?vo_w10) (w1 := (w8.setCell ⟨go6, (x5_1 : Int).toNat, none⟩ (.string t303))) ?hg ?ho ?hn ?hr ?_; (case ho => rfl); (case hg => rfl); (case hn => rfl); (case hr => (go_simp; done)); intro w10 hw; have hg : w8.grownBy w10 (some go6) := (by rw [hw]; exact HP9.2); have hp_ : Kd.R Kd.string 9 w10 w0.heap.size (fun k_ => (P0_ k_ ∨ w.heap.size ≤ k_)) (.slice (some ⟨go6, 0, none⟩) x0_1.length co7) y304 := (by rw [hw, Ny304.out]; exact HP9.1); clear HP9; have n0_ := Aside0.mk (hp_); have n1_ := Aside0.mk ((by rw [hw]; exact below_set (HB.out) GB6.out : Below w0.heap.size w0 w10)); have n2_ := Aside0.mk (Kept.of_grown (S := (fun k_ => P0_ k_)) hg (by repeat ((with_reducible exact HK.out))) (fun k_ e_ => (HO_0.out.1 k_ e_))); clear HO_0; clear HB; clear HK; have HO_0 := n0_; have HB := n1_; have HK := n2_; clear n0_ n1_ n2_; clear hg hw hp_))
          go_roundg k1
          case measure => have := HK1.out; omega
          case rel => exact ⟨(y304), (wrap64 (x1_1 + 1)), (wrap64 (x5_1 + 1)), (by rfl), (by rfl), H', ⟨by have := HK1.out; omega⟩, ⟨by (with_reducible repeat (first | apply Kd.R_alloc | apply Kd.R_drewN | apply Kd.R_drew )); exact HO_0.out⟩, ⟨by repeat ((with_reducible exact HK.out))⟩, ⟨by repeat ((with_reducible exact HB.out))⟩⟩
        · rw [if_neg c5] at H
          exact absurd H (by simp)
      · rw [if_neg c3] at H
        have c3b0 : decide (x5_1 < (x0_1.length : Int)) = false := decide_eq_false c3
        clear c3
        simp only [Option.some.injEq, Prod.mk.injEq] at H
        obtain ⟨rfl, rfl⟩ := H
        obtain ⟨Ao11, co11, eo11⟩ := Kd.R_slice HO_0.out
        subst eo11
        go_wp2
        go_ret
        exact ⟨by rfl, by (with_reducible repeat (first | apply Kd.R_alloc | apply Kd.R_drewN | apply Kd.R_drew )); exact HO_0.out, by repeat ((with_reducible exact HB.out)), by repeat ((with_reducible exact HK.out))⟩

/-! ### laws_heldStringS: function 74 -/
def laws_heldStringS.l0 : Nat → List ByteArray → Int → Int → Option (Int)
  | 0, _, _, _ => none
  | k + 1, x0, x1, x5 => if x5 < (x0.length : Int) then (if 0 ≤ x5 then ((laws_markText.f k x1).bind fun t306 => (if (rdOf ByteArray.empty x0 x5).toList = t306.toList then (laws_heldStringS.l0 k x0 (wrap64 (x1 + 1)) (wrap64 (x5 + 1))) else (some (-1)))) else (none)) else (some x1)
def laws_heldStringS.f (k : Nat) (l0 : List ByteArray) (a1 : Int) : Option (Int) := laws_heldStringS.l0 k l0 a1 0
theorem laws_heldStringS.mono_l : ∀ k, (∀ y0 y1 y2, LeO (laws_heldStringS.l0 k y0 y1 y2) (laws_heldStringS.l0 (k + 1) y0 y1 y2))
  | 0 => fun _ _ _ r h => by simp [laws_heldStringS.l0] at h
  | k + 1 => by
    have ih0 := laws_heldStringS.mono_l k
    · intro y0 y1 y2
      unfold laws_heldStringS.l0
      repeat' first | (with_reducible exact ih0 _ _ _) | (with_reducible exact laws_markText.mono _ _) | (with_reducible exact LeO.refl _) | (with_reducible refine LeO.ite ?_ ?_) | (with_reducible refine LeO.bind ?_ (fun _ => ?_))
theorem laws_heldStringS.mono : ∀ a0 a1 k, LeO (laws_heldStringS.f k a0 a1) (laws_heldStringS.f (k + 1) a0 a1) := by
  intro a0 a1 k
  have ih0 := laws_heldStringS.mono_l k
  unfold laws_heldStringS.f
  repeat' (with_reducible exact ih0 _ _ _)
set_option maxHeartbeats 8000000 in
set_option maxRecDepth 100000 in
theorem laws_heldStringS.calls (k : Nat) (A0 : Option Addr) (c0 : Nat) (l0 : List ByteArray) (a1 : Int) (r : Int) (w : World) (hr0 : Kd.C Kd.string w A0 l0.length l0) (hc0 : l0.length ≤ c0) (h : laws_heldStringS.f k l0 a1 = some r) :
    Calls Try.prog 74 #[.slice A0 l0.length c0, .int .i64 a1] w fun e w' => e = .returned (.int .i64 r) ∧ Below w.heap.size w w' := by
  have HR0 := Aside0.mk hr0
  have HC0 := Aside0.mk hc0
  clear hr0 hc0
  have HB := Aside0.mk (Below.refl w.heap.size w)
  have H : (laws_heldStringS.l0 k l0 a1 0) = some r := h
  clear h
  have H' := Aside0.mk H
  clear H
  go_enter Try.func74, Try.ntmps74
  go_wp2
  go_loopg [1, 5] k (fun kq v1 v5 w' => ∃ (x1_1 : Int) (x5_1 : Int), v1 = .int .i64 x1_1 ∧ v5 = .int .i64 x5_1 ∧ Aside0 (laws_heldStringS.l0 kq l0 x1_1 x5_1 = some r) ∧ Aside0 (kq ≤ k) ∧ Aside0 (Below w.heap.size w w'))
  case atStart => exact ⟨(a1), (0), (by rfl), (by rfl), H', ⟨Nat.le_refl _⟩, ⟨by repeat ((with_reducible exact HB.out))⟩⟩
  case round =>
    clear H'
    obtain ⟨x1_1, x5_1, rfl, rfl, HA, HK1, HB⟩ := hrel
    cases gk with
    | zero => exact absurd HA.out (by simp [laws_heldStringS.l0])
    | succ k1 =>
      have H := HA.out
      clear HA
      simp only [laws_heldStringS.l0] at H
      by_cases c3 : x5_1 < (l0.length : Int)
      · rw [if_pos c3] at H
        have c3b0 : decide (x5_1 < (l0.length : Int)) = true := decide_eq_true c3
        clear c3
        by_cases c4 : 0 ≤ x5_1
        · rw [if_pos c4] at H
          have c4b0 : decide (0 ≤ x5_1) = true := decide_eq_true c4
          clear c4
          replace H := Option.bind_eq_some_iff.mp H
          obtain ⟨t306, A50, H⟩ := H
          replace H : (if (rdOf ByteArray.empty l0 x5_1).toList = t306.toList then (laws_heldStringS.l0 k1 l0 (wrap64 (x1_1 + 1)) (wrap64 (x5_1 + 1))) else (some (-1))) = some r := H
          have A5 := Aside0.mk A50
          clear A50
          have HS6 := Aside0.mk H
          clear H
          go_wp2
          have n0_ := Aside0.mk (below_drew1 HB.out)
          clear HB
          have HB := n0_
          clear n0_
          have p305 : 0 ≤ (x5_1 : Int) := of_decide_eq_true (by (with_reducible assumption))
          have q305 : x5_1 < (l0.length : Int) := of_decide_eq_true (by (with_reducible assumption))
          obtain ⟨ad305, e305, hx305_0⟩ := Kd.at_string HR0.out x5_1 p305 q305
          have hw305_0 := hx305_0
          cases e305
          replace hx305_0 := (HB.out.cell (World.block_lt_of_cell? w _ hx305_0)).trans hx305_0
          replace p305 := eq_true p305
          replace q305 := eq_true q305
          refine start_ (n := 7) (S := fun w' => w'.cell? (ad305.add (x5_1).toNat) = some (.string (rdOf ByteArray.empty l0 x5_1))) (ds := []) #[false, false, false, false, false, false, false] (by kernel_rfl) rfl rfl (((HB.out.cell (World.block_lt_of_cell? w _ hw305_0)).trans hw305_0)) (fun hHeld => ?_)
          generalize wr.drew = w7 at HB hx305_0 hHeld ⊢
          refine pure_ (i := 0) (N := some 12) (v := ?_) (a' := ?_) #[true, false, false, false, false, false, false] rfl rfl (by kernel_rfl) (fun _ _ _ h => h) (Or.inl ⟨by rfl, ?_⟩) ?_ ?_
          rotate_left
          · intro w'
            go_simp
            with_reducible rfl
          rotate_left
          · simp only [Act.put, List.setIfInBounds_toArray, List.set_cons_zero, List.set_cons_succ, i64_w, i32_w]
            rfl
          refine pure_ (i := 1) (N := some 13) (v := ?_) (a' := ?_) #[true, true, false, false, false, false, false] rfl rfl (by kernel_rfl) (fun _ _ _ h => h) (Or.inl ⟨by rfl, ?_⟩) ?_ ?_
          rotate_left
          · intro w'
            go_simp
            with_reducible rfl
          rotate_left
          · simp only [Act.put, List.setIfInBounds_toArray, List.set_cons_zero, List.set_cons_succ, i64_w, i32_w]
            rfl
          refine pure_ (i := 2) (N := some 14) (v := ?_) (a' := ?_) #[true, true, true, false, false, false, false] rfl rfl (by kernel_rfl) (fun _ _ _ h => h) (Or.inl ⟨by rfl, ?_⟩) ?_ ?_
          rotate_left
          · intro w'
            go_simp
            with_reducible rfl
          rotate_left
          · simp only [Act.put, List.setIfInBounds_toArray, List.set_cons_zero, List.set_cons_succ, i64_w, i32_w]
            rfl
          refine pure_ (i := 4) (N := some 16) (v := ?_) (a' := ?_) #[true, true, true, false, true, false, false] rfl rfl (by kernel_rfl) (fun _ _ _ h => h) (Or.inl ⟨by rfl, ?_⟩) ?_ ?_
          rotate_left
          · intro w'
            go_simp
            with_reducible rfl
          rotate_left
          · simp only [Act.put, List.setIfInBounds_toArray, List.set_cons_zero, List.set_cons_succ, i64_w, i32_w]
            rfl
          refine take_ (i := 3) (N := some 15) (v := ?_) (a' := ?_) #[true, true, true, true, true, false, false] rfl rfl (by kernel_rfl) (fun _ _ _ h => h) (Or.inl ⟨by rfl, ?_⟩) hHeld ?_ ?_
          rotate_left
          · intro w' s0
            go_simp
            with_reducible rfl
          rotate_left
          · simp only [Act.put, List.setIfInBounds_toArray, List.set_cons_zero, List.set_cons_succ, i64_w, i32_w]
            rfl
          refine one_ (i := 5) (N := some 17) #[true, true, true, true, true, true, false] rfl rfl (by kernel_rfl) (by decide) (fun K hK => ?_)
          refine goes_ Try.func108 (by kernel_rfl) rfl #[.int .i64 x1_1] (by rfl) rfl rfl (by (try simp only [List.map_toArray, List.map_cons, List.map_nil]); rfl) ?_
          with_reducible refine (laws_markText.calls k1 x1_1 t306 _ A5.out).mono ?_
          rintro e w8 ⟨rfl, hb⟩
          refine ⟨_, rfl, ?_⟩
          have n0_ := Aside0.mk (below_step (by repeat ((with_reducible exact HB.out))) hb)
          clear HB
          have HB := n0_
          clear n0_
          (try clear hb)
          (try clear hb2)
          (try clear hk)
          (try clear hi)
          refine hK.out _ _ (((HB.out.cell (World.block_lt_of_cell? w _ hw305_0)).trans hw305_0)) (fun hHeld => ?_)
          clear hK K
          refine norm_ (a' := ?_) ?_ ?_
          rotate_left
          · show Act.put _ (some 17) _ = _
            simp only [Act.put, List.setIfInBounds_toArray, List.set_cons_zero, List.set_cons_succ, i64_w, i32_w]
            rfl
          refine pure_ (i := 6) (N := some 18) (v := ?_) (a' := ?_) #[true, true, true, true, true, true, true] rfl rfl (by kernel_rfl) (fun _ _ _ h => h) (Or.inl ⟨by rfl, ?_⟩) ?_ ?_
          rotate_left
          · intro w'
            go_simp
            with_reducible rfl
          rotate_left
          · simp only [Act.put, List.setIfInBounds_toArray, List.set_cons_zero, List.set_cons_succ, i64_w, i32_w]
            rfl
          refine done_ (by kernel_rfl) ?_
          go_upto_if 18 with (fail)
          have H := HS6.out
          clear HS6
          by_cases c9 : (rdOf ByteArray.empty l0 x5_1).toList = t306.toList
          · rw [if_pos c9] at H
            have c9b0 : ((rdOf ByteArray.empty l0 x5_1).toList == t306.toList) = true := beq_iff_eq.mpr c9
            have c9b1 : ((rdOf ByteArray.empty l0 x5_1).toList != t306.toList) = false := bne_eq_false_iff_eq.mpr c9
            clear c9
            (rw [c9b0])
            have H' := Aside0.mk H
            clear H
            go_wp2
            go_roundg k1
            case measure => have := HK1.out; omega
            case rel => exact ⟨(wrap64 (x1_1 + 1)), (wrap64 (x5_1 + 1)), (by rfl), (by rfl), H', ⟨by have := HK1.out; omega⟩, ⟨by repeat ((with_reducible exact HB.out))⟩⟩
          · rw [if_neg c9] at H
            have c9b0 : ((rdOf ByteArray.empty l0 x5_1).toList == t306.toList) = false := beq_eq_false_iff_ne.mpr c9
            have c9b1 : ((rdOf ByteArray.empty l0 x5_1).toList != t306.toList) = true := bne_iff_ne.mpr c9
            (rw [c9b0])
            obtain rfl := Option.some.inj H
            go_wp2
            go_ret
            exact ⟨by rfl, by repeat ((with_reducible exact HB.out))⟩
        · rw [if_neg c4] at H
          exact absurd H (by simp)
      · rw [if_neg c3] at H
        have c3b0 : decide (x5_1 < (l0.length : Int)) = false := decide_eq_false c3
        clear c3
        obtain rfl := Option.some.inj H
        go_wp2
        go_ret
        exact ⟨by rfl, by repeat ((with_reducible exact HB.out))⟩

/-! ### laws_heldPolicy: function 36 -/
def laws_heldPolicy.f (k : Nat) (l0_0 : List ByteArray) (l0_1 : List ByteArray) (l0_2 : List (List Int)) (a0_3 : Int) (a1 : Int) : Option (Int) := (laws_heldStringS.f k l0_0 a1).bind fun t308 => (if t308 < 0 then (some (-1)) else ((laws_heldStringS.f k l0_1 t308).bind fun t309 => (if t309 < 0 then (some (-1)) else ((laws_heldSketch.f k l0_2 a0_3 t309).bind fun t310 => (if t310 < 0 then (some (-1)) else (some t310))))))
theorem laws_heldPolicy.mono : ∀ a0 a1 a2 a3 a4 k, LeO (laws_heldPolicy.f k a0 a1 a2 a3 a4) (laws_heldPolicy.f (k + 1) a0 a1 a2 a3 a4) := by
  intro a0 a1 a2 a3 a4 k
  unfold laws_heldPolicy.f
  repeat' first | (with_reducible exact laws_heldSketch.mono _ _ _ _) | (with_reducible exact laws_heldStringS.mono _ _ _) | (with_reducible exact LeO.refl _) | (with_reducible refine LeO.ite ?_ ?_) | (with_reducible refine LeO.bind ?_ (fun _ => ?_))
set_option maxHeartbeats 8000000 in
set_option maxRecDepth 100000 in
theorem laws_heldPolicy.calls (k : Nat) (A0_0 : Option Addr) (c0_0 : Nat) (l0_0 : List ByteArray) (A0_1 : Option Addr) (c0_1 : Nat) (l0_1 : List ByteArray) (A0_2 : Option Addr) (c0_2 : Nat) (l0_2 : List (List Int)) (a0_3 : Int) (a1 : Int) (r : Int) (w : World) (hr0_0 : Kd.C Kd.string w A0_0 l0_0.length l0_0) (hc0_0 : l0_0.length ≤ c0_0) (hr0_1 : Kd.C Kd.string w A0_1 l0_1.length l0_1) (hc0_1 : l0_1.length ≤ c0_1) (hr0_2 : Kd.C (Kd.slice 3 (Kd.int .i64)) w A0_2 l0_2.length l0_2) (hc0_2 : l0_2.length ≤ c0_2) (h : laws_heldPolicy.f k l0_0 l0_1 l0_2 a0_3 a1 = some r) :
    Calls Try.prog 36 #[.agg #[.slice A0_0 l0_0.length c0_0, .slice A0_1 l0_1.length c0_1, .slice A0_2 l0_2.length c0_2, .int .i64 a0_3], .int .i64 a1] w fun e w' => e = .returned (.int .i64 r) ∧ Below w.heap.size w w' := by
  have hu43 := Try.underlying43
  have hu26 := Try.underlying26
  have HR0_0 := Aside0.mk hr0_0
  have HC0_0 := Aside0.mk hc0_0
  clear hr0_0 hc0_0
  have HR0_1 := Aside0.mk hr0_1
  have HC0_1 := Aside0.mk hc0_1
  clear hr0_1 hc0_1
  have HR0_2 := Aside0.mk hr0_2
  have HC0_2 := Aside0.mk hc0_2
  clear hr0_2 hc0_2
  have HB := Aside0.mk (Below.refl w.heap.size w)
  have H : ((laws_heldStringS.f k l0_0 a1).bind fun t308 => (if t308 < 0 then (some (-1)) else ((laws_heldStringS.f k l0_1 t308).bind fun t309 => (if t309 < 0 then (some (-1)) else ((laws_heldSketch.f k l0_2 a0_3 t309).bind fun t310 => (if t310 < 0 then (some (-1)) else (some t310))))))) = some r := h
  clear h
  replace H := Option.bind_eq_some_iff.mp H
  obtain ⟨t308, A30, H⟩ := H
  replace H : (if t308 < 0 then (some (-1)) else ((laws_heldStringS.f k l0_1 t308).bind fun t309 => (if t309 < 0 then (some (-1)) else ((laws_heldSketch.f k l0_2 a0_3 t309).bind fun t310 => (if t310 < 0 then (some (-1)) else (some t310)))))) = some r := H
  have A3 := Aside0.mk A30
  clear A30
  have HS4 := Aside0.mk H
  clear H
  go_enter Try.func36, Try.ntmps36
  go_upto_if 10 with (first | ((with_reducible refine gate_dst (N := 2) rfl ?_); refine box_event ?hg (N := 2) ?hd (cs := #[.slice A0_0 l0_0.length c0_0, .slice A0_1 l0_1.length c0_1, .slice A0_2 l0_2.length c0_2, .int .i64 a0_3]) (t := 43) ?hr ?_; (case hd => rfl); (case hg => rfl); (case hr => (go_simp; done)); intro gb307 hg w5 hbox hb; have n0_ := Aside0.mk (below_step (by repeat ((with_reducible exact HB.out))) hb); have n1_ := Aside0.mk (hbox); have n2_ := Aside0.mk ((by rw [hg]; exact (below_size (by repeat ((with_reducible exact HB.out)))) : w.heap.size ≤ gb307)); have n3_ := Aside0.mk ((by rw [hg]; exact (below_size (by repeat ((with_reducible exact HB.out)))) : w.heap.size ≤ gb307)); clear HB; have HB := n0_; have BK307 := n1_; have GW307 := n2_; have GE307 := n3_; clear n0_ n1_ n2_ n3_; clear hb hbox hg; have hcz6_0 : w5.cell? ⟨gb307, 0, none⟩ = some (.slice A0_0 l0_0.length c0_0) := (blk_cell BK307.out 0).trans rfl; have hcz6_1 : w5.cell? ⟨gb307, 1, none⟩ = some (.slice A0_1 l0_1.length c0_1) := (blk_cell BK307.out 1).trans rfl; have hcz6_2 : w5.cell? ⟨gb307, 2, none⟩ = some (.slice A0_2 l0_2.length c0_2) := (blk_cell BK307.out 2).trans rfl; have hcz6_3 : w5.cell? ⟨gb307, 3, none⟩ = some (.int .i64 a0_3) := (blk_cell BK307.out 3).trans rfl; have hfz6_0 := blk_frozen BK307.out 0; have hfz6_1 := blk_frozen BK307.out 1; have hfz6_2 := blk_frozen BK307.out 2; have hfz6_3 := blk_frozen BK307.out 3) | ((with_reducible refine gate_callee (f := 74) rfl ?_); refine goesL_ (some 8) rfl rfl Try.func74 (by kernel_rfl) rfl #[.slice A0_0 l0_0.length c0_0, .int .i64 a1] rfl (by (try simp only [List.map_toArray, List.map_cons, List.map_nil]); rfl) ?_; (with_reducible refine (laws_heldStringS.calls k _ _ l0_0 a1 t308 _ ?side1 ?side2 A3.out).mono ?_); (case side1 => repeat (exact (Kd.C_below HR0_0.out HB.out))); (case side2 => exact HC0_0.out); rintro e w7 ⟨rfl, hb⟩; refine ⟨_, rfl, ?_⟩; have n0_ := Aside0.mk (blk_below (g := gb307) (o := .cells #[.slice A0_0 l0_0.length c0_0, .slice A0_1 l0_1.length c0_1, .slice A0_2 l0_2.length c0_2, .int .i64 a0_3] 43 (0, 0)) (by (with_reducible repeat (first | refine blk_drewN ?_ _ | refine blk_drew ?_ | refine blk_alloc ?_ _ )); exact BK307.out) hb); have n1_ := Aside0.mk (below_step (by repeat ((with_reducible exact HB.out))) hb); clear BK307; clear HB; have BK307 := n0_; have HB := n1_; clear n0_ n1_; (try clear hb); (try clear hb2); (try clear hk); (try clear hi)))
  (try simp only [Act.put, List.setIfInBounds_toArray, List.set_cons_zero, List.set_cons_succ])
  have H := HS4.out
  clear HS4
  by_cases c8 : t308 < 0
  · rw [if_pos c8] at H
    have c8b0 : decide (t308 < 0) = true := decide_eq_true c8
    clear c8
    (rw [c8b0])
    obtain rfl := Option.some.inj H
    go_wp2
    go_ret
    exact ⟨by rfl, by repeat ((with_reducible exact HB.out))⟩
  · rw [if_neg c8] at H
    have c8b0 : decide (t308 < 0) = false := decide_eq_false c8
    clear c8
    (rw [c8b0])
    replace H := Option.bind_eq_some_iff.mp H
    obtain ⟨t309, A90, H⟩ := H
    replace H : (if t309 < 0 then (some (-1)) else ((laws_heldSketch.f k l0_2 a0_3 t309).bind fun t310 => (if t310 < 0 then (some (-1)) else (some t310)))) = some r := H
    have A9 := Aside0.mk A90
    clear A90
    have HS10 := Aside0.mk H
    clear H
    have hcz11_0 : w7.cell? ⟨gb307, 0, none⟩ = some (.slice A0_0 l0_0.length c0_0) := (blk_cell BK307.out 0).trans rfl
    have hcz11_1 : w7.cell? ⟨gb307, 1, none⟩ = some (.slice A0_1 l0_1.length c0_1) := (blk_cell BK307.out 1).trans rfl
    have hcz11_2 : w7.cell? ⟨gb307, 2, none⟩ = some (.slice A0_2 l0_2.length c0_2) := (blk_cell BK307.out 2).trans rfl
    have hcz11_3 : w7.cell? ⟨gb307, 3, none⟩ = some (.int .i64 a0_3) := (blk_cell BK307.out 3).trans rfl
    have hfz11_0 := blk_frozen BK307.out 0
    have hfz11_1 := blk_frozen BK307.out 1
    have hfz11_2 := blk_frozen BK307.out 2
    have hfz11_3 := blk_frozen BK307.out 3
    go_upto_if 16 with (((with_reducible refine gate_callee (f := 74) rfl ?_); refine goesL_ (some 14) rfl rfl Try.func74 (by kernel_rfl) rfl #[.slice A0_1 l0_1.length c0_1, .int .i64 t308] rfl (by (try simp only [List.map_toArray, List.map_cons, List.map_nil]); rfl) ?_; (with_reducible refine (laws_heldStringS.calls k _ _ l0_1 t308 t309 _ ?side1 ?side2 A9.out).mono ?_); (case side1 => repeat (exact (Kd.C_below HR0_1.out HB.out))); (case side2 => exact HC0_1.out); rintro e w12 ⟨rfl, hb⟩; refine ⟨_, rfl, ?_⟩; have n0_ := Aside0.mk (blk_below (g := gb307) (o := .cells #[.slice A0_0 l0_0.length c0_0, .slice A0_1 l0_1.length c0_1, .slice A0_2 l0_2.length c0_2, .int .i64 a0_3] 43 (0, 0)) (by (with_reducible repeat (first | refine blk_drewN ?_ _ | refine blk_drew ?_ | refine blk_alloc ?_ _ )); exact BK307.out) hb); have n1_ := Aside0.mk (below_step (by repeat ((with_reducible exact HB.out))) hb); clear BK307; clear HB; have BK307 := n0_; have HB := n1_; clear n0_ n1_; (try clear hb); (try clear hb2); (try clear hk); (try clear hi)))
    (try simp only [Act.put, List.setIfInBounds_toArray, List.set_cons_zero, List.set_cons_succ])
    have H := HS10.out
    clear HS10
    by_cases c13 : t309 < 0
    · rw [if_pos c13] at H
      have c13b0 : decide (t309 < 0) = true := decide_eq_true c13
      clear c13
      (rw [c13b0])
      obtain rfl := Option.some.inj H
      go_wp2
      go_ret
      exact ⟨by rfl, by repeat ((with_reducible exact HB.out))⟩
    · rw [if_neg c13] at H
      have c13b0 : decide (t309 < 0) = false := decide_eq_false c13
      clear c13
      (rw [c13b0])
      replace H := Option.bind_eq_some_iff.mp H
      obtain ⟨t310, A140, H⟩ := H
      replace H : (if t310 < 0 then (some (-1)) else (some t310)) = some r := H
      have A14 := Aside0.mk A140
      clear A140
      have HS15 := Aside0.mk H
      clear H
      have hcz16_0 : w12.cell? ⟨gb307, 0, none⟩ = some (.slice A0_0 l0_0.length c0_0) := (blk_cell BK307.out 0).trans rfl
      have hcz16_1 : w12.cell? ⟨gb307, 1, none⟩ = some (.slice A0_1 l0_1.length c0_1) := (blk_cell BK307.out 1).trans rfl
      have hcz16_2 : w12.cell? ⟨gb307, 2, none⟩ = some (.slice A0_2 l0_2.length c0_2) := (blk_cell BK307.out 2).trans rfl
      have hcz16_3 : w12.cell? ⟨gb307, 3, none⟩ = some (.int .i64 a0_3) := (blk_cell BK307.out 3).trans rfl
      have hfz16_0 := blk_frozen BK307.out 0
      have hfz16_1 := blk_frozen BK307.out 1
      have hfz16_2 := blk_frozen BK307.out 2
      have hfz16_3 := blk_frozen BK307.out 3
      go_upto_if 22 with (((with_reducible refine gate_callee (f := 23) rfl ?_); refine goesL_ (some 20) rfl rfl Try.func23 (by kernel_rfl) rfl #[.agg #[.slice A0_2 l0_2.length c0_2, .int .i64 a0_3], .int .i64 t309] rfl (by (try simp only [List.map_toArray, List.map_cons, List.map_nil]); rfl) ?_; (with_reducible refine (laws_heldSketch.calls k _ _ l0_2 a0_3 t309 t310 _ ?side1 ?side2 A14.out).mono ?_); (case side1 => repeat (exact (Kd.C_below HR0_2.out HB.out))); (case side2 => exact HC0_2.out); rintro e w17 ⟨rfl, hb⟩; refine ⟨_, rfl, ?_⟩; have n0_ := Aside0.mk (blk_below (g := gb307) (o := .cells #[.slice A0_0 l0_0.length c0_0, .slice A0_1 l0_1.length c0_1, .slice A0_2 l0_2.length c0_2, .int .i64 a0_3] 43 (0, 0)) (by (with_reducible repeat (first | refine blk_drewN ?_ _ | refine blk_drew ?_ | refine blk_alloc ?_ _ )); exact BK307.out) hb); have n1_ := Aside0.mk (below_step (by repeat ((with_reducible exact HB.out))) hb); clear BK307; clear HB; have BK307 := n0_; have HB := n1_; clear n0_ n1_; (try clear hb); (try clear hb2); (try clear hk); (try clear hi)))
      (try simp only [Act.put, List.setIfInBounds_toArray, List.set_cons_zero, List.set_cons_succ])
      have H := HS15.out
      clear HS15
      by_cases c18 : t310 < 0
      · rw [if_pos c18] at H
        have c18b0 : decide (t310 < 0) = true := decide_eq_true c18
        clear c18
        (rw [c18b0])
        obtain rfl := Option.some.inj H
        go_wp2
        go_ret
        exact ⟨by rfl, by repeat ((with_reducible exact HB.out))⟩
      · rw [if_neg c18] at H
        have c18b0 : decide (t310 < 0) = false := decide_eq_false c18
        clear c18
        (rw [c18b0])
        obtain rfl := Option.some.inj H
        go_wp2
        go_ret
        exact ⟨by rfl, by repeat ((with_reducible exact HB.out))⟩

/-! ### laws_markPolicy: function 35 -/
def laws_markPolicy.f (k : Nat) (lW : List ByteArray) (lM : List ByteArray) (lS : List (List Int)) (ad : Int) (a1 : Int) : Option (Int × List ByteArray × List ByteArray × List (List Int)) := (laws_markStringS.f k lW a1).bind fun t1 => ((laws_markStringS.f k lM t1.1).bind fun t2 => ((laws_markSketch.f k lS ad t2.1).bind fun t3 => (some (t3.1, t1.2, t2.2, t3.2))))
theorem laws_markPolicy.mono : ∀ a0 a1 a2 a3 a4 k, LeO (laws_markPolicy.f k a0 a1 a2 a3 a4) (laws_markPolicy.f (k + 1) a0 a1 a2 a3 a4) := by
  intro a0 a1 a2 a3 a4 k
  unfold laws_markPolicy.f
  repeat' first | (with_reducible exact laws_markStringS.mono _ _ _) | (with_reducible exact laws_markSketch.mono _ _ _ _) | (with_reducible exact LeO.refl _) | (with_reducible refine LeO.bind ?_ (fun _ => ?_))
set_option maxHeartbeats 8000000 in
set_option maxRecDepth 100000 in
theorem laws_markPolicy.callsP (k : Nat) (P0_ okW okM : Nat → Prop) (uW uM uS : Value) (lW lM : List ByteArray) (lS : List (List Int)) (ad : Int) (a1 : Int) (r1 : Int) (rW rM : List ByteArray) (rS : List (List Int)) (w0 w : World) (hB : Below w0.heap.size w0 w) (hW : Kd.R Kd.string 9 w w0.heap.size okW uW lW) (hM : Kd.R Kd.string 9 w w0.heap.size okM uM lM) (hne : ∀ b, uW.ownBlock = some b → uM.ownBlock ≠ some b) (hS : Kd.S (Kd.slice 3 (Kd.int .i64)) 58 w w0.heap.size P0_ uS lS) (h : laws_markPolicy.f k lW lM lS ad a1 = some (r1, rW, rM, rS)) :
    Calls Try.prog 35 #[.agg #[uW, uM, uS, .int .i64 ad], .int .i64 a1] w fun e w' => e = .returned (.int .i64 r1) ∧ Kd.R Kd.string 9 w' w0.heap.size okW uW rW ∧ Kd.R Kd.string 9 w' w0.heap.size okM uM rM ∧ Kd.S (Kd.slice 3 (Kd.int .i64)) 58 w' w0.heap.size P0_ uS rS ∧ Below w0.heap.size w0 w' ∧ Kept w w' (fun k_ => some k_ = uW.ownBlock ∨ some k_ = uM.ownBlock ∨ (P0_ k_ ∧ OwnNums w0.heap.size w k_)) := by
  have hu43 := Try.underlying43
  have hu26 := Try.underlying26
  have HW := Aside0.mk hW
  have HM := Aside0.mk hM
  have HS := Aside0.mk hS
  have HB := Aside0.mk hB
  have HN := Aside0.mk hne
  clear hW hM hS hB hne
  unfold laws_markPolicy.f at h
  obtain ⟨⟨t1, q1⟩, A1_, h⟩ := Option.bind_eq_some_iff.mp h
  obtain ⟨⟨t2, q2⟩, A2_, h⟩ := Option.bind_eq_some_iff.mp h
  obtain ⟨⟨t3, q3⟩, A3_, h⟩ := Option.bind_eq_some_iff.mp h
  dsimp only at A2_ A3_ h
  simp only [Option.some.injEq, Prod.mk.injEq] at h
  obtain ⟨rfl, rfl, rfl, rfl⟩ := h
  have A1 := Aside0.mk A1_
  have A2 := Aside0.mk A2_
  have A3 := Aside0.mk A3_
  clear A1_ A2_ A3_
  obtain ⟨AW, cW, eW⟩ := Kd.R_slice HW.out
  subst eW
  obtain ⟨AM, cM, eM⟩ := Kd.R_slice HM.out
  subst eM
  obtain ⟨AS, cS, eS⟩ := Kd.S_slice HS.out
  subst eS
  go_enter Try.func35, Try.ntmps35
  go_wp2_with (first | ((with_reducible refine gate_dst (N := 2) rfl ?_); refine box_event ?hg (N := 2) ?hd (cs := #[.slice AW lW.length cW, .slice AM lM.length cM, .slice AS lS.length cS, .int .i64 ad]) (t := 43) ?hr ?_; (case hd => rfl); (case hg => rfl); (case hr => (go_simp; done)); intro gb hg w5 hbox hb; have n0_ := Aside0.mk (Kd.R_below HW.out hb); have n1_ := Aside0.mk (Kd.R_below HM.out hb); have n2_ := Aside0.mk (Kd.S_below HS.out hb); have n3_ := Aside0.mk (below_step HB.out hb); have BK := Aside0.mk hbox; have HK := Aside0.mk (Kept.of_below hb (fun k_ => some k_ = (.slice AW lW.length cW : Value).ownBlock ∨ some k_ = (.slice AM lM.length cM : Value).ownBlock ∨ (P0_ k_ ∧ OwnNums w0.heap.size w k_))); clear HW HM HS HB hb hbox hg; have HW := n0_; have HM := n1_; have HS := n2_; have HB := n3_; clear n0_ n1_ n2_ n3_; have hcz1_0 : w5.cell? ⟨gb, 0, none⟩ = some (.slice AW lW.length cW) := (blk_cell BK.out 0).trans rfl; have hcz1_1 : w5.cell? ⟨gb, 1, none⟩ = some (.slice AM lM.length cM) := (blk_cell BK.out 1).trans rfl; have hcz1_2 : w5.cell? ⟨gb, 2, none⟩ = some (.slice AS lS.length cS) := (blk_cell BK.out 2).trans rfl; have hcz1_3 : w5.cell? ⟨gb, 3, none⟩ = some (.int .i64 ad) := (blk_cell BK.out 3).trans rfl) | ((with_reducible refine gate_callee (f := 73) rfl ?_); refine goesL_ (some 8) rfl rfl Try.func73 (by kernel_rfl) rfl #[.slice AW lW.length cW, .int .i64 a1] rfl (by (try simp only [List.map_toArray, List.map_cons, List.map_nil]); rfl) ?_; (with_reducible refine (laws_markStringS.calls k (fun k_ => some k_ = (.slice AW lW.length cW : Value).ownBlock) _ lW a1 t1 q1 w0 _ HB.out (Kd.R_tight rfl HW.out) A1.out).mono ?_); rintro e w6 ⟨rfl, ho, hb, hkp⟩; refine ⟨_, rfl, ?_⟩; have n0_ := Aside0.mk (Kd.R_reok rfl ho (fun k_ e_ => HW.out.1 k_ e_)); have n1_ := Aside0.mk (Kd.R_reok rfl (Kd.R_kept (Kd.R_tight rfl HM.out) hkp (fun k_ h1_ h2_ => HN.out k_ h2_.symm h1_.symm)) (fun k_ e_ => HM.out.1 k_ e_)); have n2_ := Aside0.mk (Kd.S_drop (Kd.S_kept (Kd.S_apart' HS.out (Kd.R_typed HW.out) (by decide)) hkp (fun k_ h1_ h2_ => h1_.2 h2_))); have n3_ := Aside0.mk hb; have n4_ := Aside0.mk (blk_kept (g := gb) (o := .cells #[.slice AW lW.length cW, .slice AM lM.length cM, .slice AS lS.length cS, .int .i64 ad] 43 (0, 0)) BK.out hkp (Kd.R_ne HW.out BK.out (by decide))); have n5_ := Aside0.mk (HK.out.then_ hkp (fun k_ h_ => .inl (.inl h_))); clear HW HM HS HB BK HK ho hb hkp; have HW := n0_; have HM := n1_; have HS := n2_; have HB := n3_; have BK := n4_; have HK := n5_; clear n0_ n1_ n2_ n3_ n4_ n5_; have hcz2_0 : w6.cell? ⟨gb, 0, none⟩ = some (.slice AW lW.length cW) := (blk_cell BK.out 0).trans rfl; have hcz2_1 : w6.cell? ⟨gb, 1, none⟩ = some (.slice AM lM.length cM) := (blk_cell BK.out 1).trans rfl; have hcz2_2 : w6.cell? ⟨gb, 2, none⟩ = some (.slice AS lS.length cS) := (blk_cell BK.out 2).trans rfl; have hcz2_3 : w6.cell? ⟨gb, 3, none⟩ = some (.int .i64 ad) := (blk_cell BK.out 3).trans rfl) | ((with_reducible refine gate_callee (f := 73) rfl ?_); refine goesL_ (some 12) rfl rfl Try.func73 (by kernel_rfl) rfl #[.slice AM lM.length cM, .int .i64 t1] rfl (by (try simp only [List.map_toArray, List.map_cons, List.map_nil]); rfl) ?_; (with_reducible refine (laws_markStringS.calls k (fun k_ => some k_ = (.slice AM lM.length cM : Value).ownBlock) _ lM t1 t2 q2 w0 _ HB.out (Kd.R_tight rfl HM.out) A2.out).mono ?_); rintro e w7 ⟨rfl, ho, hb, hkp⟩; refine ⟨_, rfl, ?_⟩; have n0_ := Aside0.mk (Kd.R_reok rfl ho (fun k_ e_ => HM.out.1 k_ e_)); have n1_ := Aside0.mk (Kd.R_reok rfl (Kd.R_kept (Kd.R_tight rfl HW.out) hkp (fun k_ h1_ h2_ => HN.out k_ h1_.symm h2_.symm)) (fun k_ e_ => HW.out.1 k_ e_)); have n2_ := Aside0.mk (Kd.S_drop (Kd.S_kept (Kd.S_apart' HS.out (Kd.R_typed HM.out) (by decide)) hkp (fun k_ h1_ h2_ => h1_.2 h2_))); have n3_ := Aside0.mk hb; have n4_ := Aside0.mk (blk_kept (g := gb) (o := .cells #[.slice AW lW.length cW, .slice AM lM.length cM, .slice AS lS.length cS, .int .i64 ad] 43 (0, 0)) BK.out hkp (Kd.R_ne HM.out BK.out (by decide))); have n5_ := Aside0.mk (HK.out.then_ hkp (fun k_ h_ => .inl (.inr <| .inl h_))); clear HW HM HS HB BK HK ho hb hkp; have HM := n0_; have HW := n1_; have HS := n2_; have HB := n3_; have BK := n4_; have HK := n5_; clear n0_ n1_ n2_ n3_ n4_ n5_; have hcz3_0 : w7.cell? ⟨gb, 0, none⟩ = some (.slice AW lW.length cW) := (blk_cell BK.out 0).trans rfl; have hcz3_1 : w7.cell? ⟨gb, 1, none⟩ = some (.slice AM lM.length cM) := (blk_cell BK.out 1).trans rfl; have hcz3_2 : w7.cell? ⟨gb, 2, none⟩ = some (.slice AS lS.length cS) := (blk_cell BK.out 2).trans rfl; have hcz3_3 : w7.cell? ⟨gb, 3, none⟩ = some (.int .i64 ad) := (blk_cell BK.out 3).trans rfl) | ((with_reducible refine gate_callee (f := 22) rfl ?_); refine goesL_ (some 16) rfl rfl Try.func22 (by kernel_rfl) rfl #[.agg #[.slice AS lS.length cS, .int .i64 ad], .int .i64 t2] rfl (by (try simp only [List.map_toArray, List.map_cons, List.map_nil]); rfl) ?_; (with_reducible refine (laws_markSketch.callsP k P0_ _ lS ad t2 t3 q3 w0 _ HB.out HS.out A3.out).mono ?_); rintro e w8 ⟨rfl, ho, hb, hkp⟩; refine ⟨_, rfl, ?_⟩; have n0_ := Aside0.mk (Kd.R_reok rfl (Kd.R_kept (Kd.R_tight rfl HW.out) hkp (fun k_ h1_ h2_ => by obtain ⟨_, _, cells_, hc_⟩ := h2_; obtain ⟨d_, hd_⟩ := Kd.R_typed HW.out k_ h1_.symm; exact absurd (hc_.symm.trans hd_) (by simp))) (fun k_ e_ => HW.out.1 k_ e_)); have n1_ := Aside0.mk (Kd.R_reok rfl (Kd.R_kept (Kd.R_tight rfl HM.out) hkp (fun k_ h1_ h2_ => by obtain ⟨_, _, cells_, hc_⟩ := h2_; obtain ⟨d_, hd_⟩ := Kd.R_typed HM.out k_ h1_.symm; exact absurd (hc_.symm.trans hd_) (by simp))) (fun k_ e_ => HM.out.1 k_ e_)); have n2_ := Aside0.mk ho; have n3_ := Aside0.mk hb; have n5_ := Aside0.mk (HK.out.then_ hkp (fun k_ h_ => by obtain ⟨h0_, h1_, cells_, hc_⟩ := h_; exact (Nat.lt_or_ge k_ w.heap.size).elim (fun hlt_ => .inl (Classical.byContradiction fun hn_ => hn_ (.inr (.inr ⟨h0_, h1_, cells_, (HK.out.2 k_ hlt_ hn_).symm.trans hc_⟩)))) .inr)); clear HW HM HS HB HK ho hb hkp; have HW := n0_; have HM := n1_; have HS := n2_; have HB := n3_; have HK := n5_; clear n0_ n1_ n2_ n3_ n5_))
  go_ret
  exact ⟨rfl, HW.out, HM.out, HS.out, HB.out, HK.out⟩
/-- What is held, of rows whose lengths are told by other names. -/
theorem laws_markPolicy.held (k : Nat) (A0 A1 A2 : Option Addr) (c0 c1 c2 n0 n1 n2 : Nat) (l0 l1 : List ByteArray) (l2 : List (List Int)) (a3 : Int) (a1 : Int) (r : Int) (w : World) (e0 : n0 = l0.length) (e1 : n1 = l1.length) (e2 : n2 = l2.length) (hr0 : Kd.C Kd.string w A0 l0.length l0) (hc0 : n0 ≤ c0) (hr1 : Kd.C Kd.string w A1 l1.length l1) (hc1 : n1 ≤ c1) (hr2 : Kd.C (Kd.slice 3 (Kd.int .i64)) w A2 l2.length l2) (hc2 : n2 ≤ c2) (h : laws_heldPolicy.f k l0 l1 l2 a3 a1 = some r) :
    Calls Try.prog 36 #[.agg #[.slice A0 n0 c0, .slice A1 n1 c1, .slice A2 n2 c2, .int .i64 a3], .int .i64 a1] w fun e w' => e = .returned (.int .i64 r) ∧ Below w.heap.size w w' := by
  subst e0; subst e1; subst e2; exact laws_heldPolicy.calls k A0 c0 l0 A1 c1 l1 A2 c2 l2 a3 a1 r w hr0 hc0 hr1 hc1 hr2 hc2 h
theorem laws_markPolicy.up {N : World} {w w1 : World} (_ : Below N.heap.size N w) (h : Below N.heap.size N w1) : Below N.heap.size N w1 := h

/-! ### laws_FnExactPolicyNew: function 7 -/
def laws_FnExactPolicyNew.f (k : Nat)  : Option (Bool) := ((spec_PolicyNew.f k).bind fun bw_0 => ((impl_PolicyNew.f k).bind fun bg_0 => ((laws_eqPolicy.f k bg_0.1 bg_0.2.1 bg_0.2.2.1 bg_0.2.2.2 bw_0.1 bw_0.2.1 bw_0.2.2.1 bw_0.2.2.2).bind fun e1 => (if e1 = true then ((laws_markPolicy.f k bg_0.1 bg_0.2.1 bg_0.2.2.1 bg_0.2.2.2 1).bind fun bm_ => ((laws_heldPolicy.f k bm_.2.1 bm_.2.2.1 bm_.2.2.2 bg_0.2.2.2 1).bind fun q1 => (if q1 < 0 then none else (if q1 = bm_.1 then ((impl_PolicyNew.f k).bind fun bh_0 => ((laws_eqPolicy.f k bh_0.1 bh_0.2.1 bh_0.2.2.1 bh_0.2.2.2 bw_0.1 bw_0.2.1 bw_0.2.2.1 bw_0.2.2.2).bind fun e2 => (if e2 = true then ((laws_heldPolicy.f k bm_.2.1 bm_.2.2.1 bm_.2.2.2 bg_0.2.2.2 1).bind fun q2 => (if q2 < 0 then none else (if q2 = bm_.1 then (some true) else none))) else none))) else none)))) else none))))
theorem laws_FnExactPolicyNew.mono : ∀ k, LeO (laws_FnExactPolicyNew.f k ) (laws_FnExactPolicyNew.f (k + 1) ) := by
  intro  k
  unfold laws_FnExactPolicyNew.f
  repeat' first | (with_reducible exact impl_PolicyNew.mono _) | (with_reducible exact spec_PolicyNew.mono _) | (with_reducible exact laws_eqPolicy.mono _ _ _ _ _ _ _ _ _) | (with_reducible exact laws_heldPolicy.mono _ _ _ _ _ _) | (with_reducible exact laws_markPolicy.mono _ _ _ _ _ _) | (with_reducible exact LeO.refl _) | (with_reducible refine LeO.ite ?_ ?_) | (with_reducible refine LeO.bind ?_ (fun _ => ?_))
set_option maxHeartbeats 8000000 in
set_option maxRecDepth 100000 in
theorem laws_FnExactPolicyNew.calls (k : Nat)  (r : Bool) (w : World) (h : laws_FnExactPolicyNew.f k  = some r) :
    Calls Try.prog 7 #[] w fun e w' => e = .returned (.bool r) ∧ Below w.heap.size w w' := by
  have hu43 := Try.underlying43
  have HB := Aside0.mk (Below.refl w.heap.size w)
  have H := h
  unfold laws_FnExactPolicyNew.f at H
  clear h
  replace H := Option.bind_eq_some_iff.mp H
  obtain ⟨⟨w_0, w_1, w_2, w_3⟩, A10, H⟩ := H
  dsimp only at H
  have A1 := Aside0.mk A10
  clear A10
  replace H := Option.bind_eq_some_iff.mp H
  obtain ⟨⟨g_0, g_1, g_2, g_3⟩, A20, H⟩ := H
  dsimp only at H
  have A2 := Aside0.mk A20
  clear A20
  replace H := Option.bind_eq_some_iff.mp H
  obtain ⟨e1, A30, H⟩ := H
  have A3 := Aside0.mk A30
  clear A30
  by_cases c4 : e1 = true
  case neg => rw [if_neg c4] at H; exact absurd H (by simp)
  rw [if_pos c4] at H
  subst c4
  replace H := Option.bind_eq_some_iff.mp H
  obtain ⟨⟨m_, mW, mM, mS⟩, A50, H⟩ := H
  dsimp only at H
  have A5 := Aside0.mk A50
  clear A50
  replace H := Option.bind_eq_some_iff.mp H
  obtain ⟨q1, A60, H⟩ := H
  have A6 := Aside0.mk A60
  clear A60
  by_cases c7 : q1 < 0
  case pos => rw [if_pos c7] at H; exact absurd H (by simp)
  rw [if_neg c7] at H
  have c7b0 : decide (q1 < 0) = false := decide_eq_false c7
  clear c7
  by_cases c8 : q1 = m_
  case neg => rw [if_neg c8] at H; exact absurd H (by simp)
  rw [if_pos c8] at H
  have c8b0 : (q1 == m_) = true := beq_iff_eq.mpr c8
  have c8b1 : (q1 != m_) = false := bne_eq_false_iff_eq.mpr c8
  clear c8
  replace H := Option.bind_eq_some_iff.mp H
  obtain ⟨⟨h_0, h_1, h_2, h_3⟩, A90, H⟩ := H
  dsimp only at H
  have A9 := Aside0.mk A90
  clear A90
  replace H := Option.bind_eq_some_iff.mp H
  obtain ⟨e2, A100, H⟩ := H
  have A10 := Aside0.mk A100
  clear A100
  by_cases c11 : e2 = true
  case neg => rw [if_neg c11] at H; exact absurd H (by simp)
  rw [if_pos c11] at H
  subst c11
  replace H := Option.bind_eq_some_iff.mp H
  obtain ⟨q2, A120, H⟩ := H
  have A12 := Aside0.mk A120
  clear A120
  by_cases c13 : q2 < 0
  case pos => rw [if_pos c13] at H; exact absurd H (by simp)
  rw [if_neg c13] at H
  have c13b0 : decide (q2 < 0) = false := decide_eq_false c13
  clear c13
  by_cases c14 : q2 = m_
  case neg => rw [if_neg c14] at H; exact absurd H (by simp)
  rw [if_pos c14] at H
  have c14b0 : (q2 == m_) = true := beq_iff_eq.mpr c14
  have c14b1 : (q2 != m_) = false := bne_eq_false_iff_eq.mpr c14
  clear c14
  obtain rfl := Option.some.inj H
  go_enter Try.func7, Try.ntmps7
  go_wp2_with (first | ((with_reducible refine gate_callee (f := 32) rfl ?_); refine goesL_ (some 6) rfl rfl Try.func32 (by kernel_rfl) rfl #[] rfl (by (try simp only [List.map_toArray, List.map_cons, List.map_nil]); done) ?_; (with_reducible refine (spec_PolicyNew.calls k  w_0 w_1 w_2 w_3 _  A1.out).mono ?_); rintro e w51 ⟨v_WW, v_WM, v_WS, rfl, ho_WW, ho_WM, ho_WS, hb⟩; refine ⟨_, rfl, ?_⟩; have n0_ := Aside0.mk (below_step (by repeat ((with_reducible exact HB.out))) hb); have n1_ := Aside0.mk (Kd.R_lower ho_WW (below_size (by repeat ((with_reducible exact HB.out))))); have n2_ := Aside0.mk (Kd.R_lower ho_WM (below_size (by repeat ((with_reducible exact HB.out))))); have n3_ := Aside0.mk (Kd.S_lower ho_WS (below_size (by repeat ((with_reducible exact HB.out))))); (try clear HB); (try clear HO_WW); (try clear HO_WM); (try clear HO_WS); have HB := n0_; have HO_WW := n1_; have HO_WM := n2_; have HO_WS := n3_; clear n0_ n1_ n2_ n3_; (try clear hb ho_WW ho_WM ho_WS); obtain ⟨Ao_WW, co_WW, eo_WW⟩ := Kd.R_slice HO_WW.out; subst eo_WW; obtain ⟨Ao_WM, co_WM, eo_WM⟩ := Kd.R_slice HO_WM.out; subst eo_WM; obtain ⟨Ao_WS, co_WS, eo_WS⟩ := Kd.S_slice HO_WS.out; subst eo_WS) | ((with_reducible refine gate_dst (N := 1) rfl ?_); refine box_event ?hg (N := 1) ?hd (cs := #[.slice none 0 0, .slice none 0 0, .slice none 0 0, .int .i64 0]) (t := 43) ?hr ?_; (case hd => rfl); (case hg => rfl); (case hr => (go_simp; done)); intro gb_W hg w52 hbox hb; have n0_ := Aside0.mk (Kd.R_below (by (with_reducible repeat (first | apply Kd.R_alloc | apply Kd.R_drewN | apply Kd.R_drew )); exact HO_WW.out) hb); have n1_ := Aside0.mk (Kd.R_below (by (with_reducible repeat (first | apply Kd.R_alloc | apply Kd.R_drewN | apply Kd.R_drew )); exact HO_WM.out) hb); have n2_ := Aside0.mk (Kd.S_below (by (with_reducible repeat (first | apply Kd.S_alloc | apply Kd.S_drewN | apply Kd.S_drew )); exact HO_WS.out) hb); have n3_ := Aside0.mk (below_step (by repeat ((with_reducible exact HB.out))) hb); have n4_ := Aside0.mk (hbox); have n5_ := Aside0.mk ((by rw [hg]; exact (below_size (by repeat ((with_reducible exact HB.out)))) : w.heap.size ≤ gb_W)); (try clear HO_WW); (try clear HO_WM); (try clear HO_WS); (try clear HB); (try clear BK_W); (try clear GE_W); have HO_WW := n0_; have HO_WM := n1_; have HO_WS := n2_; have HB := n3_; have BK_W := n4_; have GE_W := n5_; clear n0_ n1_ n2_ n3_ n4_ n5_; clear hb hbox hg; have hcz1_0 : w52.cell? ⟨gb_W, 0, none⟩ = some (.slice none 0 0) := (blk_cell BK_W.out 0).trans rfl; have hfz1_0 := blk_frozen BK_W.out 0; have hcz1_1 : w52.cell? ⟨gb_W, 1, none⟩ = some (.slice none 0 0) := (blk_cell BK_W.out 1).trans rfl; have hfz1_1 := blk_frozen BK_W.out 1; have hcz1_2 : w52.cell? ⟨gb_W, 2, none⟩ = some (.slice none 0 0) := (blk_cell BK_W.out 2).trans rfl; have hfz1_2 := blk_frozen BK_W.out 2; have hcz1_3 : w52.cell? ⟨gb_W, 3, none⟩ = some (.int .i64 0) := (blk_cell BK_W.out 3).trans rfl; have hfz1_3 := blk_frozen BK_W.out 3) | ((with_reducible refine gate_callee (f := 33) rfl ?_); refine goesL_ (some 7) rfl rfl Try.func33 (by kernel_rfl) rfl #[] rfl (by (try simp only [List.map_toArray, List.map_cons, List.map_nil]); done) ?_; (with_reducible refine (impl_PolicyNew.calls k  g_0 g_1 g_2 g_3 _  A2.out).mono ?_); rintro e w53 ⟨v_GW, v_GM, v_GS, rfl, ho_GW, ho_GM, ho_GS, hb⟩; refine ⟨_, rfl, ?_⟩; have hz_ : ∃ N0 : World, Kd.R Kd.string 9 w53 N0.heap.size (fun k_ => some k_ ≠ (v_GM : Value).ownBlock) v_GW g_0 ∧ Kd.R Kd.string 9 w53 N0.heap.size (fun k_ => some k_ ≠ (v_GW : Value).ownBlock) v_GM g_1 ∧ Kd.S (Kd.slice 3 (Kd.int .i64)) 58 w53 N0.heap.size (fun _ => True) v_GS g_2 ∧ Below N0.heap.size N0 w53 ∧ Below w.heap.size w N0 ∧ Kd.R Kd.string 9 w53 w.heap.size (fun k_ => True ∧ k_ < N0.heap.size) (.slice Ao_WW w_0.length co_WW) w_0 ∧ Kd.R Kd.string 9 w53 w.heap.size (fun k_ => True ∧ k_ < N0.heap.size) (.slice Ao_WM w_1.length co_WM) w_1 ∧ Kd.S (Kd.slice 3 (Kd.int .i64)) 58 w53 w.heap.size (fun k_ => True ∧ k_ < N0.heap.size) (.slice Ao_WS w_2.length co_WS) w_2 := ⟨_, ho_GW, ho_GM, ho_GS, hb, (by repeat ((with_reducible first | exact HB.out | refine below_set ?_ GE_W.out))), Kd.R_mono (Kd.R_old (by (with_reducible repeat (first | apply Kd.R_alloc | apply Kd.R_drewN | apply Kd.R_drew )); exact Kd.R_drop (Kd.R_far (p := ⟨gb_W, 3, none⟩) (Kd.R_far (p := ⟨gb_W, 2, none⟩) (Kd.R_far (p := ⟨gb_W, 1, none⟩) (Kd.R_far (p := ⟨gb_W, 0, none⟩) (Kd.R_types HO_WW.out BK_W.out (by decide)) (fun _ hk => hk.2) (.slice Ao_WW w_0.length co_WW)) (fun _ hk => hk.2) (.slice Ao_WM w_1.length co_WM)) (fun _ hk => hk.2) (.slice Ao_WS w_2.length co_WS)) (fun _ hk => hk.2) (.int .i64 w_3))) hb) (fun _ h_ => ⟨trivial, h_.2⟩), Kd.R_mono (Kd.R_old (by (with_reducible repeat (first | apply Kd.R_alloc | apply Kd.R_drewN | apply Kd.R_drew )); exact Kd.R_drop (Kd.R_far (p := ⟨gb_W, 3, none⟩) (Kd.R_far (p := ⟨gb_W, 2, none⟩) (Kd.R_far (p := ⟨gb_W, 1, none⟩) (Kd.R_far (p := ⟨gb_W, 0, none⟩) (Kd.R_types HO_WM.out BK_W.out (by decide)) (fun _ hk => hk.2) (.slice Ao_WW w_0.length co_WW)) (fun _ hk => hk.2) (.slice Ao_WM w_1.length co_WM)) (fun _ hk => hk.2) (.slice Ao_WS w_2.length co_WS)) (fun _ hk => hk.2) (.int .i64 w_3))) hb) (fun _ h_ => ⟨trivial, h_.2⟩), Kd.S_mono (Kd.S_old (by (with_reducible repeat (first | apply Kd.S_alloc | apply Kd.S_drewN | apply Kd.S_drew )); exact Kd.S_drop (Kd.S_far (p := ⟨gb_W, 3, none⟩) (Kd.S_far (p := ⟨gb_W, 2, none⟩) (Kd.S_far (p := ⟨gb_W, 1, none⟩) (Kd.S_far (p := ⟨gb_W, 0, none⟩) (Kd.S_types HO_WS.out BK_W.out (by decide)) (fun _ hk => hk.2) (.slice Ao_WW w_0.length co_WW)) (fun _ hk => hk.2) (.slice Ao_WM w_1.length co_WM)) (fun _ hk => hk.2) (.slice Ao_WS w_2.length co_WS)) (fun _ hk => hk.2) (.int .i64 w_3))) hb) (fun _ h_ => ⟨trivial, h_.2⟩)⟩; obtain ⟨WG, hx_GW, hx_GM, hx_GS, hG0, hGW, hy_WW, hy_WM, hy_WS⟩ := hz_; have n0_ := Aside0.mk (hy_WW); have n1_ := Aside0.mk (hy_WM); have n2_ := Aside0.mk (hy_WS); have n3_ := Aside0.mk (hx_GW); have n4_ := Aside0.mk (hx_GM); have n5_ := Aside0.mk (hx_GS); have n6_ := Aside0.mk (blk_below (g := gb_W) (o := .cells #[.slice Ao_WW w_0.length co_WW, .slice Ao_WM w_1.length co_WM, .slice Ao_WS w_2.length co_WS, .int .i64 w_3] 43 (0, 0)) (by (with_reducible repeat (first | refine blk_drewN ?_ _ | refine blk_drew ?_ | refine blk_alloc ?_ _ )); refine blk_put (cs := #[.slice Ao_WW w_0.length co_WW, .slice Ao_WM w_1.length co_WM, .slice Ao_WS w_2.length co_WS, .int .i64 0]) ?_ 3 _ rfl; (with_reducible repeat (first | refine blk_drewN ?_ _ | refine blk_drew ?_ | refine blk_alloc ?_ _ )); refine blk_put (cs := #[.slice Ao_WW w_0.length co_WW, .slice Ao_WM w_1.length co_WM, .slice none 0 0, .int .i64 0]) ?_ 2 _ rfl; (with_reducible repeat (first | refine blk_drewN ?_ _ | refine blk_drew ?_ | refine blk_alloc ?_ _ )); refine blk_put (cs := #[.slice Ao_WW w_0.length co_WW, .slice none 0 0, .slice none 0 0, .int .i64 0]) ?_ 1 _ rfl; (with_reducible repeat (first | refine blk_drewN ?_ _ | refine blk_drew ?_ | refine blk_alloc ?_ _ )); refine blk_put (cs := #[.slice none 0 0, .slice none 0 0, .slice none 0 0, .int .i64 0]) ?_ 0 _ rfl; (with_reducible repeat (first | refine blk_drewN ?_ _ | refine blk_drew ?_ | refine blk_alloc ?_ _ )); exact BK_W.out) hb); have n7_ := Aside0.mk (below_step (by repeat ((with_reducible first | exact HB.out | refine below_set ?_ GE_W.out))) hb); have n8_ := Aside0.mk (hG0); have n9_ := Aside0.mk (hGW); (try clear HO_WW); (try clear HO_WM); (try clear HO_WS); (try clear HO_GW); (try clear HO_GM); (try clear HO_GS); (try clear BK_W); (try clear HB); (try clear HG); (try clear HGW); have HO_WW := n0_; have HO_WM := n1_; have HO_WS := n2_; have HO_GW := n3_; have HO_GM := n4_; have HO_GS := n5_; have BK_W := n6_; have HB := n7_; have HG := n8_; have HGW := n9_; clear n0_ n1_ n2_ n3_ n4_ n5_ n6_ n7_ n8_ n9_; (try clear hb ho_GW ho_GM ho_GS hx_GW hx_GM hx_GS hG0 hGW hy_WW hy_WM hy_WS); obtain ⟨Ao_GW, co_GW, eo_GW⟩ := Kd.R_slice HO_GW.out; subst eo_GW; obtain ⟨Ao_GM, co_GM, eo_GM⟩ := Kd.R_slice HO_GM.out; subst eo_GM; obtain ⟨Ao_GS, co_GS, eo_GS⟩ := Kd.S_slice HO_GS.out; subst eo_GS) | ((with_reducible refine gate_dst (N := 2) rfl ?_); refine box_event ?hg (N := 2) ?hd (cs := #[.slice none 0 0, .slice none 0 0, .slice none 0 0, .int .i64 0]) (t := 43) ?hr ?_; (case hd => rfl); (case hg => rfl); (case hr => (go_simp; done)); intro gb_G hg w54 hbox hb; have n0_ := Aside0.mk (Kd.R_below (by (with_reducible repeat (first | apply Kd.R_alloc | apply Kd.R_drewN | apply Kd.R_drew )); exact HO_WW.out) hb); have n1_ := Aside0.mk (Kd.R_below (by (with_reducible repeat (first | apply Kd.R_alloc | apply Kd.R_drewN | apply Kd.R_drew )); exact HO_WM.out) hb); have n2_ := Aside0.mk (Kd.S_below (by (with_reducible repeat (first | apply Kd.S_alloc | apply Kd.S_drewN | apply Kd.S_drew )); exact HO_WS.out) hb); have n3_ := Aside0.mk (Kd.R_below (by (with_reducible repeat (first | apply Kd.R_alloc | apply Kd.R_drewN | apply Kd.R_drew )); exact HO_GW.out) hb); have n4_ := Aside0.mk (Kd.R_below (by (with_reducible repeat (first | apply Kd.R_alloc | apply Kd.R_drewN | apply Kd.R_drew )); exact HO_GM.out) hb); have n5_ := Aside0.mk (Kd.S_below (by (with_reducible repeat (first | apply Kd.S_alloc | apply Kd.S_drewN | apply Kd.S_drew )); exact HO_GS.out) hb); have n6_ := Aside0.mk (blk_below (g := gb_W) (o := .cells #[.slice Ao_WW w_0.length co_WW, .slice Ao_WM w_1.length co_WM, .slice Ao_WS w_2.length co_WS, .int .i64 w_3] 43 (0, 0)) (by (with_reducible repeat (first | refine blk_drewN ?_ _ | refine blk_drew ?_ | refine blk_alloc ?_ _ )); exact BK_W.out) hb); have n7_ := Aside0.mk (below_step (by repeat ((with_reducible exact HB.out))) hb); have n8_ := Aside0.mk (below_step (by repeat ((with_reducible exact HG.out))) hb); have n9_ := Aside0.mk (hbox); have n10_ := Aside0.mk ((by rw [hg]; exact (below_size (by repeat ((with_reducible exact HB.out)))) : w.heap.size ≤ gb_G)); have n11_ := Aside0.mk ((by rw [hg]; exact (below_size (by repeat ((with_reducible exact HG.out)))) : WG.heap.size ≤ gb_G)); have n12_ := Aside0.mk ((by rw [hg]; exact Nat.ne_of_lt (blk_lt (g := gb_W) (o := .cells #[.slice Ao_WW w_0.length co_WW, .slice Ao_WM w_1.length co_WM, .slice Ao_WS w_2.length co_WS, .int .i64 w_3] 43 (0, 0)) (by (with_reducible repeat (first | refine blk_drewN ?_ _ | refine blk_drew ?_ | refine blk_alloc ?_ _ )); exact BK_W.out)) : gb_W ≠ gb_G)); have n13_ := Aside0.mk ((by rw [hg]; exact Nat.ne_of_gt (blk_lt (g := gb_W) (o := .cells #[.slice Ao_WW w_0.length co_WW, .slice Ao_WM w_1.length co_WM, .slice Ao_WS w_2.length co_WS, .int .i64 w_3] 43 (0, 0)) (by (with_reducible repeat (first | refine blk_drewN ?_ _ | refine blk_drew ?_ | refine blk_alloc ?_ _ )); exact BK_W.out)) : gb_G ≠ gb_W)); (try clear HO_WW); (try clear HO_WM); (try clear HO_WS); (try clear HO_GW); (try clear HO_GM); (try clear HO_GS); (try clear BK_W); (try clear HB); (try clear HG); (try clear BK_G); (try clear GE_G); (try clear GG_G); (try clear NB_W_G); (try clear NB_G_W); have HO_WW := n0_; have HO_WM := n1_; have HO_WS := n2_; have HO_GW := n3_; have HO_GM := n4_; have HO_GS := n5_; have BK_W := n6_; have HB := n7_; have HG := n8_; have BK_G := n9_; have GE_G := n10_; have GG_G := n11_; have NB_W_G := n12_; have NB_G_W := n13_; clear n0_ n1_ n2_ n3_ n4_ n5_ n6_ n7_ n8_ n9_ n10_ n11_ n12_ n13_; clear hb hbox hg; have hnb_W_G := NB_W_G.out; have hnb_G_W := NB_G_W.out; have hcz2_0 : w54.cell? ⟨gb_G, 0, none⟩ = some (.slice none 0 0) := (blk_cell BK_G.out 0).trans rfl; have hfz2_0 := blk_frozen BK_G.out 0; have hcz2_1 : w54.cell? ⟨gb_G, 1, none⟩ = some (.slice none 0 0) := (blk_cell BK_G.out 1).trans rfl; have hfz2_1 := blk_frozen BK_G.out 1; have hcz2_2 : w54.cell? ⟨gb_G, 2, none⟩ = some (.slice none 0 0) := (blk_cell BK_G.out 2).trans rfl; have hfz2_2 := blk_frozen BK_G.out 2; have hcz2_3 : w54.cell? ⟨gb_G, 3, none⟩ = some (.int .i64 0) := (blk_cell BK_G.out 3).trans rfl; have hfz2_3 := blk_frozen BK_G.out 3; have hcz3_0 : w54.cell? ⟨gb_W, 0, none⟩ = some (.slice Ao_WW w_0.length co_WW) := (blk_cell BK_W.out 0).trans rfl; have hfz3_0 := blk_frozen BK_W.out 0; have hcz3_1 : w54.cell? ⟨gb_W, 1, none⟩ = some (.slice Ao_WM w_1.length co_WM) := (blk_cell BK_W.out 1).trans rfl; have hfz3_1 := blk_frozen BK_W.out 1; have hcz3_2 : w54.cell? ⟨gb_W, 2, none⟩ = some (.slice Ao_WS w_2.length co_WS) := (blk_cell BK_W.out 2).trans rfl; have hfz3_2 := blk_frozen BK_W.out 2; have hcz3_3 : w54.cell? ⟨gb_W, 3, none⟩ = some (.int .i64 w_3) := (blk_cell BK_W.out 3).trans rfl; have hfz3_3 := blk_frozen BK_W.out 3) | ((with_reducible refine gate_callee (f := 34) rfl ?_); refine goesL_ (some 10) rfl rfl Try.func34 (by kernel_rfl) rfl #[.agg #[.slice Ao_GW g_0.length co_GW, .slice Ao_GM g_1.length co_GM, .slice Ao_GS g_2.length co_GS, .int .i64 g_3], .agg #[.slice Ao_WW w_0.length co_WW, .slice Ao_WM w_1.length co_WM, .slice Ao_WS w_2.length co_WS, .int .i64 w_3]] rfl (by (try simp only [List.map_toArray, List.map_cons, List.map_nil]); rfl) ?_; (with_reducible refine (laws_eqPolicy.calls k _ _ g_0 _ _ g_1 _ _ g_2 g_3 _ _ w_0 _ _ w_1 _ _ w_2 w_3 true _ ?side1 ?side2 ?side3 ?side4 ?side5 ?side6 ?side7 ?side8 ?side9 ?side10 ?side11 ?side12 A3.out).mono ?_); (case side1 => refine (Kd.R_reads' (e := 9) (base := WG.heap.size) (ok := (fun k_ => some k_ ≠ (.slice Ao_GM g_1.length co_GM : Value).ownBlock)) (n := g_0.length) (c := co_GW) ?_).2.2; exact (by (with_reducible repeat (first | apply Kd.R_alloc | apply Kd.R_drewN | apply Kd.R_drew )); exact Kd.R_drop (Kd.R_far (p := ⟨gb_G, 3, none⟩) (Kd.R_far (p := ⟨gb_G, 2, none⟩) (Kd.R_far (p := ⟨gb_G, 1, none⟩) (Kd.R_far (p := ⟨gb_G, 0, none⟩) (Kd.R_types HO_GW.out BK_G.out (by decide)) (fun _ hk => hk.2) (.slice Ao_GW g_0.length co_GW)) (fun _ hk => hk.2) (.slice Ao_GM g_1.length co_GM)) (fun _ hk => hk.2) (.slice Ao_GS g_2.length co_GS)) (fun _ hk => hk.2) (.int .i64 g_3)))); (case side2 => exact (Kd.R_reads' HO_GW.out).2.1); (case side3 => refine (Kd.R_reads' (e := 9) (base := WG.heap.size) (ok := (fun k_ => some k_ ≠ (.slice Ao_GW g_0.length co_GW : Value).ownBlock)) (n := g_1.length) (c := co_GM) ?_).2.2; exact (by (with_reducible repeat (first | apply Kd.R_alloc | apply Kd.R_drewN | apply Kd.R_drew )); exact Kd.R_drop (Kd.R_far (p := ⟨gb_G, 3, none⟩) (Kd.R_far (p := ⟨gb_G, 2, none⟩) (Kd.R_far (p := ⟨gb_G, 1, none⟩) (Kd.R_far (p := ⟨gb_G, 0, none⟩) (Kd.R_types HO_GM.out BK_G.out (by decide)) (fun _ hk => hk.2) (.slice Ao_GW g_0.length co_GW)) (fun _ hk => hk.2) (.slice Ao_GM g_1.length co_GM)) (fun _ hk => hk.2) (.slice Ao_GS g_2.length co_GS)) (fun _ hk => hk.2) (.int .i64 g_3)))); (case side4 => exact (Kd.R_reads' HO_GM.out).2.1); (case side5 => refine (Kd.S_reads' (e := 58) (base := WG.heap.size) (ok := (fun _ => True)) (n := g_2.length) (c := co_GS) ?_).2.2; exact (by (with_reducible repeat (first | apply Kd.S_alloc | apply Kd.S_drewN | apply Kd.S_drew )); exact Kd.S_drop (Kd.S_far (p := ⟨gb_G, 3, none⟩) (Kd.S_far (p := ⟨gb_G, 2, none⟩) (Kd.S_far (p := ⟨gb_G, 1, none⟩) (Kd.S_far (p := ⟨gb_G, 0, none⟩) (Kd.S_types HO_GS.out BK_G.out (by decide)) (fun _ hk => hk.2) (.slice Ao_GW g_0.length co_GW)) (fun _ hk => hk.2) (.slice Ao_GM g_1.length co_GM)) (fun _ hk => hk.2) (.slice Ao_GS g_2.length co_GS)) (fun _ hk => hk.2) (.int .i64 g_3)))); (case side6 => exact (Kd.S_reads' HO_GS.out).2.1); (case side7 => refine (Kd.R_reads' (e := 9) (base := w.heap.size) (ok := (fun k_ => True ∧ k_ < WG.heap.size)) (n := w_0.length) (c := co_WW) ?_).2.2; exact (by (with_reducible repeat (first | apply Kd.R_alloc | apply Kd.R_drewN | apply Kd.R_drew )); exact Kd.R_drop (Kd.R_far (p := ⟨gb_G, 3, none⟩) (Kd.R_far (p := ⟨gb_G, 2, none⟩) (Kd.R_far (p := ⟨gb_G, 1, none⟩) (Kd.R_far (p := ⟨gb_G, 0, none⟩) (Kd.R_types HO_WW.out BK_G.out (by decide)) (fun _ hk => hk.2) (.slice Ao_GW g_0.length co_GW)) (fun _ hk => hk.2) (.slice Ao_GM g_1.length co_GM)) (fun _ hk => hk.2) (.slice Ao_GS g_2.length co_GS)) (fun _ hk => hk.2) (.int .i64 g_3)))); (case side8 => exact (Kd.R_reads' HO_WW.out).2.1); (case side9 => refine (Kd.R_reads' (e := 9) (base := w.heap.size) (ok := (fun k_ => True ∧ k_ < WG.heap.size)) (n := w_1.length) (c := co_WM) ?_).2.2; exact (by (with_reducible repeat (first | apply Kd.R_alloc | apply Kd.R_drewN | apply Kd.R_drew )); exact Kd.R_drop (Kd.R_far (p := ⟨gb_G, 3, none⟩) (Kd.R_far (p := ⟨gb_G, 2, none⟩) (Kd.R_far (p := ⟨gb_G, 1, none⟩) (Kd.R_far (p := ⟨gb_G, 0, none⟩) (Kd.R_types HO_WM.out BK_G.out (by decide)) (fun _ hk => hk.2) (.slice Ao_GW g_0.length co_GW)) (fun _ hk => hk.2) (.slice Ao_GM g_1.length co_GM)) (fun _ hk => hk.2) (.slice Ao_GS g_2.length co_GS)) (fun _ hk => hk.2) (.int .i64 g_3)))); (case side10 => exact (Kd.R_reads' HO_WM.out).2.1); (case side11 => refine (Kd.S_reads' (e := 58) (base := w.heap.size) (ok := (fun k_ => True ∧ k_ < WG.heap.size)) (n := w_2.length) (c := co_WS) ?_).2.2; exact (by (with_reducible repeat (first | apply Kd.S_alloc | apply Kd.S_drewN | apply Kd.S_drew )); exact Kd.S_drop (Kd.S_far (p := ⟨gb_G, 3, none⟩) (Kd.S_far (p := ⟨gb_G, 2, none⟩) (Kd.S_far (p := ⟨gb_G, 1, none⟩) (Kd.S_far (p := ⟨gb_G, 0, none⟩) (Kd.S_types HO_WS.out BK_G.out (by decide)) (fun _ hk => hk.2) (.slice Ao_GW g_0.length co_GW)) (fun _ hk => hk.2) (.slice Ao_GM g_1.length co_GM)) (fun _ hk => hk.2) (.slice Ao_GS g_2.length co_GS)) (fun _ hk => hk.2) (.int .i64 g_3)))); (case side12 => exact (Kd.S_reads' HO_WS.out).2.1); rintro e w55 ⟨rfl, hb⟩; refine ⟨_, rfl, ?_⟩; have n0_ := Aside0.mk (Kd.R_below (by (with_reducible repeat (first | apply Kd.R_alloc | apply Kd.R_drewN | apply Kd.R_drew )); exact Kd.R_drop (Kd.R_far (p := ⟨gb_G, 3, none⟩) (Kd.R_far (p := ⟨gb_G, 2, none⟩) (Kd.R_far (p := ⟨gb_G, 1, none⟩) (Kd.R_far (p := ⟨gb_G, 0, none⟩) (Kd.R_types HO_WW.out BK_G.out (by decide)) (fun _ hk => hk.2) (.slice Ao_GW g_0.length co_GW)) (fun _ hk => hk.2) (.slice Ao_GM g_1.length co_GM)) (fun _ hk => hk.2) (.slice Ao_GS g_2.length co_GS)) (fun _ hk => hk.2) (.int .i64 g_3))) hb); have n1_ := Aside0.mk (Kd.R_below (by (with_reducible repeat (first | apply Kd.R_alloc | apply Kd.R_drewN | apply Kd.R_drew )); exact Kd.R_drop (Kd.R_far (p := ⟨gb_G, 3, none⟩) (Kd.R_far (p := ⟨gb_G, 2, none⟩) (Kd.R_far (p := ⟨gb_G, 1, none⟩) (Kd.R_far (p := ⟨gb_G, 0, none⟩) (Kd.R_types HO_WM.out BK_G.out (by decide)) (fun _ hk => hk.2) (.slice Ao_GW g_0.length co_GW)) (fun _ hk => hk.2) (.slice Ao_GM g_1.length co_GM)) (fun _ hk => hk.2) (.slice Ao_GS g_2.length co_GS)) (fun _ hk => hk.2) (.int .i64 g_3))) hb); have n2_ := Aside0.mk (Kd.S_below (by (with_reducible repeat (first | apply Kd.S_alloc | apply Kd.S_drewN | apply Kd.S_drew )); exact Kd.S_drop (Kd.S_far (p := ⟨gb_G, 3, none⟩) (Kd.S_far (p := ⟨gb_G, 2, none⟩) (Kd.S_far (p := ⟨gb_G, 1, none⟩) (Kd.S_far (p := ⟨gb_G, 0, none⟩) (Kd.S_types HO_WS.out BK_G.out (by decide)) (fun _ hk => hk.2) (.slice Ao_GW g_0.length co_GW)) (fun _ hk => hk.2) (.slice Ao_GM g_1.length co_GM)) (fun _ hk => hk.2) (.slice Ao_GS g_2.length co_GS)) (fun _ hk => hk.2) (.int .i64 g_3))) hb); have n3_ := Aside0.mk (Kd.R_below (by (with_reducible repeat (first | apply Kd.R_alloc | apply Kd.R_drewN | apply Kd.R_drew )); exact Kd.R_drop (Kd.R_far (p := ⟨gb_G, 3, none⟩) (Kd.R_far (p := ⟨gb_G, 2, none⟩) (Kd.R_far (p := ⟨gb_G, 1, none⟩) (Kd.R_far (p := ⟨gb_G, 0, none⟩) (Kd.R_types HO_GW.out BK_G.out (by decide)) (fun _ hk => hk.2) (.slice Ao_GW g_0.length co_GW)) (fun _ hk => hk.2) (.slice Ao_GM g_1.length co_GM)) (fun _ hk => hk.2) (.slice Ao_GS g_2.length co_GS)) (fun _ hk => hk.2) (.int .i64 g_3))) hb); have n4_ := Aside0.mk (Kd.R_below (by (with_reducible repeat (first | apply Kd.R_alloc | apply Kd.R_drewN | apply Kd.R_drew )); exact Kd.R_drop (Kd.R_far (p := ⟨gb_G, 3, none⟩) (Kd.R_far (p := ⟨gb_G, 2, none⟩) (Kd.R_far (p := ⟨gb_G, 1, none⟩) (Kd.R_far (p := ⟨gb_G, 0, none⟩) (Kd.R_types HO_GM.out BK_G.out (by decide)) (fun _ hk => hk.2) (.slice Ao_GW g_0.length co_GW)) (fun _ hk => hk.2) (.slice Ao_GM g_1.length co_GM)) (fun _ hk => hk.2) (.slice Ao_GS g_2.length co_GS)) (fun _ hk => hk.2) (.int .i64 g_3))) hb); have n5_ := Aside0.mk (Kd.S_below (by (with_reducible repeat (first | apply Kd.S_alloc | apply Kd.S_drewN | apply Kd.S_drew )); exact Kd.S_drop (Kd.S_far (p := ⟨gb_G, 3, none⟩) (Kd.S_far (p := ⟨gb_G, 2, none⟩) (Kd.S_far (p := ⟨gb_G, 1, none⟩) (Kd.S_far (p := ⟨gb_G, 0, none⟩) (Kd.S_types HO_GS.out BK_G.out (by decide)) (fun _ hk => hk.2) (.slice Ao_GW g_0.length co_GW)) (fun _ hk => hk.2) (.slice Ao_GM g_1.length co_GM)) (fun _ hk => hk.2) (.slice Ao_GS g_2.length co_GS)) (fun _ hk => hk.2) (.int .i64 g_3))) hb); have n6_ := Aside0.mk (blk_below (g := gb_W) (o := .cells #[.slice Ao_WW w_0.length co_WW, .slice Ao_WM w_1.length co_WM, .slice Ao_WS w_2.length co_WS, .int .i64 w_3] 43 (0, 0)) (by (with_reducible repeat (first | refine blk_drewN ?_ _ | refine blk_drew ?_ | refine blk_alloc ?_ _ )); refine blk_far ?_ NB_W_G.out _; (with_reducible repeat (first | refine blk_drewN ?_ _ | refine blk_drew ?_ | refine blk_alloc ?_ _ )); refine blk_far ?_ NB_W_G.out _; (with_reducible repeat (first | refine blk_drewN ?_ _ | refine blk_drew ?_ | refine blk_alloc ?_ _ )); refine blk_far ?_ NB_W_G.out _; (with_reducible repeat (first | refine blk_drewN ?_ _ | refine blk_drew ?_ | refine blk_alloc ?_ _ )); refine blk_far ?_ NB_W_G.out _; (with_reducible repeat (first | refine blk_drewN ?_ _ | refine blk_drew ?_ | refine blk_alloc ?_ _ )); exact BK_W.out) hb); have n7_ := Aside0.mk (blk_below (g := gb_G) (o := .cells #[.slice Ao_GW g_0.length co_GW, .slice Ao_GM g_1.length co_GM, .slice Ao_GS g_2.length co_GS, .int .i64 g_3] 43 (0, 0)) (by (with_reducible repeat (first | refine blk_drewN ?_ _ | refine blk_drew ?_ | refine blk_alloc ?_ _ )); refine blk_put (cs := #[.slice Ao_GW g_0.length co_GW, .slice Ao_GM g_1.length co_GM, .slice Ao_GS g_2.length co_GS, .int .i64 0]) ?_ 3 _ rfl; (with_reducible repeat (first | refine blk_drewN ?_ _ | refine blk_drew ?_ | refine blk_alloc ?_ _ )); refine blk_put (cs := #[.slice Ao_GW g_0.length co_GW, .slice Ao_GM g_1.length co_GM, .slice none 0 0, .int .i64 0]) ?_ 2 _ rfl; (with_reducible repeat (first | refine blk_drewN ?_ _ | refine blk_drew ?_ | refine blk_alloc ?_ _ )); refine blk_put (cs := #[.slice Ao_GW g_0.length co_GW, .slice none 0 0, .slice none 0 0, .int .i64 0]) ?_ 1 _ rfl; (with_reducible repeat (first | refine blk_drewN ?_ _ | refine blk_drew ?_ | refine blk_alloc ?_ _ )); refine blk_put (cs := #[.slice none 0 0, .slice none 0 0, .slice none 0 0, .int .i64 0]) ?_ 0 _ rfl; (with_reducible repeat (first | refine blk_drewN ?_ _ | refine blk_drew ?_ | refine blk_alloc ?_ _ )); exact BK_G.out) hb); have n8_ := Aside0.mk (below_step (by repeat ((with_reducible first | exact HB.out | refine below_set ?_ GE_G.out))) hb); have n9_ := Aside0.mk (below_step (by repeat ((with_reducible first | exact HG.out | refine below_set ?_ GG_G.out))) hb); (try clear HO_WW); (try clear HO_WM); (try clear HO_WS); (try clear HO_GW); (try clear HO_GM); (try clear HO_GS); (try clear BK_W); (try clear BK_G); (try clear HB); (try clear HG); have HO_WW := n0_; have HO_WM := n1_; have HO_WS := n2_; have HO_GW := n3_; have HO_GM := n4_; have HO_GS := n5_; have BK_W := n6_; have BK_G := n7_; have HB := n8_; have HG := n9_; clear n0_ n1_ n2_ n3_ n4_ n5_ n6_ n7_ n8_ n9_; (try clear hb); have hcz4_0 : w55.cell? ⟨gb_G, 0, none⟩ = some (.slice Ao_GW g_0.length co_GW) := (blk_cell BK_G.out 0).trans rfl; have hfz4_0 := blk_frozen BK_G.out 0; have hcz4_1 : w55.cell? ⟨gb_G, 1, none⟩ = some (.slice Ao_GM g_1.length co_GM) := (blk_cell BK_G.out 1).trans rfl; have hfz4_1 := blk_frozen BK_G.out 1; have hcz4_2 : w55.cell? ⟨gb_G, 2, none⟩ = some (.slice Ao_GS g_2.length co_GS) := (blk_cell BK_G.out 2).trans rfl; have hfz4_2 := blk_frozen BK_G.out 2; have hcz4_3 : w55.cell? ⟨gb_G, 3, none⟩ = some (.int .i64 g_3) := (blk_cell BK_G.out 3).trans rfl; have hfz4_3 := blk_frozen BK_G.out 3) | ((with_reducible refine gate_callee (f := 35) rfl ?_); refine goesL_ (some 14) rfl rfl Try.func35 (by kernel_rfl) rfl #[.agg #[.slice Ao_GW g_0.length co_GW, .slice Ao_GM g_1.length co_GM, .slice Ao_GS g_2.length co_GS, .int .i64 g_3], .int .i64 1] rfl (by (try simp only [List.map_toArray, List.map_cons, List.map_nil]); rfl) ?_; (with_reducible refine (laws_markPolicy.callsP k _ _ _ _ _ _ g_0 g_1 g_2 g_3 1 m_ mW mM mS WG _ HG.out HO_GW.out HO_GM.out ?hne HO_GS.out A5.out).mono ?_); (case hne => exact fun b_ e_ => (HO_GW.out.1 b_ e_).symm); rintro e w56 ⟨rfl, hoW, hoM, hoS, hb, hkp⟩; refine ⟨_, rfl, ?_⟩; have n0_ := Aside0.mk (Kd.R_kept HO_WW.out hkp (fun k_ hk_ hs_ => by rcases hs_ with hs_ | hs_ | hs_ <;> first | exact absurd (Kd.R_base HO_GW.out k_ hs_.symm) (Nat.not_le.2 hk_.2) | exact absurd (Kd.R_base HO_GM.out k_ hs_.symm) (Nat.not_le.2 hk_.2) | exact absurd hs_.2.1 (Nat.not_le.2 hk_.2))); have n1_ := Aside0.mk (Kd.R_kept HO_WM.out hkp (fun k_ hk_ hs_ => by rcases hs_ with hs_ | hs_ | hs_ <;> first | exact absurd (Kd.R_base HO_GW.out k_ hs_.symm) (Nat.not_le.2 hk_.2) | exact absurd (Kd.R_base HO_GM.out k_ hs_.symm) (Nat.not_le.2 hk_.2) | exact absurd hs_.2.1 (Nat.not_le.2 hk_.2))); have n2_ := Aside0.mk (Kd.S_kept HO_WS.out hkp (fun k_ hk_ hs_ => by rcases hs_ with hs_ | hs_ | hs_ <;> first | exact absurd (Kd.R_base HO_GW.out k_ hs_.symm) (Nat.not_le.2 hk_.2) | exact absurd (Kd.R_base HO_GM.out k_ hs_.symm) (Nat.not_le.2 hk_.2) | exact absurd hs_.2.1 (Nat.not_le.2 hk_.2))); have n3_ := Aside0.mk (blk_kept BK_W.out hkp (fun hs_ => by rcases hs_ with hs_ | hs_ | ⟨_, _, cells_, hc_⟩ <;> first | exact Kd.R_ne HO_GW.out BK_W.out (by decide) hs_ | exact Kd.R_ne HO_GM.out BK_W.out (by decide) hs_ | exact absurd (BK_W.out.symm.trans hc_) (by simp))); have n4_ := Aside0.mk (blk_kept BK_G.out hkp (fun hs_ => by rcases hs_ with hs_ | hs_ | ⟨_, _, cells_, hc_⟩ <;> first | exact Kd.R_ne HO_GW.out BK_G.out (by decide) hs_ | exact Kd.R_ne HO_GM.out BK_G.out (by decide) hs_ | exact absurd (BK_G.out.symm.trans hc_) (by simp))); have n5_ := Aside0.mk (below_step HGW.out (laws_markPolicy.up HG.out hb)); have n6_ := Aside0.mk (hb); have n7_ := Aside0.mk (hoW); have n8_ := Aside0.mk (hoM); have n9_ := Aside0.mk (hoS); (try clear HO_WW); (try clear HO_WM); (try clear HO_WS); (try clear BK_W); (try clear BK_G); (try clear HB); (try clear HG); (try clear HO_GW); (try clear HO_GM); (try clear HO_GS); have HO_WW := n0_; have HO_WM := n1_; have HO_WS := n2_; have BK_W := n3_; have BK_G := n4_; have HB := n5_; have HG := n6_; have HO_GW := n7_; have HO_GM := n8_; have HO_GS := n9_; clear n0_ n1_ n2_ n3_ n4_ n5_ n6_ n7_ n8_ n9_; have hlW_ := Aside0.mk ((Kd.R_reads' hoW).1); have hlM_ := Aside0.mk ((Kd.R_reads' hoM).1); have hlS_ := Aside0.mk ((Kd.S_reads' hoS).1); (try clear hoW hoM hoS hb hkp); have hcz5_0 : w56.cell? ⟨gb_G, 0, none⟩ = some (.slice Ao_GW g_0.length co_GW) := (blk_cell BK_G.out 0).trans rfl; have hfz5_0 := blk_frozen BK_G.out 0; have hcz5_1 : w56.cell? ⟨gb_G, 1, none⟩ = some (.slice Ao_GM g_1.length co_GM) := (blk_cell BK_G.out 1).trans rfl; have hfz5_1 := blk_frozen BK_G.out 1; have hcz5_2 : w56.cell? ⟨gb_G, 2, none⟩ = some (.slice Ao_GS g_2.length co_GS) := (blk_cell BK_G.out 2).trans rfl; have hfz5_2 := blk_frozen BK_G.out 2; have hcz5_3 : w56.cell? ⟨gb_G, 3, none⟩ = some (.int .i64 g_3) := (blk_cell BK_G.out 3).trans rfl; have hfz5_3 := blk_frozen BK_G.out 3) | ((with_reducible refine gate_callee (f := 36) rfl ?_); refine goesL_ (some 17) rfl rfl Try.func36 (by kernel_rfl) rfl #[.agg #[.slice Ao_GW g_0.length co_GW, .slice Ao_GM g_1.length co_GM, .slice Ao_GS g_2.length co_GS, .int .i64 g_3], .int .i64 1] rfl (by (try simp only [List.map_toArray, List.map_cons, List.map_nil]); rfl) ?_; (with_reducible refine (laws_markPolicy.held k _ _ _ _ _ _ g_0.length g_1.length g_2.length mW mM mS g_3 1 q1 _ hlW_.out hlM_.out hlS_.out ?side1 ?side2 ?side3 ?side4 ?side5 ?side6 A6.out).mono ?_); (case side1 => repeat (exact (Kd.R_reads' HO_GW.out).2.2)); (case side2 => exact (Kd.R_reads' HO_GW.out).2.1); (case side3 => repeat (exact (Kd.R_reads' HO_GM.out).2.2)); (case side4 => exact (Kd.R_reads' HO_GM.out).2.1); (case side5 => repeat (exact (Kd.S_reads' HO_GS.out).2.2)); (case side6 => exact (Kd.S_reads' HO_GS.out).2.1); rintro e w57 ⟨rfl, hb⟩; refine ⟨_, rfl, ?_⟩; have n0_ := Aside0.mk (Kd.R_below (by (with_reducible repeat (first | apply Kd.R_alloc | apply Kd.R_drewN | apply Kd.R_drew )); exact HO_WW.out) hb); have n1_ := Aside0.mk (Kd.R_below (by (with_reducible repeat (first | apply Kd.R_alloc | apply Kd.R_drewN | apply Kd.R_drew )); exact HO_WM.out) hb); have n2_ := Aside0.mk (Kd.S_below (by (with_reducible repeat (first | apply Kd.S_alloc | apply Kd.S_drewN | apply Kd.S_drew )); exact HO_WS.out) hb); have n3_ := Aside0.mk (Kd.R_below (by (with_reducible repeat (first | apply Kd.R_alloc | apply Kd.R_drewN | apply Kd.R_drew )); exact HO_GW.out) hb); have n4_ := Aside0.mk (Kd.R_below (by (with_reducible repeat (first | apply Kd.R_alloc | apply Kd.R_drewN | apply Kd.R_drew )); exact HO_GM.out) hb); have n5_ := Aside0.mk (Kd.S_below (by (with_reducible repeat (first | apply Kd.S_alloc | apply Kd.S_drewN | apply Kd.S_drew )); exact HO_GS.out) hb); have n6_ := Aside0.mk (blk_below (g := gb_W) (o := .cells #[.slice Ao_WW w_0.length co_WW, .slice Ao_WM w_1.length co_WM, .slice Ao_WS w_2.length co_WS, .int .i64 w_3] 43 (0, 0)) (by (with_reducible repeat (first | refine blk_drewN ?_ _ | refine blk_drew ?_ | refine blk_alloc ?_ _ )); exact BK_W.out) hb); have n7_ := Aside0.mk (blk_below (g := gb_G) (o := .cells #[.slice Ao_GW g_0.length co_GW, .slice Ao_GM g_1.length co_GM, .slice Ao_GS g_2.length co_GS, .int .i64 g_3] 43 (0, 0)) (by (with_reducible repeat (first | refine blk_drewN ?_ _ | refine blk_drew ?_ | refine blk_alloc ?_ _ )); exact BK_G.out) hb); have n8_ := Aside0.mk (below_step (by repeat ((with_reducible exact HB.out))) hb); have n9_ := Aside0.mk (below_step (by repeat ((with_reducible exact HG.out))) hb); (try clear HO_WW); (try clear HO_WM); (try clear HO_WS); (try clear HO_GW); (try clear HO_GM); (try clear HO_GS); (try clear BK_W); (try clear BK_G); (try clear HB); (try clear HG); have HO_WW := n0_; have HO_WM := n1_; have HO_WS := n2_; have HO_GW := n3_; have HO_GM := n4_; have HO_GS := n5_; have BK_W := n6_; have BK_G := n7_; have HB := n8_; have HG := n9_; clear n0_ n1_ n2_ n3_ n4_ n5_ n6_ n7_ n8_ n9_; (try clear hb)) | ((with_reducible refine gate_callee (f := 33) rfl ?_); refine goesL_ (some 23) rfl rfl Try.func33 (by kernel_rfl) rfl #[] rfl (by (try simp only [List.map_toArray, List.map_cons, List.map_nil]); done) ?_; (with_reducible refine (impl_PolicyNew.calls k  h_0 h_1 h_2 h_3 _  A9.out).mono ?_); rintro e w58 ⟨v_HW, v_HM, v_HS, rfl, ho_HW, ho_HM, ho_HS, hb⟩; refine ⟨_, rfl, ?_⟩; have n0_ := Aside0.mk (Kd.R_below (by (with_reducible repeat (first | apply Kd.R_alloc | apply Kd.R_drewN | apply Kd.R_drew )); exact HO_WW.out) hb); have n1_ := Aside0.mk (Kd.R_below (by (with_reducible repeat (first | apply Kd.R_alloc | apply Kd.R_drewN | apply Kd.R_drew )); exact HO_WM.out) hb); have n2_ := Aside0.mk (Kd.S_below (by (with_reducible repeat (first | apply Kd.S_alloc | apply Kd.S_drewN | apply Kd.S_drew )); exact HO_WS.out) hb); have n3_ := Aside0.mk (Kd.R_below (by (with_reducible repeat (first | apply Kd.R_alloc | apply Kd.R_drewN | apply Kd.R_drew )); exact HO_GW.out) hb); have n4_ := Aside0.mk (Kd.R_below (by (with_reducible repeat (first | apply Kd.R_alloc | apply Kd.R_drewN | apply Kd.R_drew )); exact HO_GM.out) hb); have n5_ := Aside0.mk (Kd.S_below (by (with_reducible repeat (first | apply Kd.S_alloc | apply Kd.S_drewN | apply Kd.S_drew )); exact HO_GS.out) hb); have n6_ := Aside0.mk (blk_below (g := gb_W) (o := .cells #[.slice Ao_WW w_0.length co_WW, .slice Ao_WM w_1.length co_WM, .slice Ao_WS w_2.length co_WS, .int .i64 w_3] 43 (0, 0)) (by (with_reducible repeat (first | refine blk_drewN ?_ _ | refine blk_drew ?_ | refine blk_alloc ?_ _ )); exact BK_W.out) hb); have n7_ := Aside0.mk (blk_below (g := gb_G) (o := .cells #[.slice Ao_GW g_0.length co_GW, .slice Ao_GM g_1.length co_GM, .slice Ao_GS g_2.length co_GS, .int .i64 g_3] 43 (0, 0)) (by (with_reducible repeat (first | refine blk_drewN ?_ _ | refine blk_drew ?_ | refine blk_alloc ?_ _ )); exact BK_G.out) hb); have n8_ := Aside0.mk (below_step (by repeat ((with_reducible exact HB.out))) hb); have n9_ := Aside0.mk (below_step (by repeat ((with_reducible exact HG.out))) hb); have n10_ := Aside0.mk (Kd.R_lower ho_HW (below_size (by repeat ((with_reducible exact HG.out))))); have n11_ := Aside0.mk (Kd.R_lower ho_HM (below_size (by repeat ((with_reducible exact HG.out))))); have n12_ := Aside0.mk (Kd.S_lower ho_HS (below_size (by repeat ((with_reducible exact HG.out))))); (try clear HO_WW); (try clear HO_WM); (try clear HO_WS); (try clear HO_GW); (try clear HO_GM); (try clear HO_GS); (try clear BK_W); (try clear BK_G); (try clear HB); (try clear HG); (try clear HO_HW); (try clear HO_HM); (try clear HO_HS); have HO_WW := n0_; have HO_WM := n1_; have HO_WS := n2_; have HO_GW := n3_; have HO_GM := n4_; have HO_GS := n5_; have BK_W := n6_; have BK_G := n7_; have HB := n8_; have HG := n9_; have HO_HW := n10_; have HO_HM := n11_; have HO_HS := n12_; clear n0_ n1_ n2_ n3_ n4_ n5_ n6_ n7_ n8_ n9_ n10_ n11_ n12_; (try clear hb ho_HW ho_HM ho_HS); obtain ⟨Ao_HW, co_HW, eo_HW⟩ := Kd.R_slice HO_HW.out; subst eo_HW; obtain ⟨Ao_HM, co_HM, eo_HM⟩ := Kd.R_slice HO_HM.out; subst eo_HM; obtain ⟨Ao_HS, co_HS, eo_HS⟩ := Kd.S_slice HO_HS.out; subst eo_HS) | ((with_reducible refine gate_dst (N := 5) rfl ?_); refine box_event ?hg (N := 5) ?hd (cs := #[.slice none 0 0, .slice none 0 0, .slice none 0 0, .int .i64 0]) (t := 43) ?hr ?_; (case hd => rfl); (case hg => rfl); (case hr => (go_simp; done)); intro gb_H hg w59 hbox hb; have n0_ := Aside0.mk (Kd.R_below (by (with_reducible repeat (first | apply Kd.R_alloc | apply Kd.R_drewN | apply Kd.R_drew )); exact HO_WW.out) hb); have n1_ := Aside0.mk (Kd.R_below (by (with_reducible repeat (first | apply Kd.R_alloc | apply Kd.R_drewN | apply Kd.R_drew )); exact HO_WM.out) hb); have n2_ := Aside0.mk (Kd.S_below (by (with_reducible repeat (first | apply Kd.S_alloc | apply Kd.S_drewN | apply Kd.S_drew )); exact HO_WS.out) hb); have n3_ := Aside0.mk (Kd.R_below (by (with_reducible repeat (first | apply Kd.R_alloc | apply Kd.R_drewN | apply Kd.R_drew )); exact HO_GW.out) hb); have n4_ := Aside0.mk (Kd.R_below (by (with_reducible repeat (first | apply Kd.R_alloc | apply Kd.R_drewN | apply Kd.R_drew )); exact HO_GM.out) hb); have n5_ := Aside0.mk (Kd.S_below (by (with_reducible repeat (first | apply Kd.S_alloc | apply Kd.S_drewN | apply Kd.S_drew )); exact HO_GS.out) hb); have n6_ := Aside0.mk (Kd.R_below (by (with_reducible repeat (first | apply Kd.R_alloc | apply Kd.R_drewN | apply Kd.R_drew )); exact HO_HW.out) hb); have n7_ := Aside0.mk (Kd.R_below (by (with_reducible repeat (first | apply Kd.R_alloc | apply Kd.R_drewN | apply Kd.R_drew )); exact HO_HM.out) hb); have n8_ := Aside0.mk (Kd.S_below (by (with_reducible repeat (first | apply Kd.S_alloc | apply Kd.S_drewN | apply Kd.S_drew )); exact HO_HS.out) hb); have n9_ := Aside0.mk (blk_below (g := gb_W) (o := .cells #[.slice Ao_WW w_0.length co_WW, .slice Ao_WM w_1.length co_WM, .slice Ao_WS w_2.length co_WS, .int .i64 w_3] 43 (0, 0)) (by (with_reducible repeat (first | refine blk_drewN ?_ _ | refine blk_drew ?_ | refine blk_alloc ?_ _ )); exact BK_W.out) hb); have n10_ := Aside0.mk (blk_below (g := gb_G) (o := .cells #[.slice Ao_GW g_0.length co_GW, .slice Ao_GM g_1.length co_GM, .slice Ao_GS g_2.length co_GS, .int .i64 g_3] 43 (0, 0)) (by (with_reducible repeat (first | refine blk_drewN ?_ _ | refine blk_drew ?_ | refine blk_alloc ?_ _ )); exact BK_G.out) hb); have n11_ := Aside0.mk (below_step (by repeat ((with_reducible exact HB.out))) hb); have n12_ := Aside0.mk (below_step (by repeat ((with_reducible exact HG.out))) hb); have n13_ := Aside0.mk (hbox); have n14_ := Aside0.mk ((by rw [hg]; exact (below_size (by repeat ((with_reducible exact HB.out)))) : w.heap.size ≤ gb_H)); have n15_ := Aside0.mk ((by rw [hg]; exact (below_size (by repeat ((with_reducible exact HG.out)))) : WG.heap.size ≤ gb_H)); have n16_ := Aside0.mk ((by rw [hg]; exact Nat.ne_of_lt (blk_lt (g := gb_W) (o := .cells #[.slice Ao_WW w_0.length co_WW, .slice Ao_WM w_1.length co_WM, .slice Ao_WS w_2.length co_WS, .int .i64 w_3] 43 (0, 0)) (by (with_reducible repeat (first | refine blk_drewN ?_ _ | refine blk_drew ?_ | refine blk_alloc ?_ _ )); exact BK_W.out)) : gb_W ≠ gb_H)); have n17_ := Aside0.mk ((by rw [hg]; exact Nat.ne_of_gt (blk_lt (g := gb_W) (o := .cells #[.slice Ao_WW w_0.length co_WW, .slice Ao_WM w_1.length co_WM, .slice Ao_WS w_2.length co_WS, .int .i64 w_3] 43 (0, 0)) (by (with_reducible repeat (first | refine blk_drewN ?_ _ | refine blk_drew ?_ | refine blk_alloc ?_ _ )); exact BK_W.out)) : gb_H ≠ gb_W)); have n18_ := Aside0.mk ((by rw [hg]; exact Nat.ne_of_lt (blk_lt (g := gb_G) (o := .cells #[.slice Ao_GW g_0.length co_GW, .slice Ao_GM g_1.length co_GM, .slice Ao_GS g_2.length co_GS, .int .i64 g_3] 43 (0, 0)) (by (with_reducible repeat (first | refine blk_drewN ?_ _ | refine blk_drew ?_ | refine blk_alloc ?_ _ )); exact BK_G.out)) : gb_G ≠ gb_H)); have n19_ := Aside0.mk ((by rw [hg]; exact Nat.ne_of_gt (blk_lt (g := gb_G) (o := .cells #[.slice Ao_GW g_0.length co_GW, .slice Ao_GM g_1.length co_GM, .slice Ao_GS g_2.length co_GS, .int .i64 g_3] 43 (0, 0)) (by (with_reducible repeat (first | refine blk_drewN ?_ _ | refine blk_drew ?_ | refine blk_alloc ?_ _ )); exact BK_G.out)) : gb_H ≠ gb_G)); (try clear HO_WW); (try clear HO_WM); (try clear HO_WS); (try clear HO_GW); (try clear HO_GM); (try clear HO_GS); (try clear HO_HW); (try clear HO_HM); (try clear HO_HS); (try clear BK_W); (try clear BK_G); (try clear HB); (try clear HG); (try clear BK_H); (try clear GE_H); (try clear GG_H); (try clear NB_W_H); (try clear NB_H_W); (try clear NB_G_H); (try clear NB_H_G); have HO_WW := n0_; have HO_WM := n1_; have HO_WS := n2_; have HO_GW := n3_; have HO_GM := n4_; have HO_GS := n5_; have HO_HW := n6_; have HO_HM := n7_; have HO_HS := n8_; have BK_W := n9_; have BK_G := n10_; have HB := n11_; have HG := n12_; have BK_H := n13_; have GE_H := n14_; have GG_H := n15_; have NB_W_H := n16_; have NB_H_W := n17_; have NB_G_H := n18_; have NB_H_G := n19_; clear n0_ n1_ n2_ n3_ n4_ n5_ n6_ n7_ n8_ n9_ n10_ n11_ n12_ n13_ n14_ n15_ n16_ n17_ n18_ n19_; clear hb hbox hg; have hnb_W_H := NB_W_H.out; have hnb_H_W := NB_H_W.out; have hnb_G_H := NB_G_H.out; have hnb_H_G := NB_H_G.out; have hcz6_0 : w59.cell? ⟨gb_H, 0, none⟩ = some (.slice none 0 0) := (blk_cell BK_H.out 0).trans rfl; have hfz6_0 := blk_frozen BK_H.out 0; have hcz6_1 : w59.cell? ⟨gb_H, 1, none⟩ = some (.slice none 0 0) := (blk_cell BK_H.out 1).trans rfl; have hfz6_1 := blk_frozen BK_H.out 1; have hcz6_2 : w59.cell? ⟨gb_H, 2, none⟩ = some (.slice none 0 0) := (blk_cell BK_H.out 2).trans rfl; have hfz6_2 := blk_frozen BK_H.out 2; have hcz6_3 : w59.cell? ⟨gb_H, 3, none⟩ = some (.int .i64 0) := (blk_cell BK_H.out 3).trans rfl; have hfz6_3 := blk_frozen BK_H.out 3; have hcz7_0 : w59.cell? ⟨gb_W, 0, none⟩ = some (.slice Ao_WW w_0.length co_WW) := (blk_cell BK_W.out 0).trans rfl; have hfz7_0 := blk_frozen BK_W.out 0; have hcz7_1 : w59.cell? ⟨gb_W, 1, none⟩ = some (.slice Ao_WM w_1.length co_WM) := (blk_cell BK_W.out 1).trans rfl; have hfz7_1 := blk_frozen BK_W.out 1; have hcz7_2 : w59.cell? ⟨gb_W, 2, none⟩ = some (.slice Ao_WS w_2.length co_WS) := (blk_cell BK_W.out 2).trans rfl; have hfz7_2 := blk_frozen BK_W.out 2; have hcz7_3 : w59.cell? ⟨gb_W, 3, none⟩ = some (.int .i64 w_3) := (blk_cell BK_W.out 3).trans rfl; have hfz7_3 := blk_frozen BK_W.out 3) | ((with_reducible refine gate_callee (f := 34) rfl ?_); refine goesL_ (some 26) rfl rfl Try.func34 (by kernel_rfl) rfl #[.agg #[.slice Ao_HW h_0.length co_HW, .slice Ao_HM h_1.length co_HM, .slice Ao_HS h_2.length co_HS, .int .i64 h_3], .agg #[.slice Ao_WW w_0.length co_WW, .slice Ao_WM w_1.length co_WM, .slice Ao_WS w_2.length co_WS, .int .i64 w_3]] rfl (by (try simp only [List.map_toArray, List.map_cons, List.map_nil]); rfl) ?_; (with_reducible refine (laws_eqPolicy.calls k _ _ h_0 _ _ h_1 _ _ h_2 h_3 _ _ w_0 _ _ w_1 _ _ w_2 w_3 true _ ?side1 ?side2 ?side3 ?side4 ?side5 ?side6 ?side7 ?side8 ?side9 ?side10 ?side11 ?side12 A10.out).mono ?_); (case side1 => refine (Kd.R_reads' (e := 9) (base := WG.heap.size) (ok := (fun k_ => some k_ ≠ (.slice Ao_HM h_1.length co_HM : Value).ownBlock)) (n := h_0.length) (c := co_HW) ?_).2.2; exact (by (with_reducible repeat (first | apply Kd.R_alloc | apply Kd.R_drewN | apply Kd.R_drew )); exact Kd.R_drop (Kd.R_far (p := ⟨gb_H, 3, none⟩) (Kd.R_far (p := ⟨gb_H, 2, none⟩) (Kd.R_far (p := ⟨gb_H, 1, none⟩) (Kd.R_far (p := ⟨gb_H, 0, none⟩) (Kd.R_types HO_HW.out BK_H.out (by decide)) (fun _ hk => hk.2) (.slice Ao_HW h_0.length co_HW)) (fun _ hk => hk.2) (.slice Ao_HM h_1.length co_HM)) (fun _ hk => hk.2) (.slice Ao_HS h_2.length co_HS)) (fun _ hk => hk.2) (.int .i64 h_3)))); (case side2 => exact (Kd.R_reads' HO_HW.out).2.1); (case side3 => refine (Kd.R_reads' (e := 9) (base := WG.heap.size) (ok := (fun k_ => some k_ ≠ (.slice Ao_HW h_0.length co_HW : Value).ownBlock)) (n := h_1.length) (c := co_HM) ?_).2.2; exact (by (with_reducible repeat (first | apply Kd.R_alloc | apply Kd.R_drewN | apply Kd.R_drew )); exact Kd.R_drop (Kd.R_far (p := ⟨gb_H, 3, none⟩) (Kd.R_far (p := ⟨gb_H, 2, none⟩) (Kd.R_far (p := ⟨gb_H, 1, none⟩) (Kd.R_far (p := ⟨gb_H, 0, none⟩) (Kd.R_types HO_HM.out BK_H.out (by decide)) (fun _ hk => hk.2) (.slice Ao_HW h_0.length co_HW)) (fun _ hk => hk.2) (.slice Ao_HM h_1.length co_HM)) (fun _ hk => hk.2) (.slice Ao_HS h_2.length co_HS)) (fun _ hk => hk.2) (.int .i64 h_3)))); (case side4 => exact (Kd.R_reads' HO_HM.out).2.1); (case side5 => refine (Kd.S_reads' (e := 58) (base := WG.heap.size) (ok := (fun _ => True)) (n := h_2.length) (c := co_HS) ?_).2.2; exact (by (with_reducible repeat (first | apply Kd.S_alloc | apply Kd.S_drewN | apply Kd.S_drew )); exact Kd.S_drop (Kd.S_far (p := ⟨gb_H, 3, none⟩) (Kd.S_far (p := ⟨gb_H, 2, none⟩) (Kd.S_far (p := ⟨gb_H, 1, none⟩) (Kd.S_far (p := ⟨gb_H, 0, none⟩) (Kd.S_types HO_HS.out BK_H.out (by decide)) (fun _ hk => hk.2) (.slice Ao_HW h_0.length co_HW)) (fun _ hk => hk.2) (.slice Ao_HM h_1.length co_HM)) (fun _ hk => hk.2) (.slice Ao_HS h_2.length co_HS)) (fun _ hk => hk.2) (.int .i64 h_3)))); (case side6 => exact (Kd.S_reads' HO_HS.out).2.1); (case side7 => refine (Kd.R_reads' (e := 9) (base := w.heap.size) (ok := (fun k_ => True ∧ k_ < WG.heap.size)) (n := w_0.length) (c := co_WW) ?_).2.2; exact (by (with_reducible repeat (first | apply Kd.R_alloc | apply Kd.R_drewN | apply Kd.R_drew )); exact Kd.R_drop (Kd.R_far (p := ⟨gb_H, 3, none⟩) (Kd.R_far (p := ⟨gb_H, 2, none⟩) (Kd.R_far (p := ⟨gb_H, 1, none⟩) (Kd.R_far (p := ⟨gb_H, 0, none⟩) (Kd.R_types HO_WW.out BK_H.out (by decide)) (fun _ hk => hk.2) (.slice Ao_HW h_0.length co_HW)) (fun _ hk => hk.2) (.slice Ao_HM h_1.length co_HM)) (fun _ hk => hk.2) (.slice Ao_HS h_2.length co_HS)) (fun _ hk => hk.2) (.int .i64 h_3)))); (case side8 => exact (Kd.R_reads' HO_WW.out).2.1); (case side9 => refine (Kd.R_reads' (e := 9) (base := w.heap.size) (ok := (fun k_ => True ∧ k_ < WG.heap.size)) (n := w_1.length) (c := co_WM) ?_).2.2; exact (by (with_reducible repeat (first | apply Kd.R_alloc | apply Kd.R_drewN | apply Kd.R_drew )); exact Kd.R_drop (Kd.R_far (p := ⟨gb_H, 3, none⟩) (Kd.R_far (p := ⟨gb_H, 2, none⟩) (Kd.R_far (p := ⟨gb_H, 1, none⟩) (Kd.R_far (p := ⟨gb_H, 0, none⟩) (Kd.R_types HO_WM.out BK_H.out (by decide)) (fun _ hk => hk.2) (.slice Ao_HW h_0.length co_HW)) (fun _ hk => hk.2) (.slice Ao_HM h_1.length co_HM)) (fun _ hk => hk.2) (.slice Ao_HS h_2.length co_HS)) (fun _ hk => hk.2) (.int .i64 h_3)))); (case side10 => exact (Kd.R_reads' HO_WM.out).2.1); (case side11 => refine (Kd.S_reads' (e := 58) (base := w.heap.size) (ok := (fun k_ => True ∧ k_ < WG.heap.size)) (n := w_2.length) (c := co_WS) ?_).2.2; exact (by (with_reducible repeat (first | apply Kd.S_alloc | apply Kd.S_drewN | apply Kd.S_drew )); exact Kd.S_drop (Kd.S_far (p := ⟨gb_H, 3, none⟩) (Kd.S_far (p := ⟨gb_H, 2, none⟩) (Kd.S_far (p := ⟨gb_H, 1, none⟩) (Kd.S_far (p := ⟨gb_H, 0, none⟩) (Kd.S_types HO_WS.out BK_H.out (by decide)) (fun _ hk => hk.2) (.slice Ao_HW h_0.length co_HW)) (fun _ hk => hk.2) (.slice Ao_HM h_1.length co_HM)) (fun _ hk => hk.2) (.slice Ao_HS h_2.length co_HS)) (fun _ hk => hk.2) (.int .i64 h_3)))); (case side12 => exact (Kd.S_reads' HO_WS.out).2.1); rintro e w60 ⟨rfl, hb⟩; refine ⟨_, rfl, ?_⟩; have n0_ := Aside0.mk (Kd.R_below (by (with_reducible repeat (first | apply Kd.R_alloc | apply Kd.R_drewN | apply Kd.R_drew )); exact Kd.R_drop (Kd.R_far (p := ⟨gb_H, 3, none⟩) (Kd.R_far (p := ⟨gb_H, 2, none⟩) (Kd.R_far (p := ⟨gb_H, 1, none⟩) (Kd.R_far (p := ⟨gb_H, 0, none⟩) (Kd.R_types HO_WW.out BK_H.out (by decide)) (fun _ hk => hk.2) (.slice Ao_HW h_0.length co_HW)) (fun _ hk => hk.2) (.slice Ao_HM h_1.length co_HM)) (fun _ hk => hk.2) (.slice Ao_HS h_2.length co_HS)) (fun _ hk => hk.2) (.int .i64 h_3))) hb); have n1_ := Aside0.mk (Kd.R_below (by (with_reducible repeat (first | apply Kd.R_alloc | apply Kd.R_drewN | apply Kd.R_drew )); exact Kd.R_drop (Kd.R_far (p := ⟨gb_H, 3, none⟩) (Kd.R_far (p := ⟨gb_H, 2, none⟩) (Kd.R_far (p := ⟨gb_H, 1, none⟩) (Kd.R_far (p := ⟨gb_H, 0, none⟩) (Kd.R_types HO_WM.out BK_H.out (by decide)) (fun _ hk => hk.2) (.slice Ao_HW h_0.length co_HW)) (fun _ hk => hk.2) (.slice Ao_HM h_1.length co_HM)) (fun _ hk => hk.2) (.slice Ao_HS h_2.length co_HS)) (fun _ hk => hk.2) (.int .i64 h_3))) hb); have n2_ := Aside0.mk (Kd.S_below (by (with_reducible repeat (first | apply Kd.S_alloc | apply Kd.S_drewN | apply Kd.S_drew )); exact Kd.S_drop (Kd.S_far (p := ⟨gb_H, 3, none⟩) (Kd.S_far (p := ⟨gb_H, 2, none⟩) (Kd.S_far (p := ⟨gb_H, 1, none⟩) (Kd.S_far (p := ⟨gb_H, 0, none⟩) (Kd.S_types HO_WS.out BK_H.out (by decide)) (fun _ hk => hk.2) (.slice Ao_HW h_0.length co_HW)) (fun _ hk => hk.2) (.slice Ao_HM h_1.length co_HM)) (fun _ hk => hk.2) (.slice Ao_HS h_2.length co_HS)) (fun _ hk => hk.2) (.int .i64 h_3))) hb); have n3_ := Aside0.mk (Kd.R_below (by (with_reducible repeat (first | apply Kd.R_alloc | apply Kd.R_drewN | apply Kd.R_drew )); exact Kd.R_drop (Kd.R_far (p := ⟨gb_H, 3, none⟩) (Kd.R_far (p := ⟨gb_H, 2, none⟩) (Kd.R_far (p := ⟨gb_H, 1, none⟩) (Kd.R_far (p := ⟨gb_H, 0, none⟩) (Kd.R_types HO_GW.out BK_H.out (by decide)) (fun _ hk => hk.2) (.slice Ao_HW h_0.length co_HW)) (fun _ hk => hk.2) (.slice Ao_HM h_1.length co_HM)) (fun _ hk => hk.2) (.slice Ao_HS h_2.length co_HS)) (fun _ hk => hk.2) (.int .i64 h_3))) hb); have n4_ := Aside0.mk (Kd.R_below (by (with_reducible repeat (first | apply Kd.R_alloc | apply Kd.R_drewN | apply Kd.R_drew )); exact Kd.R_drop (Kd.R_far (p := ⟨gb_H, 3, none⟩) (Kd.R_far (p := ⟨gb_H, 2, none⟩) (Kd.R_far (p := ⟨gb_H, 1, none⟩) (Kd.R_far (p := ⟨gb_H, 0, none⟩) (Kd.R_types HO_GM.out BK_H.out (by decide)) (fun _ hk => hk.2) (.slice Ao_HW h_0.length co_HW)) (fun _ hk => hk.2) (.slice Ao_HM h_1.length co_HM)) (fun _ hk => hk.2) (.slice Ao_HS h_2.length co_HS)) (fun _ hk => hk.2) (.int .i64 h_3))) hb); have n5_ := Aside0.mk (Kd.S_below (by (with_reducible repeat (first | apply Kd.S_alloc | apply Kd.S_drewN | apply Kd.S_drew )); exact Kd.S_drop (Kd.S_far (p := ⟨gb_H, 3, none⟩) (Kd.S_far (p := ⟨gb_H, 2, none⟩) (Kd.S_far (p := ⟨gb_H, 1, none⟩) (Kd.S_far (p := ⟨gb_H, 0, none⟩) (Kd.S_types HO_GS.out BK_H.out (by decide)) (fun _ hk => hk.2) (.slice Ao_HW h_0.length co_HW)) (fun _ hk => hk.2) (.slice Ao_HM h_1.length co_HM)) (fun _ hk => hk.2) (.slice Ao_HS h_2.length co_HS)) (fun _ hk => hk.2) (.int .i64 h_3))) hb); have n6_ := Aside0.mk (Kd.R_below (by (with_reducible repeat (first | apply Kd.R_alloc | apply Kd.R_drewN | apply Kd.R_drew )); exact Kd.R_drop (Kd.R_far (p := ⟨gb_H, 3, none⟩) (Kd.R_far (p := ⟨gb_H, 2, none⟩) (Kd.R_far (p := ⟨gb_H, 1, none⟩) (Kd.R_far (p := ⟨gb_H, 0, none⟩) (Kd.R_types HO_HW.out BK_H.out (by decide)) (fun _ hk => hk.2) (.slice Ao_HW h_0.length co_HW)) (fun _ hk => hk.2) (.slice Ao_HM h_1.length co_HM)) (fun _ hk => hk.2) (.slice Ao_HS h_2.length co_HS)) (fun _ hk => hk.2) (.int .i64 h_3))) hb); have n7_ := Aside0.mk (Kd.R_below (by (with_reducible repeat (first | apply Kd.R_alloc | apply Kd.R_drewN | apply Kd.R_drew )); exact Kd.R_drop (Kd.R_far (p := ⟨gb_H, 3, none⟩) (Kd.R_far (p := ⟨gb_H, 2, none⟩) (Kd.R_far (p := ⟨gb_H, 1, none⟩) (Kd.R_far (p := ⟨gb_H, 0, none⟩) (Kd.R_types HO_HM.out BK_H.out (by decide)) (fun _ hk => hk.2) (.slice Ao_HW h_0.length co_HW)) (fun _ hk => hk.2) (.slice Ao_HM h_1.length co_HM)) (fun _ hk => hk.2) (.slice Ao_HS h_2.length co_HS)) (fun _ hk => hk.2) (.int .i64 h_3))) hb); have n8_ := Aside0.mk (Kd.S_below (by (with_reducible repeat (first | apply Kd.S_alloc | apply Kd.S_drewN | apply Kd.S_drew )); exact Kd.S_drop (Kd.S_far (p := ⟨gb_H, 3, none⟩) (Kd.S_far (p := ⟨gb_H, 2, none⟩) (Kd.S_far (p := ⟨gb_H, 1, none⟩) (Kd.S_far (p := ⟨gb_H, 0, none⟩) (Kd.S_types HO_HS.out BK_H.out (by decide)) (fun _ hk => hk.2) (.slice Ao_HW h_0.length co_HW)) (fun _ hk => hk.2) (.slice Ao_HM h_1.length co_HM)) (fun _ hk => hk.2) (.slice Ao_HS h_2.length co_HS)) (fun _ hk => hk.2) (.int .i64 h_3))) hb); have n9_ := Aside0.mk (blk_below (g := gb_W) (o := .cells #[.slice Ao_WW w_0.length co_WW, .slice Ao_WM w_1.length co_WM, .slice Ao_WS w_2.length co_WS, .int .i64 w_3] 43 (0, 0)) (by (with_reducible repeat (first | refine blk_drewN ?_ _ | refine blk_drew ?_ | refine blk_alloc ?_ _ )); refine blk_far ?_ NB_W_H.out _; (with_reducible repeat (first | refine blk_drewN ?_ _ | refine blk_drew ?_ | refine blk_alloc ?_ _ )); refine blk_far ?_ NB_W_H.out _; (with_reducible repeat (first | refine blk_drewN ?_ _ | refine blk_drew ?_ | refine blk_alloc ?_ _ )); refine blk_far ?_ NB_W_H.out _; (with_reducible repeat (first | refine blk_drewN ?_ _ | refine blk_drew ?_ | refine blk_alloc ?_ _ )); refine blk_far ?_ NB_W_H.out _; (with_reducible repeat (first | refine blk_drewN ?_ _ | refine blk_drew ?_ | refine blk_alloc ?_ _ )); exact BK_W.out) hb); have n10_ := Aside0.mk (blk_below (g := gb_G) (o := .cells #[.slice Ao_GW g_0.length co_GW, .slice Ao_GM g_1.length co_GM, .slice Ao_GS g_2.length co_GS, .int .i64 g_3] 43 (0, 0)) (by (with_reducible repeat (first | refine blk_drewN ?_ _ | refine blk_drew ?_ | refine blk_alloc ?_ _ )); refine blk_far ?_ NB_G_H.out _; (with_reducible repeat (first | refine blk_drewN ?_ _ | refine blk_drew ?_ | refine blk_alloc ?_ _ )); refine blk_far ?_ NB_G_H.out _; (with_reducible repeat (first | refine blk_drewN ?_ _ | refine blk_drew ?_ | refine blk_alloc ?_ _ )); refine blk_far ?_ NB_G_H.out _; (with_reducible repeat (first | refine blk_drewN ?_ _ | refine blk_drew ?_ | refine blk_alloc ?_ _ )); refine blk_far ?_ NB_G_H.out _; (with_reducible repeat (first | refine blk_drewN ?_ _ | refine blk_drew ?_ | refine blk_alloc ?_ _ )); exact BK_G.out) hb); have n11_ := Aside0.mk (blk_below (g := gb_H) (o := .cells #[.slice Ao_HW h_0.length co_HW, .slice Ao_HM h_1.length co_HM, .slice Ao_HS h_2.length co_HS, .int .i64 h_3] 43 (0, 0)) (by (with_reducible repeat (first | refine blk_drewN ?_ _ | refine blk_drew ?_ | refine blk_alloc ?_ _ )); refine blk_put (cs := #[.slice Ao_HW h_0.length co_HW, .slice Ao_HM h_1.length co_HM, .slice Ao_HS h_2.length co_HS, .int .i64 0]) ?_ 3 _ rfl; (with_reducible repeat (first | refine blk_drewN ?_ _ | refine blk_drew ?_ | refine blk_alloc ?_ _ )); refine blk_put (cs := #[.slice Ao_HW h_0.length co_HW, .slice Ao_HM h_1.length co_HM, .slice none 0 0, .int .i64 0]) ?_ 2 _ rfl; (with_reducible repeat (first | refine blk_drewN ?_ _ | refine blk_drew ?_ | refine blk_alloc ?_ _ )); refine blk_put (cs := #[.slice Ao_HW h_0.length co_HW, .slice none 0 0, .slice none 0 0, .int .i64 0]) ?_ 1 _ rfl; (with_reducible repeat (first | refine blk_drewN ?_ _ | refine blk_drew ?_ | refine blk_alloc ?_ _ )); refine blk_put (cs := #[.slice none 0 0, .slice none 0 0, .slice none 0 0, .int .i64 0]) ?_ 0 _ rfl; (with_reducible repeat (first | refine blk_drewN ?_ _ | refine blk_drew ?_ | refine blk_alloc ?_ _ )); exact BK_H.out) hb); have n12_ := Aside0.mk (below_step (by repeat ((with_reducible first | exact HB.out | refine below_set ?_ GE_H.out))) hb); have n13_ := Aside0.mk (below_step (by repeat ((with_reducible first | exact HG.out | refine below_set ?_ GG_H.out))) hb); (try clear HO_WW); (try clear HO_WM); (try clear HO_WS); (try clear HO_GW); (try clear HO_GM); (try clear HO_GS); (try clear HO_HW); (try clear HO_HM); (try clear HO_HS); (try clear BK_W); (try clear BK_G); (try clear BK_H); (try clear HB); (try clear HG); have HO_WW := n0_; have HO_WM := n1_; have HO_WS := n2_; have HO_GW := n3_; have HO_GM := n4_; have HO_GS := n5_; have HO_HW := n6_; have HO_HM := n7_; have HO_HS := n8_; have BK_W := n9_; have BK_G := n10_; have BK_H := n11_; have HB := n12_; have HG := n13_; clear n0_ n1_ n2_ n3_ n4_ n5_ n6_ n7_ n8_ n9_ n10_ n11_ n12_ n13_; (try clear hb); have hcz8_0 : w60.cell? ⟨gb_G, 0, none⟩ = some (.slice Ao_GW g_0.length co_GW) := (blk_cell BK_G.out 0).trans rfl; have hfz8_0 := blk_frozen BK_G.out 0; have hcz8_1 : w60.cell? ⟨gb_G, 1, none⟩ = some (.slice Ao_GM g_1.length co_GM) := (blk_cell BK_G.out 1).trans rfl; have hfz8_1 := blk_frozen BK_G.out 1; have hcz8_2 : w60.cell? ⟨gb_G, 2, none⟩ = some (.slice Ao_GS g_2.length co_GS) := (blk_cell BK_G.out 2).trans rfl; have hfz8_2 := blk_frozen BK_G.out 2; have hcz8_3 : w60.cell? ⟨gb_G, 3, none⟩ = some (.int .i64 g_3) := (blk_cell BK_G.out 3).trans rfl; have hfz8_3 := blk_frozen BK_G.out 3) | ((with_reducible refine gate_callee (f := 36) rfl ?_); refine goesL_ (some 30) rfl rfl Try.func36 (by kernel_rfl) rfl #[.agg #[.slice Ao_GW g_0.length co_GW, .slice Ao_GM g_1.length co_GM, .slice Ao_GS g_2.length co_GS, .int .i64 g_3], .int .i64 1] rfl (by (try simp only [List.map_toArray, List.map_cons, List.map_nil]); rfl) ?_; (with_reducible refine (laws_markPolicy.held k _ _ _ _ _ _ g_0.length g_1.length g_2.length mW mM mS g_3 1 q2 _ hlW_.out hlM_.out hlS_.out ?side1 ?side2 ?side3 ?side4 ?side5 ?side6 A12.out).mono ?_); (case side1 => repeat (exact (Kd.R_reads' HO_GW.out).2.2)); (case side2 => exact (Kd.R_reads' HO_GW.out).2.1); (case side3 => repeat (exact (Kd.R_reads' HO_GM.out).2.2)); (case side4 => exact (Kd.R_reads' HO_GM.out).2.1); (case side5 => repeat (exact (Kd.S_reads' HO_GS.out).2.2)); (case side6 => exact (Kd.S_reads' HO_GS.out).2.1); rintro e w61 ⟨rfl, hb⟩; refine ⟨_, rfl, ?_⟩; have n0_ := Aside0.mk (Kd.R_below (by (with_reducible repeat (first | apply Kd.R_alloc | apply Kd.R_drewN | apply Kd.R_drew )); exact HO_WW.out) hb); have n1_ := Aside0.mk (Kd.R_below (by (with_reducible repeat (first | apply Kd.R_alloc | apply Kd.R_drewN | apply Kd.R_drew )); exact HO_WM.out) hb); have n2_ := Aside0.mk (Kd.S_below (by (with_reducible repeat (first | apply Kd.S_alloc | apply Kd.S_drewN | apply Kd.S_drew )); exact HO_WS.out) hb); have n3_ := Aside0.mk (Kd.R_below (by (with_reducible repeat (first | apply Kd.R_alloc | apply Kd.R_drewN | apply Kd.R_drew )); exact HO_GW.out) hb); have n4_ := Aside0.mk (Kd.R_below (by (with_reducible repeat (first | apply Kd.R_alloc | apply Kd.R_drewN | apply Kd.R_drew )); exact HO_GM.out) hb); have n5_ := Aside0.mk (Kd.S_below (by (with_reducible repeat (first | apply Kd.S_alloc | apply Kd.S_drewN | apply Kd.S_drew )); exact HO_GS.out) hb); have n6_ := Aside0.mk (Kd.R_below (by (with_reducible repeat (first | apply Kd.R_alloc | apply Kd.R_drewN | apply Kd.R_drew )); exact HO_HW.out) hb); have n7_ := Aside0.mk (Kd.R_below (by (with_reducible repeat (first | apply Kd.R_alloc | apply Kd.R_drewN | apply Kd.R_drew )); exact HO_HM.out) hb); have n8_ := Aside0.mk (Kd.S_below (by (with_reducible repeat (first | apply Kd.S_alloc | apply Kd.S_drewN | apply Kd.S_drew )); exact HO_HS.out) hb); have n9_ := Aside0.mk (blk_below (g := gb_W) (o := .cells #[.slice Ao_WW w_0.length co_WW, .slice Ao_WM w_1.length co_WM, .slice Ao_WS w_2.length co_WS, .int .i64 w_3] 43 (0, 0)) (by (with_reducible repeat (first | refine blk_drewN ?_ _ | refine blk_drew ?_ | refine blk_alloc ?_ _ )); exact BK_W.out) hb); have n10_ := Aside0.mk (blk_below (g := gb_G) (o := .cells #[.slice Ao_GW g_0.length co_GW, .slice Ao_GM g_1.length co_GM, .slice Ao_GS g_2.length co_GS, .int .i64 g_3] 43 (0, 0)) (by (with_reducible repeat (first | refine blk_drewN ?_ _ | refine blk_drew ?_ | refine blk_alloc ?_ _ )); exact BK_G.out) hb); have n11_ := Aside0.mk (blk_below (g := gb_H) (o := .cells #[.slice Ao_HW h_0.length co_HW, .slice Ao_HM h_1.length co_HM, .slice Ao_HS h_2.length co_HS, .int .i64 h_3] 43 (0, 0)) (by (with_reducible repeat (first | refine blk_drewN ?_ _ | refine blk_drew ?_ | refine blk_alloc ?_ _ )); exact BK_H.out) hb); have n12_ := Aside0.mk (below_step (by repeat ((with_reducible exact HB.out))) hb); have n13_ := Aside0.mk (below_step (by repeat ((with_reducible exact HG.out))) hb); (try clear HO_WW); (try clear HO_WM); (try clear HO_WS); (try clear HO_GW); (try clear HO_GM); (try clear HO_GS); (try clear HO_HW); (try clear HO_HM); (try clear HO_HS); (try clear BK_W); (try clear BK_G); (try clear BK_H); (try clear HB); (try clear HG); have HO_WW := n0_; have HO_WM := n1_; have HO_WS := n2_; have HO_GW := n3_; have HO_GM := n4_; have HO_GS := n5_; have HO_HW := n6_; have HO_HM := n7_; have HO_HS := n8_; have BK_W := n9_; have BK_G := n10_; have BK_H := n11_; have HB := n12_; have HG := n13_; clear n0_ n1_ n2_ n3_ n4_ n5_ n6_ n7_ n8_ n9_ n10_ n11_ n12_ n13_; (try clear hb)))
  go_ret
  exact ⟨rfl, (by repeat ((with_reducible exact HB.out)))⟩

end Go.Proofs.Ytoopdknphikgkaa.Q
