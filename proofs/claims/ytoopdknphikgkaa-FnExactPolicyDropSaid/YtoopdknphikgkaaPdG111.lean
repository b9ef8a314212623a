import Derived.Shelf.SlicesE.DeleteFunc
import Derived.Test.YtoopdknphikgkaaPdShelf
import Derived.Test.YtoopdknphikgkaaPdB0
import Derived.Test.YtoopdknphikgkaaPdG72
import Derived.Test.YtoopdknphikgkaaPdG75
import Derived.Test.YtoopdknphikgkaaPdG82
import Derived.Test.YtoopdknphikgkaaPdG107
import Derived.Test.YtoopdknphikgkaaPdG108
import Derived.Test.YtoopdknphikgkaaPdWApart
import Derived.Test.YtoopdknphikgkaaPdWFoot
import Derived.Test.YtoopdknphikgkaaPdWInv
import Derived.Test.YtoopdknphikgkaaPdWKept
import Derived.Test.YtoopdknphikgkaaPdWLast
import Derived.Test.YtoopdknphikgkaaPdWMore
import Derived.Test.YtoopdknphikgkaaPdWN
import Derived.Test.YtoopdknphikgkaaPdWRepsOne
import Derived.Test.YtoopdknphikgkaaPdWShare
import Derived.Test.YtoopdknphikgkaaPdWTab
import Derived.Test.YtoopdknphikgkaaPdWWords
namespace Go.Proofs.Ytoopdknphikgkaa.Q
open Go.RowKit Go.Proofs.YtoopdknphikgkaaW.PrintWords Go.Proofs.YtoopdknphikgkaaW.PrintLast Go.Proofs.YtoopdknphikgkaaW.PrintMore
attribute [local go_sem] max2_int min2_int max_two min_two max_three min_three max_four min_four   -- for this text's walks alone
set_option linter.unusedVariables false
set_option linter.unusedSimpArgs false
def impl_copyTexts.f (l0 : List ByteArray) : Option (List ByteArray) := (some (([] : List ByteArray) : List ByteArray)).bind fun y510 => (if y510.length + l0.length < 8796093022208 then (some (y510 ++ l0)) else (none))
set_option maxHeartbeats 8000000 in
set_option maxRecDepth 100000 in
theorem impl_copyTexts.calls (A0 : Option Addr) (c0 : Nat) (l0 : List ByteArray) (r : List ByteArray) (w : World) (hr0 : Kd.C Kd.string w A0 l0.length l0) (hc0 : l0.length ≤ c0) (h : impl_copyTexts.f l0 = some r) :
    Calls Try.prog 111 #[.slice A0 l0.length c0] w fun e w' => ∃ v0_ : Value, e = .returned (v0_) ∧ Kd.R Kd.string 9 w' w.heap.size (fun _ => True) v0_ r ∧ Below w.heap.size w w' := by
  have HR0 := Aside0.mk hr0
  have HC0 := Aside0.mk hc0
  clear hr0 hc0
  have HB := Aside0.mk (Below.refl w.heap.size w)
  have H : ((some (([] : List ByteArray) : List ByteArray)).bind fun y510 => (if y510.length + l0.length < 8796093022208 then (some (y510 ++ l0)) else (none))) = some r := h
  clear h
  obtain ⟨y510, hy510⟩ : ∃ y_ : List ByteArray, y_ = (([] : List ByteArray)) := ⟨_, rfl⟩
  replace H : (if y510.length + l0.length < 8796093022208 then (some (y510 ++ l0)) else (none)) = some r := by (have H2_ := (Option.bind_some _ _).symm.trans H; rw [hy510]; with_reducible exact H2_)
  have Ny510 := Aside0.mk hy510
  clear hy510
  by_cases c2 : y510.length + l0.length < 8796093022208
  · rw [if_pos c2] at H
    have LMc2 := Aside0.mk c2
    clear c2
    obtain ⟨y513, hy513⟩ : ∃ y_ : List ByteArray, y_ = (y510 ++ l0) := ⟨_, rfl⟩
    replace H : (some y513) = some r := by (rw [hy513]; with_reducible exact H)
    have Ny513 := Aside0.mk hy513
    clear hy513
    obtain rfl := Option.some.inj H
    go_enter Try.func111, Try.ntmps111
    go_wp2_with (first | ((with_reducible refine gate_dst (N := 3) rfl ?_); refine Kd.R_lit Kd.string _ 9 ?hg (N := 3) ?hd (xs := ([] : List ByteArray)) (inner := []) (ok := fun _ => True) (okp := fun _ => True) ?hr ?hp (fun _ hk => hk) trivial (Below.refl _ _) (Nat.le_refl _) (by simp) ?_; (case hd => rfl); (case hg => rfl); (case hr => (go_simp; done)); (case hp => exact (Reps.none _ _)); intro v511 w3 ho4 hb hg_ hnew_; clear hg_ hnew_; (rw [← Ny510.out] at ho4); have n0_ := Aside0.mk (Kd.R_lower ho4 (below_size (by repeat ((with_reducible exact HB.out))))); have n1_ := Aside0.mk (below_step (by repeat ((with_reducible exact HB.out))) hb); clear HB; have HO512 := n0_; have HB := n1_; clear n0_ n1_; clear hb ho4) | ((with_reducible refine gate_builtin (b := .append) (xs := #[.tmp 3, .tmp 4]) rfl ?_); at_builtin; refine Kd.R_append_rows Kd.string (w0 := w) w.heap.size rfl (.tmp 3) (.tmp 4) 38 9 (.string ⟨#[]⟩) 16 rfl Try.underlying38 info9 rfl (by decide) (by omega) v511 y510 l0 _ _ _ (fun _ => True) (fun _ => False) rfl rfl ?aO ?aR (fun _ _ h => h) (fun _ h => h.elim) ?aF ?aB ?aS ?aL ?_; (case aR => repeat (exact (Kd.C_below HR0.out HB.out))); (case aB => exact (by repeat ((with_reducible exact HB.out)))); (case aF => exact (fun _ _ => trivial)); (case aO => exact (by (with_reducible repeat (first | apply Kd.R_alloc | apply Kd.R_drewN | apply Kd.R_drew )); exact HO512.out)); (case aS => exact (below_size (by repeat ((with_reducible exact HB.out))))); (case aL => have := LMc2.out; omega); intro v514 w5 ho hb hg hat; rw [← Ny513.out] at ho; have n0_ := Aside0.mk (hb); have n1_ := Aside0.mk (ho); clear HB; clear HO512; have HB := n0_; have HO515 := n1_; clear n0_ n1_; clear ho hb hg hat))
    go_ret
    exact ⟨_, by rfl, by (with_reducible repeat (first | apply Kd.R_alloc | apply Kd.R_drewN | apply Kd.R_drew )); exact HO515.out, by repeat ((with_reducible exact HB.out))⟩
  · rw [if_neg c2] at H
    exact absurd H (by simp)
def impl_copyPolicy.f (k : Nat) (l0_0 : List ByteArray) (l0_1 : List ByteArray) (l0_2 : List (List Int)) (a0_3 : Int) : Option (List ByteArray × List ByteArray × (List (List Int)) × Int) := (impl_copyTexts.f l0_0).bind fun t518 => ((impl_copyTexts.f l0_1).bind fun t521 => ((impl_copySketch.f k l0_2 a0_3).bind fun bt524 => (some (t518, t521, bt524.1, bt524.2))))
def impl_copyPolicy.T1 : Bool × List (List Nat × List Nat) := (true, [([], []), ([0], [0]), ([1], [1]), ([], []), ([3], [3]), ([4, 2], [4]), ([], []), ([6], [6]), ([7, 5], [7]), ([2, 5, 8], [2, 5, 8]), ([9, 8, 0, 1, 2, 3, 4, 5, 6, 7, 8, 9], [9])])
def impl_copyPolicy.B1 : List Nat := [0, 1, 3, 0, 8, 31, 0, 64, 255, 511, 1023]
theorem impl_copyPolicy.tab1 : rtab .any (opsOf Try.f83 1) = impl_copyPolicy.T1 := by kernel_rfl
theorem impl_copyPolicy.bits1 : waitsOk impl_copyPolicy.T1.2 impl_copyPolicy.B1 = true := by kernel_rfl
set_option maxHeartbeats 8000000 in
set_option maxRecDepth 100000 in
theorem impl_copyPolicy.calls (k : Nat) (A0_0 : Option Addr) (c0_0 : Nat) (l0_0 : List ByteArray) (A0_1 : Option Addr) (c0_1 : Nat) (l0_1 : List ByteArray) (A0_2 : Option Addr) (c0_2 : Nat) (l0_2 : List (List Int)) (a0_3 : Int) (r1 : List ByteArray) (r2 : List ByteArray) (r3 : List (List Int)) (r4 : Int) (w : World) (hr0_0 : Kd.C Kd.string w A0_0 l0_0.length l0_0) (hc0_0 : l0_0.length ≤ c0_0) (hr0_1 : Kd.C Kd.string w A0_1 l0_1.length l0_1) (hc0_1 : l0_1.length ≤ c0_1) (hr0_2 : Kd.C (Kd.slice 3 (Kd.int .i64)) w A0_2 l0_2.length l0_2) (hc0_2 : l0_2.length ≤ c0_2) (h : impl_copyPolicy.f k l0_0 l0_1 l0_2 a0_3 = some (r1, r2, r3, r4)) :
    Calls Try.prog 83 #[.agg #[.slice A0_0 l0_0.length c0_0, .slice A0_1 l0_1.length c0_1, .slice A0_2 l0_2.length c0_2, .int .i64 a0_3]] w fun e w' => ∃ v0_ v1_ v2_ : Value, e = .returned (.agg #[v0_, v1_, v2_, .int .i64 r4]) ∧ Kd.R Kd.string 9 w' w.heap.size (fun k_ => some k_ ≠ (v1_ : Value).ownBlock) v0_ r1 ∧ Kd.R Kd.string 9 w' w.heap.size (fun k_ => some k_ ≠ (v0_ : Value).ownBlock) v1_ r2 ∧ Kd.S (Kd.slice 3 (Kd.int .i64)) 58 w' w.heap.size (fun _ => True) v2_ r3 ∧ Below w.heap.size w w' := by
  have hu43 := Try.underlying43
  have hu26 := Try.underlying26
  have HR0_0 := Aside0.mk hr0_0
  have HC0_0 := Aside0.mk hc0_0
  clear hr0_0 hc0_0
  have HR0_1 := Aside0.mk hr0_1
  have HC0_1 := Aside0.mk hc0_1
  clear hr0_1 hc0_1
  have HR0_2 := Aside0.mk hr0_2
  have HC0_2 := Aside0.mk hc0_2
  clear hr0_2 hc0_2
  have HB := Aside0.mk (Below.refl w.heap.size w)
  have H : ((impl_copyTexts.f l0_0).bind fun t518 => ((impl_copyTexts.f l0_1).bind fun t521 => ((impl_copySketch.f k l0_2 a0_3).bind fun bt524 => (some (t518, t521, bt524.1, bt524.2))))) = some (r1, r2, r3, r4) := h
  clear h
  replace H := Option.bind_eq_some_iff.mp H
  obtain ⟨t518, A20, H⟩ := H
  replace H : ((impl_copyTexts.f l0_1).bind fun t521 => ((impl_copySketch.f k l0_2 a0_3).bind fun bt524 => (some (t518, t521, bt524.1, bt524.2)))) = some (r1, r2, r3, r4) := H
  have A2 := Aside0.mk A20
  clear A20
  replace H := Option.bind_eq_some_iff.mp H
  obtain ⟨t521, A30, H⟩ := H
  replace H : ((impl_copySketch.f k l0_2 a0_3).bind fun bt524 => (some (t518, t521, bt524.1, bt524.2))) = some (r1, r2, r3, r4) := H
  have A3 := Aside0.mk A30
  clear A30
  replace H := Option.bind_eq_some_iff.mp H
  obtain ⟨⟨t524, t527⟩, A40, H⟩ := H
  replace H : (some (t518, t521, t524, t527)) = some (r1, r2, r3, r4) := H
  have A4 := Aside0.mk A40
  clear A40
  simp only [Option.some.injEq, Prod.mk.injEq] at H
  obtain ⟨rfl, rfl, rfl, rfl⟩ := H
  go_enter Try.func83, Try.ntmps83
  go_wp2_with (first | ((with_reducible refine gate_dst (N := 1) rfl ?_); refine box_event ?hg (N := 1) ?hd (cs := #[.slice A0_0 l0_0.length c0_0, .slice A0_1 l0_1.length c0_1, .slice A0_2 l0_2.length c0_2, .int .i64 a0_3]) (t := 43) ?hr ?_; (case hd => rfl); (case hg => rfl); (case hr => (go_simp; done)); intro gb516 hg w5 hbox hb; have n0_ := Aside0.mk (below_step (by repeat ((with_reducible exact HB.out))) hb); have n1_ := Aside0.mk (hbox); have n2_ := Aside0.mk ((by rw [hg]; exact (below_size (by repeat ((with_reducible exact HB.out)))) : w.heap.size ≤ gb516)); have n3_ := Aside0.mk ((by rw [hg]; exact (below_size (by repeat ((with_reducible exact HB.out)))) : w.heap.size ≤ gb516)); clear HB; have HB := n0_; have BK516 := n1_; have GW516 := n2_; have GE516 := n3_; clear n0_ n1_ n2_ n3_; clear hb hbox hg) | ((with_reducible refine gate_dst (N := 2) rfl ?_); refine box_event ?hg (N := 2) ?hd (cs := #[.slice none 0 0, .slice none 0 0, .slice none 0 0, .int .i64 0]) (t := 43) ?hr ?_; (case hd => rfl); (case hg => rfl); (case hr => (go_simp; done)); intro gb517 hg w6 hbox hb; have n0_ := Aside0.mk (blk_below (g := gb516) (o := .cells #[.slice A0_0 l0_0.length c0_0, .slice A0_1 l0_1.length c0_1, .slice A0_2 l0_2.length c0_2, .int .i64 a0_3] 43 (0, 0)) (by (with_reducible repeat (first | refine blk_drewN ?_ _ | refine blk_drew ?_ | refine blk_alloc ?_ _ )); exact BK516.out) hb); have n1_ := Aside0.mk (below_step (by repeat ((with_reducible exact HB.out))) hb); have n2_ := Aside0.mk (hbox); have n3_ := Aside0.mk ((by rw [hg]; exact (below_size (by repeat ((with_reducible exact HB.out)))) : w.heap.size ≤ gb517)); have n4_ := Aside0.mk ((by rw [hg]; exact (below_size (by repeat ((with_reducible exact HB.out)))) : w.heap.size ≤ gb517)); have n5_ := Aside0.mk ((by rw [hg]; exact Nat.ne_of_lt (blk_lt (g := gb516) (o := .cells #[.slice A0_0 l0_0.length c0_0, .slice A0_1 l0_1.length c0_1, .slice A0_2 l0_2.length c0_2, .int .i64 a0_3] 43 (0, 0)) (by (with_reducible repeat (first | refine blk_drewN ?_ _ | refine blk_drew ?_ | refine blk_alloc ?_ _ )); exact BK516.out)) : gb516 ≠ gb517)); have n6_ := Aside0.mk ((by rw [hg]; exact Nat.ne_of_gt (blk_lt (g := gb516) (o := .cells #[.slice A0_0 l0_0.length c0_0, .slice A0_1 l0_1.length c0_1, .slice A0_2 l0_2.length c0_2, .int .i64 a0_3] 43 (0, 0)) (by (with_reducible repeat (first | refine blk_drewN ?_ _ | refine blk_drew ?_ | refine blk_alloc ?_ _ )); exact BK516.out)) : gb517 ≠ gb516)); clear BK516; clear HB; have BK516 := n0_; have HB := n1_; have BK517 := n2_; have GW517 := n3_; have GE517 := n4_; have NB516_517 := n5_; have NB517_516 := n6_; clear n0_ n1_ n2_ n3_ n4_ n5_ n6_; clear hb hbox hg))
  have n0_ := Aside0.mk (blk_drew BK516.out)
  have n1_ := Aside0.mk (blk_drew BK517.out)
  have n2_ := Aside0.mk (below_drew1 HB.out)
  clear BK516
  clear BK517
  clear HB
  have BK516 := n0_
  have BK517 := n1_
  have HB := n2_
  clear n0_ n1_ n2_
  refine start_ (n := 11) (S := fun w' => w'.cell? ⟨gb516, 0, none⟩ = some (.slice A0_0 l0_0.length c0_0) ∧ w'.cell? ⟨gb516, 1, none⟩ = some (.slice A0_1 l0_1.length c0_1) ∧ w'.cell? ⟨gb516, 2, none⟩ = some (.slice A0_2 l0_2.length c0_2) ∧ w'.cell? ⟨gb516, 3, none⟩ = some (.int .i64 a0_3)) (ds := []) #[false, false, false, false, false, false, false, false, false, false, false] (by kernel_rfl) rfl rfl ⟨(blk_cell BK516.out 0).trans rfl, (blk_cell BK516.out 1).trans rfl, (blk_cell BK516.out 2).trans rfl, (blk_cell BK516.out 3).trans rfl⟩ (fun hHeld => ?_); refine with_tabW impl_copyPolicy.tab1 impl_copyPolicy.bits1 (fun HT_ HW_ => ?_)
  generalize w6.drew = w7 at BK516 BK517 HB hHeld ⊢
  refine pure_ (i := 0) (N := some 3) (v := ?_) (a' := ?_) #[true, false, false, false, false, false, false, false, false, false, false] rfl rfl (any_of HT_.out (by kernel_rfl)) (fun _ _ _ h => h) (Or.inl ⟨by rfl, ?_⟩) ?_ ?_
  rotate_left
  · intro w'
    go_simp
    with_reducible rfl
  rotate_left
  · simp only [Act.put, List.setIfInBounds_toArray, List.set_cons_zero, List.set_cons_succ, i64_w, i32_w]
    rfl
  refine pure_ (i := 3) (N := some 6) (v := ?_) (a' := ?_) #[true, false, false, true, false, false, false, false, false, false, false] rfl rfl (any_of HT_.out (by kernel_rfl)) (fun _ _ _ h => h) (Or.inl ⟨by rfl, ?_⟩) ?_ ?_
  rotate_left
  · intro w'
    go_simp
    with_reducible rfl
  rotate_left
  · simp only [Act.put, List.setIfInBounds_toArray, List.set_cons_zero, List.set_cons_succ, i64_w, i32_w]
    rfl
  refine pure_ (i := 6) (N := some 9) (v := ?_) (a' := ?_) #[true, false, false, true, false, false, true, false, false, false, false] rfl rfl (any_of HT_.out (by kernel_rfl)) (fun _ _ _ h => h) (Or.inl ⟨by rfl, ?_⟩) ?_ ?_
  rotate_left
  · intro w'
    go_simp
    with_reducible rfl
  rotate_left
  · simp only [Act.put, List.setIfInBounds_toArray, List.set_cons_zero, List.set_cons_succ, i64_w, i32_w]
    rfl
  refine take_ (i := 1) (N := some 4) (v := ?_) (a' := ?_) #[true, true, false, true, false, false, true, false, false, false, false] rfl rfl (take_ofW HT_.out HW_.out (by kernel_rfl)) (fun _ _ _ h => h) (Or.inl ⟨by rfl, ?_⟩) hHeld ?_ ?_
  rotate_left
  · rintro w' ⟨s0, s1, s2, s3⟩
    go_simp
    with_reducible rfl
  rotate_left
  · simp only [Act.put, List.setIfInBounds_toArray, List.set_cons_zero, List.set_cons_succ, i64_w, i32_w]
    rfl
  refine take_ (i := 4) (N := some 7) (v := ?_) (a' := ?_) #[true, true, false, true, true, false, true, false, false, false, false] rfl rfl (take_ofW HT_.out HW_.out (by kernel_rfl)) (fun _ _ _ h => h) (Or.inl ⟨by rfl, ?_⟩) hHeld ?_ ?_
  rotate_left
  · rintro w' ⟨s0, s1, s2, s3⟩
    go_simp
    with_reducible rfl
  rotate_left
  · simp only [Act.put, List.setIfInBounds_toArray, List.set_cons_zero, List.set_cons_succ, i64_w, i32_w]
    rfl
  refine take_ (i := 7) (N := some 10) (v := ?_) (a' := ?_) #[true, true, false, true, true, false, true, true, false, false, false] rfl rfl (take_ofW HT_.out HW_.out (by kernel_rfl)) (fun _ _ _ h => h) (Or.inl ⟨by rfl, ?_⟩) hHeld ?_ ?_
  rotate_left
  · rintro w' ⟨s0, s1, s2, s3⟩
    go_simp
    with_reducible rfl
  rotate_left
  · simp only [Act.put, List.setIfInBounds_toArray, List.set_cons_zero, List.set_cons_succ, i64_w, i32_w]
    rfl
  refine one_ (i := 2) (N := some 5) #[true, true, true, true, true, false, true, true, false, false, false] rfl rfl (one_of HT_.out (by kernel_rfl)) (by decide) (fun K hK => ?_)
  refine goes_ Try.func111 (by kernel_rfl) rfl #[.slice A0_0 l0_0.length c0_0] (by rfl) rfl rfl (by (try simp only [List.map_toArray, List.map_cons, List.map_nil]); rfl) ?_
  with_reducible refine (impl_copyTexts.calls _ _ l0_0 t518 _ ?side1 ?side2 A2.out).mono ?_
  (case side1 => repeat (exact (Kd.C_below HR0_0.out HB.out)))
  (case side2 => exact HC0_0.out)
  rintro e w8 ⟨v519, rfl, ho0, hb⟩
  refine ⟨_, rfl, ?_⟩
  have n0_ := Aside0.mk (Kd.R_lower ho0 (below_size (by repeat ((with_reducible exact HB.out)))))
  have n1_ := Aside0.mk (blk_below (g := gb516) (o := .cells #[.slice A0_0 l0_0.length c0_0, .slice A0_1 l0_1.length c0_1, .slice A0_2 l0_2.length c0_2, .int .i64 a0_3] 43 (0, 0)) (by (with_reducible repeat (first | refine blk_drewN ?_ _ | refine blk_drew ?_ | refine blk_alloc ?_ _ )); exact BK516.out) hb)
  have n2_ := Aside0.mk (blk_below (g := gb517) (o := .cells #[.slice none 0 0, .slice none 0 0, .slice none 0 0, .int .i64 0] 43 (0, 0)) (by (with_reducible repeat (first | refine blk_drewN ?_ _ | refine blk_drew ?_ | refine blk_alloc ?_ _ )); exact BK517.out) hb)
  have n3_ := Aside0.mk (below_step (by repeat ((with_reducible exact HB.out))) hb)
  clear BK516
  clear BK517
  clear HB
  have HO520 := n0_
  have BK516 := n1_
  have BK517 := n2_
  have HB := n3_
  clear n0_ n1_ n2_ n3_
  (try clear hb)
  (try clear hb2)
  (try clear hk)
  (try clear hi)
  (try clear ho0)
  refine hK.out _ _ ⟨(blk_cell BK516.out 0).trans rfl, (blk_cell BK516.out 1).trans rfl, (blk_cell BK516.out 2).trans rfl, (blk_cell BK516.out 3).trans rfl⟩ (fun hHeld => ?_)
  clear hK K
  refine norm_ (a' := ?_) ?_ ?_
  rotate_left
  · show Act.put _ (some 5) _ = _
    simp only [Act.put, List.setIfInBounds_toArray, List.set_cons_zero, List.set_cons_succ, i64_w, i32_w]
    rfl
  refine one_ (i := 5) (N := some 8) #[true, true, true, true, true, true, true, true, false, false, false] rfl rfl (one_of HT_.out (by kernel_rfl)) (by decide) (fun K hK => ?_)
  refine goes_ Try.func111 (by kernel_rfl) rfl #[.slice A0_1 l0_1.length c0_1] (by rfl) rfl rfl (by (try simp only [List.map_toArray, List.map_cons, List.map_nil]); rfl) ?_
  with_reducible refine (impl_copyTexts.calls _ _ l0_1 t521 _ ?side1 ?side2 A3.out).mono ?_
  (case side1 => repeat (exact (Kd.C_below HR0_1.out HB.out)))
  (case side2 => exact HC0_1.out)
  rintro e w9 ⟨v522, rfl, ho0, hb⟩
  refine ⟨_, rfl, ?_⟩
  have n0_ := Aside0.mk (Kd.R_elder' (by (with_reducible repeat (first | apply Kd.R_alloc | apply Kd.R_drewN | apply Kd.R_drew )); exact HO520.out) (Kd.R_base ho0) hb)
  have n1_ := Aside0.mk (Kd.R_lower (Kd.R_new' ho0 (Kd.R_lt (by (with_reducible repeat (first | apply Kd.R_alloc | apply Kd.R_drewN | apply Kd.R_drew )); exact HO520.out))) (below_size (by repeat ((with_reducible exact HB.out)))))
  have n2_ := Aside0.mk (blk_below (g := gb516) (o := .cells #[.slice A0_0 l0_0.length c0_0, .slice A0_1 l0_1.length c0_1, .slice A0_2 l0_2.length c0_2, .int .i64 a0_3] 43 (0, 0)) (by (with_reducible repeat (first | refine blk_drewN ?_ _ | refine blk_drew ?_ | refine blk_alloc ?_ _ )); exact BK516.out) hb)
  have n3_ := Aside0.mk (blk_below (g := gb517) (o := .cells #[.slice none 0 0, .slice none 0 0, .slice none 0 0, .int .i64 0] 43 (0, 0)) (by (with_reducible repeat (first | refine blk_drewN ?_ _ | refine blk_drew ?_ | refine blk_alloc ?_ _ )); exact BK517.out) hb)
  have n4_ := Aside0.mk (below_step (by repeat ((with_reducible exact HB.out))) hb)
  clear HO520
  clear BK516
  clear BK517
  clear HB
  have HO520 := n0_
  have HO523 := n1_
  have BK516 := n2_
  have BK517 := n3_
  have HB := n4_
  clear n0_ n1_ n2_ n3_ n4_
  (try clear hb)
  (try clear hb2)
  (try clear hk)
  (try clear hi)
  (try clear ho0)
  refine hK.out _ _ ⟨(blk_cell BK516.out 0).trans rfl, (blk_cell BK516.out 1).trans rfl, (blk_cell BK516.out 2).trans rfl, (blk_cell BK516.out 3).trans rfl⟩ (fun hHeld => ?_)
  clear hK K
  refine norm_ (a' := ?_) ?_ ?_
  rotate_left
  · show Act.put _ (some 8) _ = _
    simp only [Act.put, List.setIfInBounds_toArray, List.set_cons_zero, List.set_cons_succ, i64_w, i32_w]
    rfl
  refine one_ (i := 8) (N := some 11) #[true, true, true, true, true, true, true, true, true, false, false] rfl rfl (one_of HT_.out (by kernel_rfl)) (by decide) (fun K hK => ?_)
  refine goes_ Try.func71 (by kernel_rfl) rfl #[.agg #[.slice A0_2 l0_2.length c0_2, .int .i64 a0_3]] (by rfl) rfl rfl (by (try simp only [List.map_toArray, List.map_cons, List.map_nil]); rfl) ?_
  with_reducible refine (impl_copySketch.calls k _ _ l0_2 a0_3 t524 t527 _ ?side1 ?side2 A4.out).mono ?_
  (case side1 => repeat (exact (Kd.C_below HR0_2.out HB.out)))
  (case side2 => exact HC0_2.out)
  rintro e w10 ⟨v525, rfl, ho0, hb⟩
  refine ⟨_, rfl, ?_⟩
  have n0_ := Aside0.mk (Kd.R_below (by (with_reducible repeat (first | apply Kd.R_alloc | apply Kd.R_drewN | apply Kd.R_drew )); exact HO520.out) hb)
  have n1_ := Aside0.mk (Kd.R_below (by (with_reducible repeat (first | apply Kd.R_alloc | apply Kd.R_drewN | apply Kd.R_drew )); exact HO523.out) hb)
  have n2_ := Aside0.mk (Kd.S_lower ho0 (below_size (by repeat ((with_reducible exact HB.out)))))
  have n3_ := Aside0.mk (blk_below (g := gb516) (o := .cells #[.slice A0_0 l0_0.length c0_0, .slice A0_1 l0_1.length c0_1, .slice A0_2 l0_2.length c0_2, .int .i64 a0_3] 43 (0, 0)) (by (with_reducible repeat (first | refine blk_drewN ?_ _ | refine blk_drew ?_ | refine blk_alloc ?_ _ )); exact BK516.out) hb)
  have n4_ := Aside0.mk (blk_below (g := gb517) (o := .cells #[.slice none 0 0, .slice none 0 0, .slice none 0 0, .int .i64 0] 43 (0, 0)) (by (with_reducible repeat (first | refine blk_drewN ?_ _ | refine blk_drew ?_ | refine blk_alloc ?_ _ )); exact BK517.out) hb)
  have n5_ := Aside0.mk (below_step (by repeat ((with_reducible exact HB.out))) hb)
  clear HO520
  clear HO523
  clear BK516
  clear BK517
  clear HB
  have HO520 := n0_
  have HO523 := n1_
  have HO526 := n2_
  have BK516 := n3_
  have BK517 := n4_
  have HB := n5_
  clear n0_ n1_ n2_ n3_ n4_ n5_
  (try clear hb)
  (try clear hb2)
  (try clear hk)
  (try clear hi)
  (try clear ho0)
  obtain ⟨Ao11, co11, eo11⟩ := Kd.S_slice HO526.out
  (subst eo11)
  obtain ⟨Ao12, co12, eo12⟩ := Kd.R_slice HO523.out
  (subst eo12)
  obtain ⟨Ao13, co13, eo13⟩ := Kd.R_slice HO520.out
  (subst eo13)
  refine hK.out _ _ ⟨(blk_cell BK516.out 0).trans rfl, (blk_cell BK516.out 1).trans rfl, (blk_cell BK516.out 2).trans rfl, (blk_cell BK516.out 3).trans rfl⟩ (fun hHeld => ?_)
  clear hK K
  refine norm_ (a' := ?_) ?_ ?_
  rotate_left
  · show Act.put _ (some 11) _ = _
    simp only [Act.put, List.setIfInBounds_toArray, List.set_cons_zero, List.set_cons_succ, i64_w, i32_w]
    rfl
  refine pure_ (i := 9) (N := some 12) (v := ?_) (a' := ?_) #[true, true, true, true, true, true, true, true, true, true, false] rfl rfl (any_of HT_.out (by kernel_rfl)) (fun _ _ _ h => h) (Or.inl ⟨by rfl, ?_⟩) ?_ ?_
  rotate_left
  · intro w'
    go_simp
    with_reducible rfl
  rotate_left
  · simp only [Act.put, List.setIfInBounds_toArray, List.set_cons_zero, List.set_cons_succ, i64_w, i32_w]
    rfl
  refine one_ (i := 10) (N := none) #[true, true, true, true, true, true, true, true, true, true, true] rfl rfl (one_of HT_.out (by kernel_rfl)) (by decide) (fun K hK => ?_)
  have hs14 : w10.cell? ⟨gb517, 0, none⟩ = some (.slice none 0 0) := (blk_cell BK517.out 0).trans rfl
  have hfs14 := blk_frozen BK517.out 0
  have hns14_0 := NB516_517.out
  have hms14_0 := NB517_516.out
  have hs15 : w10.cell? ⟨gb517, 1, none⟩ = some (.slice none 0 0) := (blk_cell BK517.out 1).trans rfl
  have hfs15 := blk_frozen BK517.out 1
  have hns15_0 := NB516_517.out
  have hms15_0 := NB517_516.out
  have hs16 : w10.cell? ⟨gb517, 2, none⟩ = some (.slice none 0 0) := (blk_cell BK517.out 2).trans rfl
  have hfs16 := blk_frozen BK517.out 2
  have hns16_0 := NB516_517.out
  have hms16_0 := NB517_516.out
  have hs17 : w10.cell? ⟨gb517, 3, none⟩ = some (.int .i64 0) := (blk_cell BK517.out 3).trans rfl
  have hfs17 := blk_frozen BK517.out 3
  have hns17_0 := NB516_517.out
  have hms17_0 := NB517_516.out
  refine skip_ (w1 := ?_) (by rfl) rfl ?_ ?_
  rotate_left
  · go_simp
    rfl
  refine hK.out _ _ ⟨((cell_far (p := ⟨gb517, _, none⟩) NB516_517.out _).trans (((cell_far (p := ⟨gb517, _, none⟩) NB516_517.out _).trans (((cell_far (p := ⟨gb517, _, none⟩) NB516_517.out _).trans (((cell_far (p := ⟨gb517, _, none⟩) NB516_517.out _).trans (hHeld.1)))))))), ((cell_far (p := ⟨gb517, _, none⟩) NB516_517.out _).trans (((cell_far (p := ⟨gb517, _, none⟩) NB516_517.out _).trans (((cell_far (p := ⟨gb517, _, none⟩) NB516_517.out _).trans (((cell_far (p := ⟨gb517, _, none⟩) NB516_517.out _).trans (hHeld.2.1)))))))), ((cell_far (p := ⟨gb517, _, none⟩) NB516_517.out _).trans (((cell_far (p := ⟨gb517, _, none⟩) NB516_517.out _).trans (((cell_far (p := ⟨gb517, _, none⟩) NB516_517.out _).trans (((cell_far (p := ⟨gb517, _, none⟩) NB516_517.out _).trans (hHeld.2.2.1)))))))), ((cell_far (p := ⟨gb517, _, none⟩) NB516_517.out _).trans (((cell_far (p := ⟨gb517, _, none⟩) NB516_517.out _).trans (((cell_far (p := ⟨gb517, _, none⟩) NB516_517.out _).trans (((cell_far (p := ⟨gb517, _, none⟩) NB516_517.out _).trans (hHeld.2.2.2))))))))⟩ (fun hHeld => ?_)
  clear hK K
  refine done_ (done_of HT_.out (by kernel_rfl)) ?_
  go_wp2
  refine bodyPost_ret (results_cell_row rfl _ _ gb517 43 #[.slice Ao13 t518.length co13, .slice Ao12 t521.length co12, .slice Ao11 t524.length co11, .int .i64 t527] (0, 0) _ rfl (by (with_reducible repeat (first | refine blk_drewN ?_ _ | refine blk_drew ?_ | refine blk_alloc ?_ _ )); refine blk_put (cs := #[.slice Ao13 t518.length co13, .slice Ao12 t521.length co12, .slice Ao11 t524.length co11, .int .i64 0]) ?_ 3 _ rfl; (with_reducible repeat (first | refine blk_drewN ?_ _ | refine blk_drew ?_ | refine blk_alloc ?_ _ )); refine blk_put (cs := #[.slice Ao13 t518.length co13, .slice Ao12 t521.length co12, .slice none 0 0, .int .i64 0]) ?_ 2 _ rfl; (with_reducible repeat (first | refine blk_drewN ?_ _ | refine blk_drew ?_ | refine blk_alloc ?_ _ )); refine blk_put (cs := #[.slice Ao13 t518.length co13, .slice none 0 0, .slice none 0 0, .int .i64 0]) ?_ 1 _ rfl; (with_reducible repeat (first | refine blk_drewN ?_ _ | refine blk_drew ?_ | refine blk_alloc ?_ _ )); refine blk_put (cs := #[.slice none 0 0, .slice none 0 0, .slice none 0 0, .int .i64 0]) ?_ 0 _ rfl; (with_reducible repeat (first | refine blk_drewN ?_ _ | refine blk_drew ?_ | refine blk_alloc ?_ _ )); exact BK517.out) Try.underlying43 rfl (by kernel_rfl)) rfl ?_
  exact ⟨_, _, _, by rfl, by (with_reducible repeat (first | apply Kd.R_alloc | apply Kd.R_drewN | apply Kd.R_drew )); exact Kd.R_mono (Kd.R_far (p := ⟨gb517, 3, none⟩) (Kd.R_far (p := ⟨gb517, 2, none⟩) (Kd.R_far (p := ⟨gb517, 1, none⟩) (Kd.R_far (p := ⟨gb517, 0, none⟩) (Kd.R_types HO520.out BK517.out (by decide)) (fun _ hk => hk.2) (.slice Ao13 t518.length co13)) (fun _ hk => hk.2) (.slice Ao12 t521.length co12)) (fun _ hk => hk.2) (.slice Ao11 t524.length co11)) (fun _ hk => hk.2) (.int .i64 t527)) (fun _ hk => hk.1.2), by (with_reducible repeat (first | apply Kd.R_alloc | apply Kd.R_drewN | apply Kd.R_drew )); exact Kd.R_mono (Kd.R_far (p := ⟨gb517, 3, none⟩) (Kd.R_far (p := ⟨gb517, 2, none⟩) (Kd.R_far (p := ⟨gb517, 1, none⟩) (Kd.R_far (p := ⟨gb517, 0, none⟩) (Kd.R_types HO523.out BK517.out (by decide)) (fun _ hk => hk.2) (.slice Ao13 t518.length co13)) (fun _ hk => hk.2) (.slice Ao12 t521.length co12)) (fun _ hk => hk.2) (.slice Ao11 t524.length co11)) (fun _ hk => hk.2) (.int .i64 t527)) (fun _ hk => hk.1.2), by (with_reducible repeat (first | apply Kd.S_alloc | apply Kd.S_drewN | apply Kd.S_drew )); exact Kd.S_mono (Kd.S_far (p := ⟨gb517, 3, none⟩) (Kd.S_far (p := ⟨gb517, 2, none⟩) (Kd.S_far (p := ⟨gb517, 1, none⟩) (Kd.S_far (p := ⟨gb517, 0, none⟩) (Kd.S_types HO526.out BK517.out (by decide)) (fun _ hk => hk.2) (.slice Ao13 t518.length co13)) (fun _ hk => hk.2) (.slice Ao12 t521.length co12)) (fun _ hk => hk.2) (.slice Ao11 t524.length co11)) (fun _ hk => hk.2) (.int .i64 t527)) (fun _ hk => trivial), by repeat ((with_reducible first | exact HB.out | refine below_set ?_ GE517.out))⟩
def impl_withoutKey.f (l0 : List ByteArray) (a1 : ByteArray) : Option (List ByteArray) := (impl_copyTexts.f l0).bind fun l => some (l.filter fun x => !(x.toList == a1.toList))
open Go.Sort in
theorem impl_withoutKey.fn (key : ByteArray) (gk : Nat) (W : World) (hk : W.heap[gk]? = some (.cells #[.string key] 9 (0, 0))) (x : ByteArray) : FnGives Try.prog 113 #[.pointer (some ⟨gk, 0, none⟩)] #[.string x] (.bool (x.toList == key.toList)) W := by
  show Calls Try.prog 113 #[.string x, .pointer (some ⟨gk, 0, none⟩)] W _
  have hcz : W.cell? ⟨gk, 0, none⟩ = some (.string key) := (blk_cell hk 0).trans rfl
  go_enter Try.func113, Try.ntmps113
  go_wp2
  go_ret
  exact ⟨rfl, 0, rfl⟩
theorem impl_withoutKey.none_ (A : Option Addr) (c : Nat) (fv : Value) (w : World) : Calls Try.prog 112 #[.slice A 0 c, fv] w fun e w' => e = .returned (.slice A 0 c) ∧ w = w' := by
  go_enter Try.func112, Try.ntmps112
  go_wp2_with (((with_reducible refine gate_callee (f := 115) rfl ?_); refine goesL_ (some 10) rfl rfl Try.func115 (by kernel_rfl) rfl #[.slice A 0 c, fv] rfl (by (try simp only [List.map_toArray, List.map_cons, List.map_nil]); rfl) ?_; (with_reducible refine (Try.slices_IndexFunc_empty (α := Nat) A c fv _).mono ?_); rintro e w2 ⟨rfl, rfl⟩; refine ⟨_, rfl, ?_⟩))
  go_ret
  exact ⟨rfl, rfl⟩
theorem impl_withoutKey.cells {size : Nat} {enc : ByteArray → Value} : ∀ {ps : List ByteArray} {cs : List Value}, cs.length = ps.length * 1 → (∀ j p, ps[j]? = some p → (cs.drop (j * 1)).take 1 = [enc p]) → cs = ps.map enc := by
  intro ps cs hl h
  apply List.ext_getElem?
  intro j
  rcases Nat.lt_or_ge j ps.length with hj | hj
  · have h1 := h j ps[j] (List.getElem?_eq_getElem hj)
    have hj2 : j < cs.length := by omega
    rw [Nat.mul_one, List.drop_eq_getElem_cons hj2] at h1
    simp only [List.take_succ_cons, List.take_zero, List.cons.injEq, and_true] at h1
    rw [List.getElem?_map, List.getElem?_eq_getElem hj, List.getElem?_eq_getElem hj2, h1]
    rfl
  · rw [List.getElem?_eq_none (by omega), List.getElem?_eq_none (by rw [List.length_map]; omega)]
theorem impl_withoutKey.row {W : World} {base : Nat} {v : Value} {xs : List ByteArray} (h : Kd.R Kd.string 9 W base (fun _ => True) v xs) (hne : 0 < xs.length) :
    ∃ g c cur, v = .slice (some ⟨g, 0, none⟩) xs.length c ∧ base ≤ g ∧ W.heap[g]? = some (.cells cur 9 (0, 0)) ∧ xs.length ≤ c ∧ c ≤ maxLen ∧ cur.size = c ∧ cur.toList.take xs.length = xs.map Value.string := by
  obtain ⟨_, inner, ⟨ho1, ho⟩, hr1, hr2⟩ := h
  have hi : inner = xs.map Value.string := impl_withoutKey.cells (size := 1) hr1 hr2
  subst hi
  rcases ho with ⟨_, h0⟩ | ⟨g, cap, cur, e, hb, hh, hn, hm, hs, ht⟩
  · omega
  · refine ⟨g, cap, cur, e, hb, hh, hn, hm, ?_, ?_⟩
    · rw [hs]; exact Nat.mul_one _
    · rw [← ht]; congr 1; exact (Nat.mul_one _).symm
theorem impl_withoutKey.own {W : World} {base g c n : Nat} {cur : Array Value} {ys : List ByteArray} (hb : base ≤ g) (hh : W.heap[g]? = some (.cells cur 9 (0, 0))) (hn : n = ys.length) (hc : n ≤ c) (hm : c ≤ maxLen) (hs : cur.size = c) (ht : cur.toList.take n = ys.map Value.string) :
    Kd.R Kd.string 9 W base (fun _ => True) (.slice (some ⟨g, 0, none⟩) n c) ys := by
  subst hn
  refine ⟨fun _ _ => trivial, ys.map Value.string, ⟨by simp [Kd.string, Kd.scalar], .inr ⟨g, c, cur, rfl, hb, hh, hc, hm, by rw [hs]; exact (Nat.mul_one _).symm, ?_⟩⟩, ?_, ?_⟩
  · rw [← ht]; congr 1; exact Nat.mul_one _
  · simp [Kd.string, Kd.scalar]
  · intro j p hp
    show (List.drop (j * 1) (ys.map Value.string)).take 1 = [Value.string p]
    have hj : j < ys.length := (List.getElem?_eq_some_iff.1 hp).1
    have hj2 : j < (ys.map Value.string).length := by simpa using hj
    rw [Nat.mul_one, List.drop_eq_getElem_cons hj2]
    have : ys[j] = p := by
      have := List.getElem?_eq_getElem hj
      rw [this] at hp
      exact Option.some.inj hp
    simp [this]
open Go.Sort in
theorem impl_withoutKey.put (W : World) (q g : Nat) (d : Array ByteArray) (cur : Array Value) (hh : W.heap[g]? = some (.cells cur 9 (0, 0))) : (putRow Value.string (Sort.ahead W q) g 0 d).heap[g]? = some (.cells (putCells Value.string 0 d cur) 9 (0, 0)) := by
  show (W.heap.modify g (onCells _))[g]? = _
  rw [Array.getElem?_modify, if_pos rfl, hh]
  rfl
open Go.Sort in
theorem impl_withoutKey.far (W : World) (q g k : Nat) (d : Array ByteArray) (hk : k ≠ g) : (putRow Value.string (Sort.ahead W q) g 0 d).heap[k]? = W.heap[k]? := by
  show (W.heap.modify g (onCells _))[k]? = _
  rw [Array.getElem?_modify, if_neg (Ne.symm hk)]
open Go.Sort in
theorem impl_withoutKey.took (d : Array ByteArray) (cur : Array Value) (hd : d.size ≤ cur.size) (n : Nat) (hn : n ≤ d.size) : (putCells Value.string 0 d cur).toList.take n = (d.toList.take n).map Value.string := by
  apply List.ext_getElem?
  intro j
  rw [List.getElem?_map, List.getElem?_take, List.getElem?_take]
  by_cases hj : j < n
  · rw [if_pos hj, if_pos hj]
    have h1 : j < cur.size := by omega
    have h2 : j < d.size := by omega
    simp [putCells, Array.getElem?_eq_getElem h1, Array.getElem?_eq_getElem h2, h2]
  · rw [if_neg hj, if_neg hj]; rfl
open Go.Sort in
theorem impl_withoutKey.del (key : ByteArray) (gk base : Nat) (w W : World) (v : Value) (xs : List ByteArray) (hk : W.heap[gk]? = some (.cells #[.string key] 9 (0, 0))) (hlt : gk < base) (HO : Kd.R Kd.string 9 W base (fun _ => True) v xs) (HB : Below w.heap.size w W) (hwb : w.heap.size ≤ base) :
    Calls Try.prog 112 #[v, .func (.func 113) #[] #[.pointer (some ⟨gk, 0, none⟩)]] W fun e w' => ∃ v', e = .returned v' ∧ Kd.R Kd.string 9 w' base (fun _ => True) v' (xs.filter fun x => !(x.toList == key.toList)) ∧ Below w.heap.size w w' := by
  rcases Nat.eq_zero_or_pos xs.length with h0 | h0
  · have hx : xs = [] := List.eq_nil_of_length_eq_zero h0
    subst hx
    obtain ⟨A, c, rfl⟩ := Kd.R_slice HO
    refine (impl_withoutKey.none_ A c _ W).mono ?_
    rintro e w' ⟨rfl, rfl⟩
    exact ⟨_, rfl, HO, HB⟩
  · obtain ⟨g, c, cur, rfl, hbg, hh, hn, hm, hs, ht⟩ := impl_withoutKey.row HO h0
    have hgk : gk ≠ g := by omega
    have hgW : g < W.heap.size := (Array.getElem?_eq_some_iff.1 hh).1
    have hget : ∀ j (hj : j < xs.length), cur[j]? = some (.string xs[j]) := by
      intro j hj
      have h1 : (cur.toList.take xs.length)[j]? = (xs.map Value.string)[j]? := by rw [ht]
      rw [List.getElem?_take, if_pos hj, List.getElem?_map, List.getElem?_eq_getElem hj] at h1
      simpa using h1
    have hH : Holds Value.string W g 0 xs.toArray := by
      intro j hj
      have hj' : j < xs.length := by simpa using hj
      refine ⟨?_, ?_⟩
      · rw [Nat.zero_add]
        refine (blk_cell hh j).trans ?_
        rw [hget j hj', getElem!_pos xs.toArray j hj]
        simp
      · simp [World.frozen?, hh]
    have hD := Try.slices_DeleteFunc (α := ByteArray) Value.string (fun _ => rfl) (fun x => x.toList == key.toList) 113 #[.pointer (some ⟨gk, 0, none⟩)] (enters_of Try.func113 (by kernel_rfl) rfl) ByteArray.empty Try.zeroValue9 g 0 c xs.toArray W
      (fun W' x hb => impl_withoutKey.fn key gk W' (blk_below hk hb) x)
      (fun n os dk x hsz => impl_withoutKey.fn key gk _ (by
        unfold sortWorld
        rw [heap_grow_old _ _ (by rw [size_putRow]; exact (Array.getElem?_eq_some_iff.1 hk).1), impl_withoutKey.far _ _ _ _ _ hgk]
        exact hk) x)
      hH (by simp only [maxLen] at hm; simp; omega) (by simpa using hn)
    refine Calls.mono (by simpa using hD) ?_
    rintro e w' ⟨rfl, q, rfl⟩
    have hF : (xs.filter fun x => !(x.toList == key.toList)).length ≤ xs.length := List.length_filter_le _ _
    generalize hys : (xs.filter fun x => !(x.toList == key.toList)) = ys at hF
    refine ⟨_, rfl, impl_withoutKey.own hbg (impl_withoutKey.put W q g _ cur hh) rfl (by omega) hm (by simp [putCells, hs]) ?_, ?_⟩
    · rw [impl_withoutKey.took _ _ (by simp; omega) _ (by simp)]
      simp
    · refine ⟨HB.os, HB.tape, HB.output, by rw [size_putRow]; exact HB.size, fun j hj => ?_⟩
      rw [impl_withoutKey.far _ _ _ _ _ (by omega)]
      exact HB.block j hj
set_option maxHeartbeats 8000000 in
set_option maxRecDepth 100000 in
theorem impl_withoutKey.calls (A0 : Option Addr) (c0 : Nat) (l0 : List ByteArray) (a1 : ByteArray) (r : List ByteArray) (w : World) (hr0 : Kd.C Kd.string w A0 l0.length l0) (hc0 : l0.length ≤ c0) (h : impl_withoutKey.f l0 a1 = some r) :
    Calls Try.prog 84 #[.slice A0 l0.length c0, .string a1] w fun e w' => ∃ v0_ : Value, e = .returned (v0_) ∧ Kd.R Kd.string 9 w' w.heap.size (fun _ => True) v0_ r ∧ Below w.heap.size w w' := by
  have HR1 := Aside0.mk hr0
  have HC1 := Aside0.mk hc0
  have HB := Aside0.mk (Below.refl w.heap.size w)
  clear hr0 hc0
  unfold impl_withoutKey.f at h
  obtain ⟨l, hl, h⟩ := Option.bind_eq_some_iff.1 h
  have HL := Aside0.mk hl
  clear hl
  obtain rfl := Option.some.inj h
  clear h
  go_enter Try.func84, Try.ntmps84
  go_wp2_with (first | ((with_reducible refine gate_dst (N := 3) rfl ?_); refine box_event ?hg (N := 3) ?hd (cs := #[.string a1]) (t := 9) ?hr ?_; (case hd => rfl); (case hg => rfl); (case hr => (go_simp; done)); intro gb hg w1 hbox hb; have n0_ := Aside0.mk (below_step (by repeat ((with_reducible exact HB.out))) hb); have n1_ := Aside0.mk hbox; clear HB; have HB := n0_; have BK := n1_; clear n0_ n1_ hb hbox hg) | ((with_reducible refine gate_callee (f := 111) rfl ?_); refine goesL_ (some 6) rfl rfl Try.func111 (by kernel_rfl) rfl #[.slice A0 l0.length c0] rfl (by (try simp only [List.map_toArray, List.map_cons, List.map_nil]); rfl) ?_; (with_reducible refine (impl_copyTexts.calls A0 c0 l0 l _ ?s1 HC1.out HL.out).mono ?_); (case s1 => exact Kd.C_below HR1.out (by repeat ((with_reducible exact HB.out)))); rintro e w2 ⟨v, rfl, ho, hb⟩; refine ⟨_, rfl, ?_⟩; have n0_ := Aside0.mk (blk_below (by (with_reducible repeat (first | refine blk_drewN ?_ _ | refine blk_drew ?_ | refine blk_alloc ?_ _ )); exact BK.out) hb); have n1_ := Aside0.mk (below_step (by repeat ((with_reducible exact HB.out))) hb); have n2_ := Aside0.mk ho; have n3_ := Aside0.mk (blk_lt (by (with_reducible repeat (first | refine blk_drewN ?_ _ | refine blk_drew ?_ | refine blk_alloc ?_ _ )); exact BK.out)); have n4_ := Aside0.mk (below_size (by repeat ((with_reducible exact HB.out)))); clear HB BK ho hb; have BK := n0_; have HB := n1_; have HO := n2_; have LT := n3_; have LE := n4_; clear n0_ n1_ n2_ n3_ n4_) | ((with_reducible refine gate_callee (f := 112) rfl ?_); refine goesL_ (some 8) rfl rfl Try.func112 (by kernel_rfl) rfl #[v, .func (.func 113) #[] #[.pointer (some ⟨gb, 0, none⟩)]] rfl (by (try simp only [List.map_toArray, List.map_cons, List.map_nil]); rfl) ?_; refine (impl_withoutKey.del a1 gb _ w _ v l ?s1 LT.out ?s2 ?s3 LE.out).mono ?_; (case s1 => exact (by (with_reducible repeat (first | refine blk_drewN ?_ _ | refine blk_drew ?_ | refine blk_alloc ?_ _ )); exact BK.out)); (case s2 => exact (by (with_reducible repeat (first | apply Kd.R_alloc | apply Kd.R_drewN | apply Kd.R_drew )); exact HO.out)); (case s3 => exact (by repeat ((with_reducible exact HB.out)))); rintro e w3 ⟨v2, rfl, ho, hb⟩; refine ⟨_, rfl, ?_⟩; have n0_ := Aside0.mk (Kd.R_lower ho LE.out); have n1_ := Aside0.mk hb; clear HB HO BK ho hb; have HO := n0_; have HB := n1_; clear n0_ n1_))
  go_ret
  exact ⟨_, rfl, by (with_reducible repeat (first | apply Kd.R_alloc | apply Kd.R_drewN | apply Kd.R_drew )); exact HO.out, (by repeat ((with_reducible exact HB.out)))⟩
def spec_l13Without.l0 : Nat → List ByteArray → ByteArray → List ByteArray → Int → Option (List ByteArray)
  | 0, _, _, _, _ => none
  | k + 1, x0, x1, x5, x6 => if x6 < (x0.length : Int) then (if 0 ≤ x6 then (if (rdOf ByteArray.empty x0 x6).toList = x1.toList then (spec_l13Without.l0 k x0 x1 x5 (wrap64 (x6 + 1))) else (if x5.length < 8796093022208 then (spec_l13Without.l0 k x0 x1 (x5 ++ [rdOf ByteArray.empty x0 x6]) (wrap64 (x6 + 1))) else (none))) else (none)) else (some x5)
def spec_l13Without.f (k : Nat) (l0 : List ByteArray) (a1 : ByteArray) : Option (List ByteArray) := spec_l13Without.l0 k l0 a1 (([] : List ByteArray)) 0
set_option maxHeartbeats 8000000 in
set_option maxRecDepth 100000 in
theorem spec_l13Without.calls (k : Nat) (A0 : Option Addr) (c0 : Nat) (l0 : List ByteArray) (a1 : ByteArray) (r : List ByteArray) (w : World) (hr0 : Kd.C Kd.string w A0 l0.length l0) (hc0 : l0.length ≤ c0) (h : spec_l13Without.f k l0 a1 = some r) :
    Calls Try.prog 92 #[.slice A0 l0.length c0, .string a1] w fun e w' => ∃ v0_ : Value, e = .returned (v0_) ∧ Kd.R Kd.string 9 w' w.heap.size (fun _ => True) v0_ r ∧ Below w.heap.size w w' := by
  have HR0 := Aside0.mk hr0
  have HC0 := Aside0.mk hc0
  clear hr0 hc0
  have HB := Aside0.mk (Below.refl w.heap.size w)
  have H : (spec_l13Without.l0 k l0 a1 (([] : List ByteArray)) 0) = some r := h
  clear h
  obtain ⟨y705, hy705⟩ : ∃ y_ : List ByteArray, y_ = (([] : List ByteArray)) := ⟨_, rfl⟩
  replace H : (spec_l13Without.l0 k l0 a1 y705 0) = some r := by (rw [hy705]; with_reducible exact H)
  have Ny705 := Aside0.mk hy705
  clear hy705
  have H' := Aside0.mk H
  clear H
  go_enter Try.func92, Try.ntmps92
  go_wp2_with (((with_reducible refine gate_dst (N := 7) rfl ?_); refine Kd.R_lit Kd.string _ 9 ?hg (N := 7) ?hd (xs := ([] : List ByteArray)) (inner := []) (ok := fun _ => True) (okp := fun _ => True) ?hr ?hp (fun _ hk => hk) trivial (Below.refl _ _) (Nat.le_refl _) (by simp) ?_; (case hd => rfl); (case hg => rfl); (case hr => (go_simp; done)); (case hp => exact (Reps.none _ _)); intro v706 w3 ho4 hb hg_ hnew_; clear hg_ hnew_; (rw [← Ny705.out] at ho4); have n0_ := Aside0.mk (Kd.R_lower ho4 (below_size (by repeat ((with_reducible exact HB.out))))); have n1_ := Aside0.mk (below_step (by repeat ((with_reducible exact HB.out))) hb); clear HB; have HO707 := n0_; have HB := n1_; clear n0_ n1_; clear hb ho4))
  go_loopg [5, 6] k (fun kq v5 v6 w' => ∃ (x5_1 : List ByteArray) (x6_1 : Int), v6 = .int .i64 x6_1 ∧ Aside0 (spec_l13Without.l0 kq l0 a1 x5_1 x6_1 = some r) ∧ Aside0 (kq ≤ k) ∧ Aside0 (Kd.R Kd.string 9 w' w.heap.size (fun _ => True) v5 x5_1) ∧ Aside0 (Below w.heap.size w w'))
  case atStart => exact ⟨(y705), (0), (by rfl), H', ⟨Nat.le_refl _⟩, ⟨by (with_reducible repeat (first | apply Kd.R_alloc | apply Kd.R_drewN | apply Kd.R_drew )); exact HO707.out⟩, ⟨by repeat ((with_reducible exact HB.out))⟩⟩
  case round =>
    clear H'
    obtain ⟨x5_1, x6_1, rfl, HA, HK1, HO_5, HB⟩ := hrel
    cases gk with
    | zero => exact absurd HA.out (by simp [spec_l13Without.l0])
    | succ k1 =>
      have H := HA.out
      clear HA
      simp only [spec_l13Without.l0] at H
      by_cases c5 : x6_1 < (l0.length : Int)
      · rw [if_pos c5] at H
        have c5b0 : decide (x6_1 < (l0.length : Int)) = true := decide_eq_true c5
        clear c5
        by_cases c6 : 0 ≤ x6_1
        · rw [if_pos c6] at H
          have c6b0 : decide (0 ≤ x6_1) = true := decide_eq_true c6
          clear c6
          by_cases c7 : (rdOf ByteArray.empty l0 x6_1).toList = a1.toList
          · rw [if_pos c7] at H
            have c7b0 : ((rdOf ByteArray.empty l0 x6_1).toList == a1.toList) = true := beq_iff_eq.mpr c7
            have c7b1 : ((rdOf ByteArray.empty l0 x6_1).toList != a1.toList) = false := bne_eq_false_iff_eq.mpr c7
            clear c7
            have H' := Aside0.mk H
            clear H
            have p708 : 0 ≤ (x6_1 : Int) := of_decide_eq_true (by (with_reducible assumption))
            have q708 : x6_1 < (l0.length : Int) := of_decide_eq_true (by (with_reducible assumption))
            obtain ⟨ad708, e708, hx708_0⟩ := Kd.at_string HR0.out x6_1 p708 q708
            cases e708
            replace hx708_0 := (HB.out.cell (World.block_lt_of_cell? w _ hx708_0)).trans hx708_0
            replace p708 := eq_true p708
            replace q708 := eq_true q708
            go_wp2
            go_roundg k1
            case measure => have := HK1.out; omega
            case rel => exact ⟨(x5_1), (wrap64 (x6_1 + 1)), (by rfl), H', ⟨by have := HK1.out; omega⟩, ⟨by (with_reducible repeat (first | apply Kd.R_alloc | apply Kd.R_drewN | apply Kd.R_drew )); exact HO_5.out⟩, ⟨by repeat ((with_reducible exact HB.out))⟩⟩
          · rw [if_neg c7] at H
            have c7b0 : ((rdOf ByteArray.empty l0 x6_1).toList == a1.toList) = false := beq_eq_false_iff_ne.mpr c7
            have c7b1 : ((rdOf ByteArray.empty l0 x6_1).toList != a1.toList) = true := bne_iff_ne.mpr c7
            by_cases c8 : x5_1.length < 8796093022208
            · rw [if_pos c8] at H
              have LMc8 := Aside0.mk c8
              clear c8
              obtain ⟨y710, hy710⟩ : ∃ y_ : List ByteArray, y_ = (x5_1 ++ [rdOf ByteArray.empty l0 x6_1]) := ⟨_, rfl⟩
              replace H : (spec_l13Without.l0 k1 l0 a1 y710 (wrap64 (x6_1 + 1))) = some r := by (rw [hy710]; with_reducible exact H)
              have Ny710 := Aside0.mk hy710
              clear hy710
              have H' := Aside0.mk H
              clear H
              have p708 : 0 ≤ (x6_1 : Int) := of_decide_eq_true (by (with_reducible assumption))
              have q708 : x6_1 < (l0.length : Int) := of_decide_eq_true (by (with_reducible assumption))
              obtain ⟨ad708, e708, hx708_0⟩ := Kd.at_string HR0.out x6_1 p708 q708
              cases e708
              replace hx708_0 := (HB.out.cell (World.block_lt_of_cell? w _ hx708_0)).trans hx708_0
              replace p708 := eq_true p708
              replace q708 := eq_true q708
              have p709 : 0 ≤ (x6_1 : Int) := of_decide_eq_true (by (with_reducible assumption))
              have q709 : x6_1 < (l0.length : Int) := of_decide_eq_true (by (with_reducible assumption))
              obtain ⟨ad709, e709, hx709_0⟩ := Kd.at_string HR0.out x6_1 p709 q709
              obtain rfl : ad708 = ad709 := (by injection e709)
              replace hx709_0 := (HB.out.cell (World.block_lt_of_cell? w _ hx709_0)).trans hx709_0
              replace p709 := eq_true p709
              replace q709 := eq_true q709
              go_wp2_with (((with_reducible refine gate_builtin (b := .append) (xs := #[.tmp 20, .tmp 25]) rfl ?_); at_builtin; refine Kd.R_append Kd.string (w0 := w) w.heap.size rfl (.tmp 20) (.tmp 25) 38 9 (.string ⟨#[]⟩) 16 rfl Try.underlying38 info9 rfl (by decide) (by omega) u5 x5_1 (rdOf ByteArray.empty l0 x6_1) [.string (rdOf ByteArray.empty l0 x6_1)] (fun _ => True) (fun _ => False) rfl rfl ?aP (fun _ hk => hk.elim) ?aF ?aO ?aB ?aS ?aL ?_; (case aP => exact rfl); (case aB => exact (by repeat ((with_reducible exact HB.out)))); (case aF => exact (fun _ _ => trivial)); (case aO => exact (by (with_reducible repeat (first | apply Kd.R_alloc | apply Kd.R_drewN | apply Kd.R_drew )); exact HO_5.out)); (case aS => exact (below_size (by repeat ((with_reducible exact HB.out))))); (case aL => have := LMc8.out; omega); intro v711 w9 ho hb hg hat; rw [← Ny710.out] at ho; have n0_ := Aside0.mk (hb); have n1_ := Aside0.mk (ho); clear HB; clear HO_5; have HB := n0_; have HO712 := n1_; clear n0_ n1_; clear ho hb hg hat))
              go_roundg k1
              case measure => have := HK1.out; omega
              case rel => exact ⟨(y710), (wrap64 (x6_1 + 1)), (by rfl), H', ⟨by have := HK1.out; omega⟩, ⟨by (with_reducible repeat (first | apply Kd.R_alloc | apply Kd.R_drewN | apply Kd.R_drew )); exact HO712.out⟩, ⟨by repeat ((with_reducible exact HB.out))⟩⟩
            · rw [if_neg c8] at H
              exact absurd H (by simp)
        · rw [if_neg c6] at H
          exact absurd H (by simp)
      · rw [if_neg c5] at H
        have c5b0 : decide (x6_1 < (l0.length : Int)) = false := decide_eq_false c5
        clear c5
        obtain rfl := Option.some.inj H
        go_wp2
        go_ret
        exact ⟨_, by rfl, by (with_reducible repeat (first | apply Kd.R_alloc | apply Kd.R_drewN | apply Kd.R_drew )); exact HO_5.out, by repeat ((with_reducible exact HB.out))⟩
def spec_PolicyDrop.f (k : Nat) (l0_0 : List ByteArray) (l0_1 : List ByteArray) (l0_2 : List (List Int)) (a0_3 : Int) (a1 : ByteArray) : Option (List ByteArray × List ByteArray × (List (List Int)) × Int) := (spec_l13Without.f k l0_0 a1).bind fun t715 => ((spec_l13Without.f k l0_1 a1).bind fun t718 => ((spec_l12Copy.f k l0_2 a0_3).bind fun bt721 => (some (t715, t718, bt721.1, bt721.2))))
def spec_PolicyDrop.T1 : Bool × List (List Nat × List Nat) := (true, [([], []), ([0], [0]), ([], []), ([1, 2], [1, 2]), ([], []), ([4], [4]), ([], []), ([5, 6, 3], [5, 6]), ([], []), ([8], [8]), ([9, 7], [9]), ([3, 7, 10], [3, 7, 10]), ([11, 10, 0, 1, 2, 3, 4, 5, 6, 7, 8, 9, 10, 11], [11])])
def spec_PolicyDrop.B1 : List Nat := [0, 1, 0, 7, 0, 16, 0, 127, 0, 256, 1023, 2047, 4095]
theorem spec_PolicyDrop.tab1 : rtab .any (opsOf Try.f52 1) = spec_PolicyDrop.T1 := by kernel_rfl
theorem spec_PolicyDrop.bits1 : waitsOk spec_PolicyDrop.T1.2 spec_PolicyDrop.B1 = true := by kernel_rfl
set_option maxHeartbeats 8000000 in
set_option maxRecDepth 100000 in
theorem spec_PolicyDrop.calls (k : Nat) (A0_0 : Option Addr) (c0_0 : Nat) (l0_0 : List ByteArray) (A0_1 : Option Addr) (c0_1 : Nat) (l0_1 : List ByteArray) (A0_2 : Option Addr) (c0_2 : Nat) (l0_2 : List (List Int)) (a0_3 : Int) (a1 : ByteArray) (r1 : List ByteArray) (r2 : List ByteArray) (r3 : List (List Int)) (r4 : Int) (w : World) (hr0_0 : Kd.C Kd.string w A0_0 l0_0.length l0_0) (hc0_0 : l0_0.length ≤ c0_0) (hr0_1 : Kd.C Kd.string w A0_1 l0_1.length l0_1) (hc0_1 : l0_1.length ≤ c0_1) (hr0_2 : Kd.C (Kd.slice 3 (Kd.int .i64)) w A0_2 l0_2.length l0_2) (hc0_2 : l0_2.length ≤ c0_2) (h : spec_PolicyDrop.f k l0_0 l0_1 l0_2 a0_3 a1 = some (r1, r2, r3, r4)) :
    Calls Try.prog 52 #[.agg #[.slice A0_0 l0_0.length c0_0, .slice A0_1 l0_1.length c0_1, .slice A0_2 l0_2.length c0_2, .int .i64 a0_3], .string a1] w fun e w' => ∃ v0_ v1_ v2_ : Value, e = .returned (.agg #[v0_, v1_, v2_, .int .i64 r4]) ∧ Kd.R Kd.string 9 w' w.heap.size (fun k_ => some k_ ≠ (v1_ : Value).ownBlock) v0_ r1 ∧ Kd.R Kd.string 9 w' w.heap.size (fun k_ => some k_ ≠ (v0_ : Value).ownBlock) v1_ r2 ∧ Kd.S (Kd.slice 3 (Kd.int .i64)) 58 w' w.heap.size (fun _ => True) v2_ r3 ∧ Below w.heap.size w w' := by
  have hu43 := Try.underlying43
  have hu26 := Try.underlying26
  have HR0_0 := Aside0.mk hr0_0
  have HC0_0 := Aside0.mk hc0_0
  clear hr0_0 hc0_0
  have HR0_1 := Aside0.mk hr0_1
  have HC0_1 := Aside0.mk hc0_1
  clear hr0_1 hc0_1
  have HR0_2 := Aside0.mk hr0_2
  have HC0_2 := Aside0.mk hc0_2
  clear hr0_2 hc0_2
  have HB := Aside0.mk (Below.refl w.heap.size w)
  have H : ((spec_l13Without.f k l0_0 a1).bind fun t715 => ((spec_l13Without.f k l0_1 a1).bind fun t718 => ((spec_l12Copy.f k l0_2 a0_3).bind fun bt721 => (some (t715, t718, bt721.1, bt721.2))))) = some (r1, r2, r3, r4) := h
  clear h
  replace H := Option.bind_eq_some_iff.mp H
  obtain ⟨t715, A30, H⟩ := H
  replace H : ((spec_l13Without.f k l0_1 a1).bind fun t718 => ((spec_l12Copy.f k l0_2 a0_3).bind fun bt721 => (some (t715, t718, bt721.1, bt721.2)))) = some (r1, r2, r3, r4) := H
  have A3 := Aside0.mk A30
  clear A30
  replace H := Option.bind_eq_some_iff.mp H
  obtain ⟨t718, A40, H⟩ := H
  replace H : ((spec_l12Copy.f k l0_2 a0_3).bind fun bt721 => (some (t715, t718, bt721.1, bt721.2))) = some (r1, r2, r3, r4) := H
  have A4 := Aside0.mk A40
  clear A40
  replace H := Option.bind_eq_some_iff.mp H
  obtain ⟨⟨t721, t724⟩, A50, H⟩ := H
  replace H : (some (t715, t718, t721, t724)) = some (r1, r2, r3, r4) := H
  have A5 := Aside0.mk A50
  clear A50
  simp only [Option.some.injEq, Prod.mk.injEq] at H
  obtain ⟨rfl, rfl, rfl, rfl⟩ := H
  go_enter Try.func52, Try.ntmps52
  go_wp2_with (first | ((with_reducible refine gate_dst (N := 2) rfl ?_); refine box_event ?hg (N := 2) ?hd (cs := #[.slice A0_0 l0_0.length c0_0, .slice A0_1 l0_1.length c0_1, .slice A0_2 l0_2.length c0_2, .int .i64 a0_3]) (t := 43) ?hr ?_; (case hd => rfl); (case hg => rfl); (case hr => (go_simp; done)); intro gb713 hg w6 hbox hb; have n0_ := Aside0.mk (below_step (by repeat ((with_reducible exact HB.out))) hb); have n1_ := Aside0.mk (hbox); have n2_ := Aside0.mk ((by rw [hg]; exact (below_size (by repeat ((with_reducible exact HB.out)))) : w.heap.size ≤ gb713)); have n3_ := Aside0.mk ((by rw [hg]; exact (below_size (by repeat ((with_reducible exact HB.out)))) : w.heap.size ≤ gb713)); clear HB; have HB := n0_; have BK713 := n1_; have GW713 := n2_; have GE713 := n3_; clear n0_ n1_ n2_ n3_; clear hb hbox hg) | ((with_reducible refine gate_dst (N := 4) rfl ?_); refine box_event ?hg (N := 4) ?hd (cs := #[.slice none 0 0, .slice none 0 0, .slice none 0 0, .int .i64 0]) (t := 43) ?hr ?_; (case hd => rfl); (case hg => rfl); (case hr => (go_simp; done)); intro gb714 hg w7 hbox hb; have n0_ := Aside0.mk (blk_below (g := gb713) (o := .cells #[.slice A0_0 l0_0.length c0_0, .slice A0_1 l0_1.length c0_1, .slice A0_2 l0_2.length c0_2, .int .i64 a0_3] 43 (0, 0)) (by (with_reducible repeat (first | refine blk_drewN ?_ _ | refine blk_drew ?_ | refine blk_alloc ?_ _ )); exact BK713.out) hb); have n1_ := Aside0.mk (below_step (by repeat ((with_reducible exact HB.out))) hb); have n2_ := Aside0.mk (hbox); have n3_ := Aside0.mk ((by rw [hg]; exact (below_size (by repeat ((with_reducible exact HB.out)))) : w.heap.size ≤ gb714)); have n4_ := Aside0.mk ((by rw [hg]; exact (below_size (by repeat ((with_reducible exact HB.out)))) : w.heap.size ≤ gb714)); have n5_ := Aside0.mk ((by rw [hg]; exact Nat.ne_of_lt (blk_lt (g := gb713) (o := .cells #[.slice A0_0 l0_0.length c0_0, .slice A0_1 l0_1.length c0_1, .slice A0_2 l0_2.length c0_2, .int .i64 a0_3] 43 (0, 0)) (by (with_reducible repeat (first | refine blk_drewN ?_ _ | refine blk_drew ?_ | refine blk_alloc ?_ _ )); exact BK713.out)) : gb713 ≠ gb714)); have n6_ := Aside0.mk ((by rw [hg]; exact Nat.ne_of_gt (blk_lt (g := gb713) (o := .cells #[.slice A0_0 l0_0.length c0_0, .slice A0_1 l0_1.length c0_1, .slice A0_2 l0_2.length c0_2, .int .i64 a0_3] 43 (0, 0)) (by (with_reducible repeat (first | refine blk_drewN ?_ _ | refine blk_drew ?_ | refine blk_alloc ?_ _ )); exact BK713.out)) : gb714 ≠ gb713)); clear BK713; clear HB; have BK713 := n0_; have HB := n1_; have BK714 := n2_; have GW714 := n3_; have GE714 := n4_; have NB713_714 := n5_; have NB714_713 := n6_; clear n0_ n1_ n2_ n3_ n4_ n5_ n6_; clear hb hbox hg))
  have n0_ := Aside0.mk (blk_drew BK713.out)
  have n1_ := Aside0.mk (blk_drew BK714.out)
  have n2_ := Aside0.mk (below_drew1 HB.out)
  clear BK713
  clear BK714
  clear HB
  have BK713 := n0_
  have BK714 := n1_
  have HB := n2_
  clear n0_ n1_ n2_
  refine start_ (n := 13) (S := fun w' => w'.cell? ⟨gb713, 0, none⟩ = some (.slice A0_0 l0_0.length c0_0) ∧ w'.cell? ⟨gb713, 1, none⟩ = some (.slice A0_1 l0_1.length c0_1) ∧ w'.cell? ⟨gb713, 2, none⟩ = some (.slice A0_2 l0_2.length c0_2) ∧ w'.cell? ⟨gb713, 3, none⟩ = some (.int .i64 a0_3)) (ds := []) #[false, false, false, false, false, false, false, false, false, false, false, false, false] (by kernel_rfl) rfl rfl ⟨(blk_cell BK713.out 0).trans rfl, (blk_cell BK713.out 1).trans rfl, (blk_cell BK713.out 2).trans rfl, (blk_cell BK713.out 3).trans rfl⟩ (fun hHeld => ?_); refine with_tabW spec_PolicyDrop.tab1 spec_PolicyDrop.bits1 (fun HT_ HW_ => ?_)
  generalize w7.drew = w8 at BK713 BK714 HB hHeld ⊢
  refine pure_ (i := 0) (N := some 5) (v := ?_) (a' := ?_) #[true, false, false, false, false, false, false, false, false, false, false, false, false] rfl rfl (any_of HT_.out (by kernel_rfl)) (fun _ _ _ h => h) (Or.inl ⟨by rfl, ?_⟩) ?_ ?_
  rotate_left
  · intro w'
    go_simp
    with_reducible rfl
  rotate_left
  · simp only [Act.put, List.setIfInBounds_toArray, List.set_cons_zero, List.set_cons_succ, i64_w, i32_w]
    rfl
  refine pure_ (i := 2) (N := some 7) (v := ?_) (a' := ?_) #[true, false, true, false, false, false, false, false, false, false, false, false, false] rfl rfl (any_of HT_.out (by kernel_rfl)) (fun _ _ _ h => h) (Or.inl ⟨by rfl, ?_⟩) ?_ ?_
  rotate_left
  · intro w'
    go_simp
    with_reducible rfl
  rotate_left
  · simp only [Act.put, List.setIfInBounds_toArray, List.set_cons_zero, List.set_cons_succ, i64_w, i32_w]
    rfl
  refine pure_ (i := 4) (N := some 9) (v := ?_) (a' := ?_) #[true, false, true, false, true, false, false, false, false, false, false, false, false] rfl rfl (any_of HT_.out (by kernel_rfl)) (fun _ _ _ h => h) (Or.inl ⟨by rfl, ?_⟩) ?_ ?_
  rotate_left
  · intro w'
    go_simp
    with_reducible rfl
  rotate_left
  · simp only [Act.put, List.setIfInBounds_toArray, List.set_cons_zero, List.set_cons_succ, i64_w, i32_w]
    rfl
  refine pure_ (i := 6) (N := some 11) (v := ?_) (a' := ?_) #[true, false, true, false, true, false, true, false, false, false, false, false, false] rfl rfl (any_of HT_.out (by kernel_rfl)) (fun _ _ _ h => h) (Or.inl ⟨by rfl, ?_⟩) ?_ ?_
  rotate_left
  · intro w'
    go_simp
    with_reducible rfl
  rotate_left
  · simp only [Act.put, List.setIfInBounds_toArray, List.set_cons_zero, List.set_cons_succ, i64_w, i32_w]
    rfl
  refine pure_ (i := 8) (N := some 13) (v := ?_) (a' := ?_) #[true, false, true, false, true, false, true, false, true, false, false, false, false] rfl rfl (any_of HT_.out (by kernel_rfl)) (fun _ _ _ h => h) (Or.inl ⟨by rfl, ?_⟩) ?_ ?_
  rotate_left
  · intro w'
    go_simp
    with_reducible rfl
  rotate_left
  · simp only [Act.put, List.setIfInBounds_toArray, List.set_cons_zero, List.set_cons_succ, i64_w, i32_w]
    rfl
  refine take_ (i := 1) (N := some 6) (v := ?_) (a' := ?_) #[true, true, true, false, true, false, true, false, true, false, false, false, false] rfl rfl (take_ofW HT_.out HW_.out (by kernel_rfl)) (fun _ _ _ h => h) (Or.inl ⟨by rfl, ?_⟩) hHeld ?_ ?_
  rotate_left
  · rintro w' ⟨s0, s1, s2, s3⟩
    go_simp
    with_reducible rfl
  rotate_left
  · simp only [Act.put, List.setIfInBounds_toArray, List.set_cons_zero, List.set_cons_succ, i64_w, i32_w]
    rfl
  refine take_ (i := 5) (N := some 10) (v := ?_) (a' := ?_) #[true, true, true, false, true, true, true, false, true, false, false, false, false] rfl rfl (take_ofW HT_.out HW_.out (by kernel_rfl)) (fun _ _ _ h => h) (Or.inl ⟨by rfl, ?_⟩) hHeld ?_ ?_
  rotate_left
  · rintro w' ⟨s0, s1, s2, s3⟩
    go_simp
    with_reducible rfl
  rotate_left
  · simp only [Act.put, List.setIfInBounds_toArray, List.set_cons_zero, List.set_cons_succ, i64_w, i32_w]
    rfl
  refine take_ (i := 9) (N := some 14) (v := ?_) (a' := ?_) #[true, true, true, false, true, true, true, false, true, true, false, false, false] rfl rfl (take_ofW HT_.out HW_.out (by kernel_rfl)) (fun _ _ _ h => h) (Or.inl ⟨by rfl, ?_⟩) hHeld ?_ ?_
  rotate_left
  · rintro w' ⟨s0, s1, s2, s3⟩
    go_simp
    with_reducible rfl
  rotate_left
  · simp only [Act.put, List.setIfInBounds_toArray, List.set_cons_zero, List.set_cons_succ, i64_w, i32_w]
    rfl
  refine one_ (i := 3) (N := some 8) #[true, true, true, true, true, true, true, false, true, true, false, false, false] rfl rfl (one_of HT_.out (by kernel_rfl)) (by decide) (fun K hK => ?_)
  refine goes_ Try.func92 (by kernel_rfl) rfl #[.slice A0_0 l0_0.length c0_0, .string a1] (by rfl) rfl rfl (by (try simp only [List.map_toArray, List.map_cons, List.map_nil]); rfl) ?_
  with_reducible refine (spec_l13Without.calls k _ _ l0_0 a1 t715 _ ?side1 ?side2 A3.out).mono ?_
  (case side1 => repeat (exact (Kd.C_below HR0_0.out HB.out)))
  (case side2 => exact HC0_0.out)
  rintro e w9 ⟨v716, rfl, ho0, hb⟩
  refine ⟨_, rfl, ?_⟩
  have n0_ := Aside0.mk (Kd.R_lower ho0 (below_size (by repeat ((with_reducible exact HB.out)))))
  have n1_ := Aside0.mk (blk_below (g := gb713) (o := .cells #[.slice A0_0 l0_0.length c0_0, .slice A0_1 l0_1.length c0_1, .slice A0_2 l0_2.length c0_2, .int .i64 a0_3] 43 (0, 0)) (by (with_reducible repeat (first | refine blk_drewN ?_ _ | refine blk_drew ?_ | refine blk_alloc ?_ _ )); exact BK713.out) hb)
  have n2_ := Aside0.mk (blk_below (g := gb714) (o := .cells #[.slice none 0 0, .slice none 0 0, .slice none 0 0, .int .i64 0] 43 (0, 0)) (by (with_reducible repeat (first | refine blk_drewN ?_ _ | refine blk_drew ?_ | refine blk_alloc ?_ _ )); exact BK714.out) hb)
  have n3_ := Aside0.mk (below_step (by repeat ((with_reducible exact HB.out))) hb)
  clear BK713
  clear BK714
  clear HB
  have HO717 := n0_
  have BK713 := n1_
  have BK714 := n2_
  have HB := n3_
  clear n0_ n1_ n2_ n3_
  (try clear hb)
  (try clear hb2)
  (try clear hk)
  (try clear hi)
  (try clear ho0)
  refine hK.out _ _ ⟨(blk_cell BK713.out 0).trans rfl, (blk_cell BK713.out 1).trans rfl, (blk_cell BK713.out 2).trans rfl, (blk_cell BK713.out 3).trans rfl⟩ (fun hHeld => ?_)
  clear hK K
  refine norm_ (a' := ?_) ?_ ?_
  rotate_left
  · show Act.put _ (some 8) _ = _
    simp only [Act.put, List.setIfInBounds_toArray, List.set_cons_zero, List.set_cons_succ, i64_w, i32_w]
    rfl
  refine one_ (i := 7) (N := some 12) #[true, true, true, true, true, true, true, true, true, true, false, false, false] rfl rfl (one_of HT_.out (by kernel_rfl)) (by decide) (fun K hK => ?_)
  refine goes_ Try.func92 (by kernel_rfl) rfl #[.slice A0_1 l0_1.length c0_1, .string a1] (by rfl) rfl rfl (by (try simp only [List.map_toArray, List.map_cons, List.map_nil]); rfl) ?_
  with_reducible refine (spec_l13Without.calls k _ _ l0_1 a1 t718 _ ?side1 ?side2 A4.out).mono ?_
  (case side1 => repeat (exact (Kd.C_below HR0_1.out HB.out)))
  (case side2 => exact HC0_1.out)
  rintro e w10 ⟨v719, rfl, ho0, hb⟩
  refine ⟨_, rfl, ?_⟩
  have n0_ := Aside0.mk (Kd.R_elder' (by (with_reducible repeat (first | apply Kd.R_alloc | apply Kd.R_drewN | apply Kd.R_drew )); exact HO717.out) (Kd.R_base ho0) hb)
  have n1_ := Aside0.mk (Kd.R_lower (Kd.R_new' ho0 (Kd.R_lt (by (with_reducible repeat (first | apply Kd.R_alloc | apply Kd.R_drewN | apply Kd.R_drew )); exact HO717.out))) (below_size (by repeat ((with_reducible exact HB.out)))))
  have n2_ := Aside0.mk (blk_below (g := gb713) (o := .cells #[.slice A0_0 l0_0.length c0_0, .slice A0_1 l0_1.length c0_1, .slice A0_2 l0_2.length c0_2, .int .i64 a0_3] 43 (0, 0)) (by (with_reducible repeat (first | refine blk_drewN ?_ _ | refine blk_drew ?_ | refine blk_alloc ?_ _ )); exact BK713.out) hb)
  have n3_ := Aside0.mk (blk_below (g := gb714) (o := .cells #[.slice none 0 0, .slice none 0 0, .slice none 0 0, .int .i64 0] 43 (0, 0)) (by (with_reducible repeat (first | refine blk_drewN ?_ _ | refine blk_drew ?_ | refine blk_alloc ?_ _ )); exact BK714.out) hb)
  have n4_ := Aside0.mk (below_step (by repeat ((with_reducible exact HB.out))) hb)
  clear HO717
  clear BK713
  clear BK714
  clear HB
  have HO717 := n0_
  have HO720 := n1_
  have BK713 := n2_
  have BK714 := n3_
  have HB := n4_
  clear n0_ n1_ n2_ n3_ n4_
  (try clear hb)
  (try clear hb2)
  (try clear hk)
  (try clear hi)
  (try clear ho0)
  refine hK.out _ _ ⟨(blk_cell BK713.out 0).trans rfl, (blk_cell BK713.out 1).trans rfl, (blk_cell BK713.out 2).trans rfl, (blk_cell BK713.out 3).trans rfl⟩ (fun hHeld => ?_)
  clear hK K
  refine norm_ (a' := ?_) ?_ ?_
  rotate_left
  · show Act.put _ (some 12) _ = _
    simp only [Act.put, List.setIfInBounds_toArray, List.set_cons_zero, List.set_cons_succ, i64_w, i32_w]
    rfl
  refine one_ (i := 10) (N := some 15) #[true, true, true, true, true, true, true, true, true, true, true, false, false] rfl rfl (one_of HT_.out (by kernel_rfl)) (by decide) (fun K hK => ?_)
  refine goes_ Try.func82 (by kernel_rfl) rfl #[.agg #[.slice A0_2 l0_2.length c0_2, .int .i64 a0_3]] (by rfl) rfl rfl (by (try simp only [List.map_toArray, List.map_cons, List.map_nil]); rfl) ?_
  with_reducible refine (spec_l12Copy.calls k _ _ l0_2 a0_3 t721 t724 _ ?side1 ?side2 A5.out).mono ?_
  (case side1 => repeat (exact (Kd.C_below HR0_2.out HB.out)))
  (case side2 => exact HC0_2.out)
  rintro e w11 ⟨v722, rfl, ho0, hb⟩
  refine ⟨_, rfl, ?_⟩
  have n0_ := Aside0.mk (Kd.R_below (by (with_reducible repeat (first | apply Kd.R_alloc | apply Kd.R_drewN | apply Kd.R_drew )); exact HO717.out) hb)
  have n1_ := Aside0.mk (Kd.R_below (by (with_reducible repeat (first | apply Kd.R_alloc | apply Kd.R_drewN | apply Kd.R_drew )); exact HO720.out) hb)
  have n2_ := Aside0.mk (Kd.S_lower ho0 (below_size (by repeat ((with_reducible exact HB.out)))))
  have n3_ := Aside0.mk (blk_below (g := gb713) (o := .cells #[.slice A0_0 l0_0.length c0_0, .slice A0_1 l0_1.length c0_1, .slice A0_2 l0_2.length c0_2, .int .i64 a0_3] 43 (0, 0)) (by (with_reducible repeat (first | refine blk_drewN ?_ _ | refine blk_drew ?_ | refine blk_alloc ?_ _ )); exact BK713.out) hb)
  have n4_ := Aside0.mk (blk_below (g := gb714) (o := .cells #[.slice none 0 0, .slice none 0 0, .slice none 0 0, .int .i64 0] 43 (0, 0)) (by (with_reducible repeat (first | refine blk_drewN ?_ _ | refine blk_drew ?_ | refine blk_alloc ?_ _ )); exact BK714.out) hb)
  have n5_ := Aside0.mk (below_step (by repeat ((with_reducible exact HB.out))) hb)
  clear HO717
  clear HO720
  clear BK713
  clear BK714
  clear HB
  have HO717 := n0_
  have HO720 := n1_
  have HO723 := n2_
  have BK713 := n3_
  have BK714 := n4_
  have HB := n5_
  clear n0_ n1_ n2_ n3_ n4_ n5_
  (try clear hb)
  (try clear hb2)
  (try clear hk)
  (try clear hi)
  (try clear ho0)
  obtain ⟨Ao12, co12, eo12⟩ := Kd.S_slice HO723.out
  (subst eo12)
  obtain ⟨Ao13, co13, eo13⟩ := Kd.R_slice HO720.out
  (subst eo13)
  obtain ⟨Ao14, co14, eo14⟩ := Kd.R_slice HO717.out
  (subst eo14)
  refine hK.out _ _ ⟨(blk_cell BK713.out 0).trans rfl, (blk_cell BK713.out 1).trans rfl, (blk_cell BK713.out 2).trans rfl, (blk_cell BK713.out 3).trans rfl⟩ (fun hHeld => ?_)
  clear hK K
  refine norm_ (a' := ?_) ?_ ?_
  rotate_left
  · show Act.put _ (some 15) _ = _
    simp only [Act.put, List.setIfInBounds_toArray, List.set_cons_zero, List.set_cons_succ, i64_w, i32_w]
    rfl
  refine pure_ (i := 11) (N := some 16) (v := ?_) (a' := ?_) #[true, true, true, true, true, true, true, true, true, true, true, true, false] rfl rfl (any_of HT_.out (by kernel_rfl)) (fun _ _ _ h => h) (Or.inl ⟨by rfl, ?_⟩) ?_ ?_
  rotate_left
  · intro w'
    go_simp
    with_reducible rfl
  rotate_left
  · simp only [Act.put, List.setIfInBounds_toArray, List.set_cons_zero, List.set_cons_succ, i64_w, i32_w]
    rfl
  refine one_ (i := 12) (N := none) #[true, true, true, true, true, true, true, true, true, true, true, true, true] rfl rfl (one_of HT_.out (by kernel_rfl)) (by decide) (fun K hK => ?_)
  have hs15 : w11.cell? ⟨gb714, 0, none⟩ = some (.slice none 0 0) := (blk_cell BK714.out 0).trans rfl
  have hfs15 := blk_frozen BK714.out 0
  have hns15_0 := NB713_714.out
  have hms15_0 := NB714_713.out
  have hs16 : w11.cell? ⟨gb714, 1, none⟩ = some (.slice none 0 0) := (blk_cell BK714.out 1).trans rfl
  have hfs16 := blk_frozen BK714.out 1
  have hns16_0 := NB713_714.out
  have hms16_0 := NB714_713.out
  have hs17 : w11.cell? ⟨gb714, 2, none⟩ = some (.slice none 0 0) := (blk_cell BK714.out 2).trans rfl
  have hfs17 := blk_frozen BK714.out 2
  have hns17_0 := NB713_714.out
  have hms17_0 := NB714_713.out
  have hs18 : w11.cell? ⟨gb714, 3, none⟩ = some (.int .i64 0) := (blk_cell BK714.out 3).trans rfl
  have hfs18 := blk_frozen BK714.out 3
  have hns18_0 := NB713_714.out
  have hms18_0 := NB714_713.out
  refine skip_ (w1 := ?_) (by rfl) rfl ?_ ?_
  rotate_left
  · go_simp
    rfl
  refine hK.out _ _ ⟨((cell_far (p := ⟨gb714, _, none⟩) NB713_714.out _).trans (((cell_far (p := ⟨gb714, _, none⟩) NB713_714.out _).trans (((cell_far (p := ⟨gb714, _, none⟩) NB713_714.out _).trans (((cell_far (p := ⟨gb714, _, none⟩) NB713_714.out _).trans (hHeld.1)))))))), ((cell_far (p := ⟨gb714, _, none⟩) NB713_714.out _).trans (((cell_far (p := ⟨gb714, _, none⟩) NB713_714.out _).trans (((cell_far (p := ⟨gb714, _, none⟩) NB713_714.out _).trans (((cell_far (p := ⟨gb714, _, none⟩) NB713_714.out _).trans (hHeld.2.1)))))))), ((cell_far (p := ⟨gb714, _, none⟩) NB713_714.out _).trans (((cell_far (p := ⟨gb714, _, none⟩) NB713_714.out _).trans (((cell_far (p := ⟨gb714, _, none⟩) NB713_714.out _).trans (((cell_far (p := ⟨gb714, _, none⟩) NB713_714.out _).trans (hHeld.2.2.1)))))))), ((cell_far (p := ⟨gb714, _, none⟩) NB713_714.out _).trans (((cell_far (p := ⟨gb714, _, none⟩) NB713_714.out _).trans (((cell_far (p := ⟨gb714, _, none⟩) NB713_714.out _).trans (((cell_far (p := ⟨gb714, _, none⟩) NB713_714.out _).trans (hHeld.2.2.2))))))))⟩ (fun hHeld => ?_)
  clear hK K
  refine done_ (done_of HT_.out (by kernel_rfl)) ?_
  go_wp2
  refine bodyPost_ret (results_cell_row rfl _ _ gb714 43 #[.slice Ao14 t715.length co14, .slice Ao13 t718.length co13, .slice Ao12 t721.length co12, .int .i64 t724] (0, 0) _ rfl (by (with_reducible repeat (first | refine blk_drewN ?_ _ | refine blk_drew ?_ | refine blk_alloc ?_ _ )); refine blk_put (cs := #[.slice Ao14 t715.length co14, .slice Ao13 t718.length co13, .slice Ao12 t721.length co12, .int .i64 0]) ?_ 3 _ rfl; (with_reducible repeat (first | refine blk_drewN ?_ _ | refine blk_drew ?_ | refine blk_alloc ?_ _ )); refine blk_put (cs := #[.slice Ao14 t715.length co14, .slice Ao13 t718.length co13, .slice none 0 0, .int .i64 0]) ?_ 2 _ rfl; (with_reducible repeat (first | refine blk_drewN ?_ _ | refine blk_drew ?_ | refine blk_alloc ?_ _ )); refine blk_put (cs := #[.slice Ao14 t715.length co14, .slice none 0 0, .slice none 0 0, .int .i64 0]) ?_ 1 _ rfl; (with_reducible repeat (first | refine blk_drewN ?_ _ | refine blk_drew ?_ | refine blk_alloc ?_ _ )); refine blk_put (cs := #[.slice none 0 0, .slice none 0 0, .slice none 0 0, .int .i64 0]) ?_ 0 _ rfl; (with_reducible repeat (first | refine blk_drewN ?_ _ | refine blk_drew ?_ | refine blk_alloc ?_ _ )); exact BK714.out) Try.underlying43 rfl (by kernel_rfl)) rfl ?_
  exact ⟨_, _, _, by rfl, by (with_reducible repeat (first | apply Kd.R_alloc | apply Kd.R_drewN | apply Kd.R_drew )); exact Kd.R_mono (Kd.R_far (p := ⟨gb714, 3, none⟩) (Kd.R_far (p := ⟨gb714, 2, none⟩) (Kd.R_far (p := ⟨gb714, 1, none⟩) (Kd.R_far (p := ⟨gb714, 0, none⟩) (Kd.R_types HO717.out BK714.out (by decide)) (fun _ hk => hk.2) (.slice Ao14 t715.length co14)) (fun _ hk => hk.2) (.slice Ao13 t718.length co13)) (fun _ hk => hk.2) (.slice Ao12 t721.length co12)) (fun _ hk => hk.2) (.int .i64 t724)) (fun _ hk => hk.1.2), by (with_reducible repeat (first | apply Kd.R_alloc | apply Kd.R_drewN | apply Kd.R_drew )); exact Kd.R_mono (Kd.R_far (p := ⟨gb714, 3, none⟩) (Kd.R_far (p := ⟨gb714, 2, none⟩) (Kd.R_far (p := ⟨gb714, 1, none⟩) (Kd.R_far (p := ⟨gb714, 0, none⟩) (Kd.R_types HO720.out BK714.out (by decide)) (fun _ hk => hk.2) (.slice Ao14 t715.length co14)) (fun _ hk => hk.2) (.slice Ao13 t718.length co13)) (fun _ hk => hk.2) (.slice Ao12 t721.length co12)) (fun _ hk => hk.2) (.int .i64 t724)) (fun _ hk => hk.1.2), by (with_reducible repeat (first | apply Kd.S_alloc | apply Kd.S_drewN | apply Kd.S_drew )); exact Kd.S_mono (Kd.S_far (p := ⟨gb714, 3, none⟩) (Kd.S_far (p := ⟨gb714, 2, none⟩) (Kd.S_far (p := ⟨gb714, 1, none⟩) (Kd.S_far (p := ⟨gb714, 0, none⟩) (Kd.S_types HO723.out BK714.out (by decide)) (fun _ hk => hk.2) (.slice Ao14 t715.length co14)) (fun _ hk => hk.2) (.slice Ao13 t718.length co13)) (fun _ hk => hk.2) (.slice Ao12 t721.length co12)) (fun _ hk => hk.2) (.int .i64 t724)) (fun _ hk => trivial), by repeat ((with_reducible first | exact HB.out | refine below_set ?_ GE714.out))⟩
def impl_PolicyDrop.f (k : Nat) (l0_0 : List ByteArray) (l0_1 : List ByteArray) (l0_2 : List (List Int)) (a0_3 : Int) (a1 : ByteArray) : Option (List ByteArray × List ByteArray × (List (List Int)) × Int) := (impl_copyPolicy.f k l0_0 l0_1 l0_2 a0_3).bind fun bt727 => ((impl_withoutKey.f l0_0 a1).bind fun t738 => ((impl_withoutKey.f l0_1 a1).bind fun t741 => (some (t738, t741, bt727.2.2.1, bt727.2.2.2))))
def impl_PolicyDrop.T2 : Bool × List (List Nat × List Nat) := (true, [([], []), ([0], [0]), ([], []), ([1, 2], [1, 2]), ([], []), ([4], [4]), ([], []), ([5, 6, 3], [5, 6]), ([0, 1, 2, 3], []), ([8, 3, 7, 0, 1, 2, 3], [3, 8]), ([0, 1, 2, 3, 4, 5, 6, 7, 8, 9], []), ([10, 7, 9, 0, 1, 2, 3, 4, 5, 6, 7, 8, 9], [7, 10])])
def impl_PolicyDrop.B2 : List Nat := [0, 1, 0, 7, 0, 16, 0, 127, 15, 511, 1023, 2047]
theorem impl_PolicyDrop.tab2 : rtab .any (opsOf Try.f53 2) = impl_PolicyDrop.T2 := by kernel_rfl
theorem impl_PolicyDrop.bits2 : waitsOk impl_PolicyDrop.T2.2 impl_PolicyDrop.B2 = true := by kernel_rfl
set_option maxHeartbeats 8000000 in
set_option maxRecDepth 100000 in
theorem impl_PolicyDrop.calls (k : Nat) (A0_0 : Option Addr) (c0_0 : Nat) (l0_0 : List ByteArray) (A0_1 : Option Addr) (c0_1 : Nat) (l0_1 : List ByteArray) (A0_2 : Option Addr) (c0_2 : Nat) (l0_2 : List (List Int)) (a0_3 : Int) (a1 : ByteArray) (r1 : List ByteArray) (r2 : List ByteArray) (r3 : List (List Int)) (r4 : Int) (w : World) (hr0_0 : Kd.C Kd.string w A0_0 l0_0.length l0_0) (hc0_0 : l0_0.length ≤ c0_0) (hr0_1 : Kd.C Kd.string w A0_1 l0_1.length l0_1) (hc0_1 : l0_1.length ≤ c0_1) (hr0_2 : Kd.C (Kd.slice 3 (Kd.int .i64)) w A0_2 l0_2.length l0_2) (hc0_2 : l0_2.length ≤ c0_2) (h : impl_PolicyDrop.f k l0_0 l0_1 l0_2 a0_3 a1 = some (r1, r2, r3, r4)) :
    Calls Try.prog 53 #[.agg #[.slice A0_0 l0_0.length c0_0, .slice A0_1 l0_1.length c0_1, .slice A0_2 l0_2.length c0_2, .int .i64 a0_3], .string a1] w fun e w' => ∃ v0_ v1_ v2_ : Value, e = .returned (.agg #[v0_, v1_, v2_, .int .i64 r4]) ∧ Kd.R Kd.string 9 w' w.heap.size (fun k_ => some k_ ≠ (v1_ : Value).ownBlock) v0_ r1 ∧ Kd.R Kd.string 9 w' w.heap.size (fun k_ => some k_ ≠ (v0_ : Value).ownBlock) v1_ r2 ∧ Kd.S (Kd.slice 3 (Kd.int .i64)) 58 w' w.heap.size (fun _ => True) v2_ r3 ∧ Below w.heap.size w w' := by
  have hu43 := Try.underlying43
  have HR0_0 := Aside0.mk hr0_0
  have HC0_0 := Aside0.mk hc0_0
  clear hr0_0 hc0_0
  have HR0_1 := Aside0.mk hr0_1
  have HC0_1 := Aside0.mk hc0_1
  clear hr0_1 hc0_1
  have HR0_2 := Aside0.mk hr0_2
  have HC0_2 := Aside0.mk hc0_2
  clear hr0_2 hc0_2
  have HB := Aside0.mk (Below.refl w.heap.size w)
  have H : ((impl_copyPolicy.f k l0_0 l0_1 l0_2 a0_3).bind fun bt727 => ((impl_withoutKey.f l0_0 a1).bind fun t738 => ((impl_withoutKey.f l0_1 a1).bind fun t741 => (some (t738, t741, bt727.2.2.1, bt727.2.2.2))))) = some (r1, r2, r3, r4) := h
  clear h
  replace H := Option.bind_eq_some_iff.mp H
  obtain ⟨⟨t727, t730, t733, t736⟩, A30, H⟩ := H
  replace H : ((impl_withoutKey.f l0_0 a1).bind fun t738 => ((impl_withoutKey.f l0_1 a1).bind fun t741 => (some (t738, t741, t733, t736)))) = some (r1, r2, r3, r4) := H
  have A3 := Aside0.mk A30
  clear A30
  replace H := Option.bind_eq_some_iff.mp H
  obtain ⟨t738, A40, H⟩ := H
  replace H : ((impl_withoutKey.f l0_1 a1).bind fun t741 => (some (t738, t741, t733, t736))) = some (r1, r2, r3, r4) := H
  have A4 := Aside0.mk A40
  clear A40
  replace H := Option.bind_eq_some_iff.mp H
  obtain ⟨t741, A50, H⟩ := H
  replace H : (some (t738, t741, t733, t736)) = some (r1, r2, r3, r4) := H
  have A5 := Aside0.mk A50
  clear A50
  simp only [Option.some.injEq, Prod.mk.injEq] at H
  obtain ⟨rfl, rfl, rfl, rfl⟩ := H
  go_enter Try.func53, Try.ntmps53
  go_wp2_with (first | ((with_reducible refine gate_dst (N := 2) rfl ?_); refine box_event ?hg (N := 2) ?hd (cs := #[.slice A0_0 l0_0.length c0_0, .slice A0_1 l0_1.length c0_1, .slice A0_2 l0_2.length c0_2, .int .i64 a0_3]) (t := 43) ?hr ?_; (case hd => rfl); (case hg => rfl); (case hr => (go_simp; done)); intro gb725 hg w6 hbox hb; have n0_ := Aside0.mk (below_step (by repeat ((with_reducible exact HB.out))) hb); have n1_ := Aside0.mk (hbox); have n2_ := Aside0.mk ((by rw [hg]; exact (below_size (by repeat ((with_reducible exact HB.out)))) : w.heap.size ≤ gb725)); have n3_ := Aside0.mk ((by rw [hg]; exact (below_size (by repeat ((with_reducible exact HB.out)))) : w.heap.size ≤ gb725)); clear HB; have HB := n0_; have BK725 := n1_; have GW725 := n2_; have GE725 := n3_; clear n0_ n1_ n2_ n3_; clear hb hbox hg) | ((with_reducible refine gate_dst (N := 4) rfl ?_); refine box_event ?hg (N := 4) ?hd (cs := #[.slice none 0 0, .slice none 0 0, .slice none 0 0, .int .i64 0]) (t := 43) ?hr ?_; (case hd => rfl); (case hg => rfl); (case hr => (go_simp; done)); intro gb726 hg w7 hbox hb; have n0_ := Aside0.mk (blk_below (g := gb725) (o := .cells #[.slice A0_0 l0_0.length c0_0, .slice A0_1 l0_1.length c0_1, .slice A0_2 l0_2.length c0_2, .int .i64 a0_3] 43 (0, 0)) (by (with_reducible repeat (first | refine blk_drewN ?_ _ | refine blk_drew ?_ | refine blk_alloc ?_ _ )); exact BK725.out) hb); have n1_ := Aside0.mk (below_step (by repeat ((with_reducible exact HB.out))) hb); have n2_ := Aside0.mk (hbox); have n3_ := Aside0.mk ((by rw [hg]; exact (below_size (by repeat ((with_reducible exact HB.out)))) : w.heap.size ≤ gb726)); have n4_ := Aside0.mk ((by rw [hg]; exact (below_size (by repeat ((with_reducible exact HB.out)))) : w.heap.size ≤ gb726)); have n5_ := Aside0.mk ((by rw [hg]; exact Nat.ne_of_lt (blk_lt (g := gb725) (o := .cells #[.slice A0_0 l0_0.length c0_0, .slice A0_1 l0_1.length c0_1, .slice A0_2 l0_2.length c0_2, .int .i64 a0_3] 43 (0, 0)) (by (with_reducible repeat (first | refine blk_drewN ?_ _ | refine blk_drew ?_ | refine blk_alloc ?_ _ )); exact BK725.out)) : gb725 ≠ gb726)); have n6_ := Aside0.mk ((by rw [hg]; exact Nat.ne_of_gt (blk_lt (g := gb725) (o := .cells #[.slice A0_0 l0_0.length c0_0, .slice A0_1 l0_1.length c0_1, .slice A0_2 l0_2.length c0_2, .int .i64 a0_3] 43 (0, 0)) (by (with_reducible repeat (first | refine blk_drewN ?_ _ | refine blk_drew ?_ | refine blk_alloc ?_ _ )); exact BK725.out)) : gb726 ≠ gb725)); clear BK725; clear HB; have BK725 := n0_; have HB := n1_; have BK726 := n2_; have GW726 := n3_; have GE726 := n4_; have NB725_726 := n5_; have NB726_725 := n6_; clear n0_ n1_ n2_ n3_ n4_ n5_ n6_; clear hb hbox hg; have hnb8 := NB725_726.out; have hnc8 := NB726_725.out; have hcz9_0 : w7.cell? ⟨gb725, 0, none⟩ = some (.slice A0_0 l0_0.length c0_0) := (blk_cell BK725.out 0).trans rfl; have hcz9_1 : w7.cell? ⟨gb725, 1, none⟩ = some (.slice A0_1 l0_1.length c0_1) := (blk_cell BK725.out 1).trans rfl; have hcz9_2 : w7.cell? ⟨gb725, 2, none⟩ = some (.slice A0_2 l0_2.length c0_2) := (blk_cell BK725.out 2).trans rfl; have hcz9_3 : w7.cell? ⟨gb725, 3, none⟩ = some (.int .i64 a0_3) := (blk_cell BK725.out 3).trans rfl; have hfz9_0 := blk_frozen BK725.out 0; have hfz9_1 := blk_frozen BK725.out 1; have hfz9_2 := blk_frozen BK725.out 2; have hfz9_3 := blk_frozen BK725.out 3) | ((with_reducible refine gate_callee (f := 83) rfl ?_); refine goesL_ (some 7) rfl rfl Try.func83 (by kernel_rfl) rfl #[.agg #[.slice A0_0 l0_0.length c0_0, .slice A0_1 l0_1.length c0_1, .slice A0_2 l0_2.length c0_2, .int .i64 a0_3]] rfl (by (try simp only [List.map_toArray, List.map_cons, List.map_nil]); rfl) ?_; (with_reducible refine (impl_copyPolicy.calls k _ _ l0_0 _ _ l0_1 _ _ l0_2 a0_3 t727 t730 t733 t736 _ ?side1 ?side2 ?side3 ?side4 ?side5 ?side6 A3.out).mono ?_); (case side1 => repeat (exact (Kd.C_below HR0_0.out HB.out))); (case side2 => exact HC0_0.out); (case side3 => repeat (exact (Kd.C_below HR0_1.out HB.out))); (case side4 => exact HC0_1.out); (case side5 => repeat (exact (Kd.C_below HR0_2.out HB.out))); (case side6 => exact HC0_2.out); rintro e w10 ⟨v728, v731, v734, rfl, ho0, ho1, ho2, hb⟩; refine ⟨_, rfl, ?_⟩; have n0_ := Aside0.mk (Kd.R_lower ho0 (below_size (by repeat ((with_reducible exact HB.out))))); have n1_ := Aside0.mk (Kd.R_lower ho1 (below_size (by repeat ((with_reducible exact HB.out))))); have n2_ := Aside0.mk (Kd.S_lower ho2 (below_size (by repeat ((with_reducible exact HB.out))))); have n3_ := Aside0.mk (blk_below (g := gb725) (o := .cells #[.slice A0_0 l0_0.length c0_0, .slice A0_1 l0_1.length c0_1, .slice A0_2 l0_2.length c0_2, .int .i64 a0_3] 43 (0, 0)) (by (with_reducible repeat (first | refine blk_drewN ?_ _ | refine blk_drew ?_ | refine blk_alloc ?_ _ )); exact BK725.out) hb); have n4_ := Aside0.mk (blk_below (g := gb726) (o := .cells #[.slice none 0 0, .slice none 0 0, .slice none 0 0, .int .i64 0] 43 (0, 0)) (by (with_reducible repeat (first | refine blk_drewN ?_ _ | refine blk_drew ?_ | refine blk_alloc ?_ _ )); exact BK726.out) hb); have n5_ := Aside0.mk (below_step (by repeat ((with_reducible exact HB.out))) hb); clear BK725; clear BK726; clear HB; have HO729 := n0_; have HO732 := n1_; have HO735 := n2_; have BK725 := n3_; have BK726 := n4_; have HB := n5_; clear n0_ n1_ n2_ n3_ n4_ n5_; (try clear hb); (try clear hb2); (try clear hk); (try clear hi); (try clear ho0); (try clear ho1); (try clear ho2)) | ((with_reducible refine gate_dst (N := 5) rfl ?_); refine box_event ?hg (N := 5) ?hd (cs := #[.slice none 0 0, .slice none 0 0, .slice none 0 0, .int .i64 0]) (t := 43) ?hr ?_; (case hd => rfl); (case hg => rfl); (case hr => (go_simp; done)); intro gb737 hg w11 hbox hb; have n0_ := Aside0.mk (Kd.R_below (by (with_reducible repeat (first | apply Kd.R_alloc | apply Kd.R_drewN | apply Kd.R_drew )); exact HO729.out) hb); have n1_ := Aside0.mk (Kd.R_below (by (with_reducible repeat (first | apply Kd.R_alloc | apply Kd.R_drewN | apply Kd.R_drew )); exact HO732.out) hb); have n2_ := Aside0.mk (Kd.S_below (by (with_reducible repeat (first | apply Kd.S_alloc | apply Kd.S_drewN | apply Kd.S_drew )); exact HO735.out) hb); have n3_ := Aside0.mk (blk_below (g := gb725) (o := .cells #[.slice A0_0 l0_0.length c0_0, .slice A0_1 l0_1.length c0_1, .slice A0_2 l0_2.length c0_2, .int .i64 a0_3] 43 (0, 0)) (by (with_reducible repeat (first | refine blk_drewN ?_ _ | refine blk_drew ?_ | refine blk_alloc ?_ _ )); exact BK725.out) hb); have n4_ := Aside0.mk (blk_below (g := gb726) (o := .cells #[.slice none 0 0, .slice none 0 0, .slice none 0 0, .int .i64 0] 43 (0, 0)) (by (with_reducible repeat (first | refine blk_drewN ?_ _ | refine blk_drew ?_ | refine blk_alloc ?_ _ )); exact BK726.out) hb); have n5_ := Aside0.mk (below_step (by repeat ((with_reducible exact HB.out))) hb); have n6_ := Aside0.mk (hbox); have n7_ := Aside0.mk ((by rw [hg]; exact (below_size (by repeat ((with_reducible exact HB.out)))) : w.heap.size ≤ gb737)); have n8_ := Aside0.mk ((by rw [hg]; exact (below_size (by repeat ((with_reducible exact HB.out)))) : w.heap.size ≤ gb737)); have n9_ := Aside0.mk ((by rw [hg]; exact Nat.ne_of_lt (blk_lt (g := gb725) (o := .cells #[.slice A0_0 l0_0.length c0_0, .slice A0_1 l0_1.length c0_1, .slice A0_2 l0_2.length c0_2, .int .i64 a0_3] 43 (0, 0)) (by (with_reducible repeat (first | refine blk_drewN ?_ _ | refine blk_drew ?_ | refine blk_alloc ?_ _ )); exact BK725.out)) : gb725 ≠ gb737)); have n10_ := Aside0.mk ((by rw [hg]; exact Nat.ne_of_gt (blk_lt (g := gb725) (o := .cells #[.slice A0_0 l0_0.length c0_0, .slice A0_1 l0_1.length c0_1, .slice A0_2 l0_2.length c0_2, .int .i64 a0_3] 43 (0, 0)) (by (with_reducible repeat (first | refine blk_drewN ?_ _ | refine blk_drew ?_ | refine blk_alloc ?_ _ )); exact BK725.out)) : gb737 ≠ gb725)); have n11_ := Aside0.mk ((by rw [hg]; exact Nat.ne_of_lt (blk_lt (g := gb726) (o := .cells #[.slice none 0 0, .slice none 0 0, .slice none 0 0, .int .i64 0] 43 (0, 0)) (by (with_reducible repeat (first | refine blk_drewN ?_ _ | refine blk_drew ?_ | refine blk_alloc ?_ _ )); exact BK726.out)) : gb726 ≠ gb737)); have n12_ := Aside0.mk ((by rw [hg]; exact Nat.ne_of_gt (blk_lt (g := gb726) (o := .cells #[.slice none 0 0, .slice none 0 0, .slice none 0 0, .int .i64 0] 43 (0, 0)) (by (with_reducible repeat (first | refine blk_drewN ?_ _ | refine blk_drew ?_ | refine blk_alloc ?_ _ )); exact BK726.out)) : gb737 ≠ gb726)); clear HO729; clear HO732; clear HO735; clear BK725; clear BK726; clear HB; have HO729 := n0_; have HO732 := n1_; have HO735 := n2_; have BK725 := n3_; have BK726 := n4_; have HB := n5_; have BK737 := n6_; have GW737 := n7_; have GE737 := n8_; have NB725_737 := n9_; have NB737_725 := n10_; have NB726_737 := n11_; have NB737_726 := n12_; clear n0_ n1_ n2_ n3_ n4_ n5_ n6_ n7_ n8_ n9_ n10_ n11_ n12_; clear hb hbox hg; obtain ⟨Ao12, co12, eo12⟩ := Kd.R_slice HO729.out; subst eo12; have hnb13 := NB737_725.out; have hnc13 := NB725_737.out; have hnb14 := NB737_726.out; have hnc14 := NB726_737.out; have hcz15_0 : w11.cell? ⟨gb737, 0, none⟩ = some (.slice none 0 0) := (blk_cell BK737.out 0).trans rfl; have hcz15_1 : w11.cell? ⟨gb737, 1, none⟩ = some (.slice none 0 0) := (blk_cell BK737.out 1).trans rfl; have hcz15_2 : w11.cell? ⟨gb737, 2, none⟩ = some (.slice none 0 0) := (blk_cell BK737.out 2).trans rfl; have hcz15_3 : w11.cell? ⟨gb737, 3, none⟩ = some (.int .i64 0) := (blk_cell BK737.out 3).trans rfl; have hfz15_0 := blk_frozen BK737.out 0; have hfz15_1 := blk_frozen BK737.out 1; have hfz15_2 := blk_frozen BK737.out 2; have hfz15_3 := blk_frozen BK737.out 3; obtain ⟨Ao16, co16, eo16⟩ := Kd.R_slice HO732.out; subst eo16; obtain ⟨Ao17, co17, eo17⟩ := Kd.S_slice HO735.out; subst eo17))
  have n0_ : Aside0 (Kd.R Kd.string 9 ((((w11.setCell ⟨gb737, 0, none⟩ (.slice Ao12 t727.length co12)).setCell ⟨gb737, 1, none⟩ (.slice Ao16 t730.length co16)).setCell ⟨gb737, 2, none⟩ (.slice Ao17 t733.length co17)).setCell ⟨gb737, 3, none⟩ (.int .i64 t736)) w.heap.size (fun k_ => some k_ ≠ (.slice Ao16 t730.length co16 : Value).ownBlock) (.slice Ao12 t727.length co12) t727) := ⟨by (with_reducible repeat (first | apply Kd.R_alloc | apply Kd.R_drewN | apply Kd.R_drew )); exact Kd.R_mono (Kd.R_far (p := ⟨gb737, 3, none⟩) (Kd.R_far (p := ⟨gb737, 2, none⟩) (Kd.R_far (p := ⟨gb737, 1, none⟩) (Kd.R_far (p := ⟨gb737, 0, none⟩) (Kd.R_types HO729.out BK737.out (by decide)) (fun _ hk => hk.2) (.slice Ao12 t727.length co12)) (fun _ hk => hk.2) (.slice Ao16 t730.length co16)) (fun _ hk => hk.2) (.slice Ao17 t733.length co17)) (fun _ hk => hk.2) (.int .i64 t736)) (fun _ hk => hk.1)⟩
  have n1_ : Aside0 (Kd.R Kd.string 9 ((((w11.setCell ⟨gb737, 0, none⟩ (.slice Ao12 t727.length co12)).setCell ⟨gb737, 1, none⟩ (.slice Ao16 t730.length co16)).setCell ⟨gb737, 2, none⟩ (.slice Ao17 t733.length co17)).setCell ⟨gb737, 3, none⟩ (.int .i64 t736)) w.heap.size (fun k_ => some k_ ≠ (.slice Ao12 t727.length co12 : Value).ownBlock) (.slice Ao16 t730.length co16) t730) := ⟨by (with_reducible repeat (first | apply Kd.R_alloc | apply Kd.R_drewN | apply Kd.R_drew )); exact Kd.R_mono (Kd.R_far (p := ⟨gb737, 3, none⟩) (Kd.R_far (p := ⟨gb737, 2, none⟩) (Kd.R_far (p := ⟨gb737, 1, none⟩) (Kd.R_far (p := ⟨gb737, 0, none⟩) (Kd.R_types HO732.out BK737.out (by decide)) (fun _ hk => hk.2) (.slice Ao12 t727.length co12)) (fun _ hk => hk.2) (.slice Ao16 t730.length co16)) (fun _ hk => hk.2) (.slice Ao17 t733.length co17)) (fun _ hk => hk.2) (.int .i64 t736)) (fun _ hk => hk.1)⟩
  have n2_ : Aside0 (Kd.S (Kd.slice 3 (Kd.int .i64)) 58 ((((w11.setCell ⟨gb737, 0, none⟩ (.slice Ao12 t727.length co12)).setCell ⟨gb737, 1, none⟩ (.slice Ao16 t730.length co16)).setCell ⟨gb737, 2, none⟩ (.slice Ao17 t733.length co17)).setCell ⟨gb737, 3, none⟩ (.int .i64 t736)) w.heap.size (fun _ => True) (.slice Ao17 t733.length co17) t733) := ⟨by (with_reducible repeat (first | apply Kd.S_alloc | apply Kd.S_drewN | apply Kd.S_drew )); exact Kd.S_mono (Kd.S_far (p := ⟨gb737, 3, none⟩) (Kd.S_far (p := ⟨gb737, 2, none⟩) (Kd.S_far (p := ⟨gb737, 1, none⟩) (Kd.S_far (p := ⟨gb737, 0, none⟩) (Kd.S_types HO735.out BK737.out (by decide)) (fun _ hk => hk.2) (.slice Ao12 t727.length co12)) (fun _ hk => hk.2) (.slice Ao16 t730.length co16)) (fun _ hk => hk.2) (.slice Ao17 t733.length co17)) (fun _ hk => hk.2) (.int .i64 t736)) (fun _ hk => trivial)⟩
  have n3_ : Aside0 (((((w11.setCell ⟨gb737, 0, none⟩ (.slice Ao12 t727.length co12)).setCell ⟨gb737, 1, none⟩ (.slice Ao16 t730.length co16)).setCell ⟨gb737, 2, none⟩ (.slice Ao17 t733.length co17)).setCell ⟨gb737, 3, none⟩ (.int .i64 t736)).heap[gb725]? = some (.cells #[.slice A0_0 l0_0.length c0_0, .slice A0_1 l0_1.length c0_1, .slice A0_2 l0_2.length c0_2, .int .i64 a0_3] 43 (0, 0))) := ⟨by (with_reducible repeat (first | refine blk_drewN ?_ _ | refine blk_drew ?_ | refine blk_alloc ?_ _ )); refine blk_far ?_ NB725_737.out _; (with_reducible repeat (first | refine blk_drewN ?_ _ | refine blk_drew ?_ | refine blk_alloc ?_ _ )); refine blk_far ?_ NB725_737.out _; (with_reducible repeat (first | refine blk_drewN ?_ _ | refine blk_drew ?_ | refine blk_alloc ?_ _ )); refine blk_far ?_ NB725_737.out _; (with_reducible repeat (first | refine blk_drewN ?_ _ | refine blk_drew ?_ | refine blk_alloc ?_ _ )); refine blk_far ?_ NB725_737.out _; (with_reducible repeat (first | refine blk_drewN ?_ _ | refine blk_drew ?_ | refine blk_alloc ?_ _ )); exact BK725.out⟩
  have n4_ : Aside0 (((((w11.setCell ⟨gb737, 0, none⟩ (.slice Ao12 t727.length co12)).setCell ⟨gb737, 1, none⟩ (.slice Ao16 t730.length co16)).setCell ⟨gb737, 2, none⟩ (.slice Ao17 t733.length co17)).setCell ⟨gb737, 3, none⟩ (.int .i64 t736)).heap[gb726]? = some (.cells #[.slice none 0 0, .slice none 0 0, .slice none 0 0, .int .i64 0] 43 (0, 0))) := ⟨by (with_reducible repeat (first | refine blk_drewN ?_ _ | refine blk_drew ?_ | refine blk_alloc ?_ _ )); refine blk_far ?_ NB726_737.out _; (with_reducible repeat (first | refine blk_drewN ?_ _ | refine blk_drew ?_ | refine blk_alloc ?_ _ )); refine blk_far ?_ NB726_737.out _; (with_reducible repeat (first | refine blk_drewN ?_ _ | refine blk_drew ?_ | refine blk_alloc ?_ _ )); refine blk_far ?_ NB726_737.out _; (with_reducible repeat (first | refine blk_drewN ?_ _ | refine blk_drew ?_ | refine blk_alloc ?_ _ )); refine blk_far ?_ NB726_737.out _; (with_reducible repeat (first | refine blk_drewN ?_ _ | refine blk_drew ?_ | refine blk_alloc ?_ _ )); exact BK726.out⟩
  have n5_ : Aside0 (((((w11.setCell ⟨gb737, 0, none⟩ (.slice Ao12 t727.length co12)).setCell ⟨gb737, 1, none⟩ (.slice Ao16 t730.length co16)).setCell ⟨gb737, 2, none⟩ (.slice Ao17 t733.length co17)).setCell ⟨gb737, 3, none⟩ (.int .i64 t736)).heap[gb737]? = some (.cells #[.slice Ao12 t727.length co12, .slice Ao16 t730.length co16, .slice Ao17 t733.length co17, .int .i64 t736] 43 (0, 0))) := ⟨by (with_reducible repeat (first | refine blk_drewN ?_ _ | refine blk_drew ?_ | refine blk_alloc ?_ _ )); refine blk_put (cs := #[.slice Ao12 t727.length co12, .slice Ao16 t730.length co16, .slice Ao17 t733.length co17, .int .i64 0]) ?_ 3 _ rfl; (with_reducible repeat (first | refine blk_drewN ?_ _ | refine blk_drew ?_ | refine blk_alloc ?_ _ )); refine blk_put (cs := #[.slice Ao12 t727.length co12, .slice Ao16 t730.length co16, .slice none 0 0, .int .i64 0]) ?_ 2 _ rfl; (with_reducible repeat (first | refine blk_drewN ?_ _ | refine blk_drew ?_ | refine blk_alloc ?_ _ )); refine blk_put (cs := #[.slice Ao12 t727.length co12, .slice none 0 0, .slice none 0 0, .int .i64 0]) ?_ 1 _ rfl; (with_reducible repeat (first | refine blk_drewN ?_ _ | refine blk_drew ?_ | refine blk_alloc ?_ _ )); refine blk_put (cs := #[.slice none 0 0, .slice none 0 0, .slice none 0 0, .int .i64 0]) ?_ 0 _ rfl; (with_reducible repeat (first | refine blk_drewN ?_ _ | refine blk_drew ?_ | refine blk_alloc ?_ _ )); exact BK737.out⟩
  have n6_ : Aside0 (Below w.heap.size w ((((w11.setCell ⟨gb737, 0, none⟩ (.slice Ao12 t727.length co12)).setCell ⟨gb737, 1, none⟩ (.slice Ao16 t730.length co16)).setCell ⟨gb737, 2, none⟩ (.slice Ao17 t733.length co17)).setCell ⟨gb737, 3, none⟩ (.int .i64 t736))) := ⟨by repeat ((with_reducible first | exact HB.out | refine below_set ?_ GE737.out))⟩
  (try clear HO729)
  (try clear HO732)
  (try clear HO735)
  (try clear BK725)
  (try clear BK726)
  (try clear BK737)
  (try clear HB)
  generalize ((((w11.setCell ⟨gb737, 0, none⟩ (.slice Ao12 t727.length co12)).setCell ⟨gb737, 1, none⟩ (.slice Ao16 t730.length co16)).setCell ⟨gb737, 2, none⟩ (.slice Ao17 t733.length co17)).setCell ⟨gb737, 3, none⟩ (.int .i64 t736)) = w18 at n0_ n1_ n2_ n3_ n4_ n5_ n6_ ⊢
  have HO729 := n0_
  have HO732 := n1_
  have HO735 := n2_
  have BK725 := n3_
  have BK726 := n4_
  have BK737 := n5_
  have HB := n6_
  clear n0_ n1_ n2_ n3_ n4_ n5_ n6_
  have n0_ := Aside0.mk (Kd.R_drew HO729.out)
  have n1_ := Aside0.mk (Kd.R_drew HO732.out)
  have n2_ := Aside0.mk (Kd.S_drew HO735.out)
  have n3_ := Aside0.mk (blk_drew BK725.out)
  have n4_ := Aside0.mk (blk_drew BK726.out)
  have n5_ := Aside0.mk (blk_drew BK737.out)
  have n6_ := Aside0.mk (below_drew1 HB.out)
  clear HO729
  clear HO732
  clear HO735
  clear BK725
  clear BK726
  clear BK737
  clear HB
  have HO729 := n0_
  have HO732 := n1_
  have HO735 := n2_
  have BK725 := n3_
  have BK726 := n4_
  have BK737 := n5_
  have HB := n6_
  clear n0_ n1_ n2_ n3_ n4_ n5_ n6_
  refine start_ (n := 12) (S := fun w' => w'.cell? ⟨gb725, 0, none⟩ = some (.slice A0_0 l0_0.length c0_0) ∧ w'.cell? ⟨gb725, 1, none⟩ = some (.slice A0_1 l0_1.length c0_1) ∧ w'.cell? ⟨gb725, 2, none⟩ = some (.slice A0_2 l0_2.length c0_2) ∧ w'.cell? ⟨gb725, 3, none⟩ = some (.int .i64 a0_3)) (ds := []) #[false, false, false, false, false, false, false, false, false, false, false, false] (by kernel_rfl) rfl rfl ⟨(blk_cell BK725.out 0).trans rfl, (blk_cell BK725.out 1).trans rfl, (blk_cell BK725.out 2).trans rfl, (blk_cell BK725.out 3).trans rfl⟩ (fun hHeld => ?_); refine with_tabW impl_PolicyDrop.tab2 impl_PolicyDrop.bits2 (fun HT_ HW_ => ?_)
  generalize w18.drew = w19 at HO729 HO732 HO735 BK725 BK726 BK737 HB hHeld ⊢
  refine pure_ (i := 0) (N := some 8) (v := ?_) (a' := ?_) #[true, false, false, false, false, false, false, false, false, false, false, false] rfl rfl (any_of HT_.out (by kernel_rfl)) (fun _ _ _ h => h) (Or.inl ⟨by rfl, ?_⟩) ?_ ?_
  rotate_left
  · intro w'
    go_simp
    with_reducible rfl
  rotate_left
  · simp only [Act.put, List.setIfInBounds_toArray, List.set_cons_zero, List.set_cons_succ, i64_w, i32_w]
    rfl
  refine pure_ (i := 2) (N := some 10) (v := ?_) (a' := ?_) #[true, false, true, false, false, false, false, false, false, false, false, false] rfl rfl (any_of HT_.out (by kernel_rfl)) (fun _ _ _ h => h) (Or.inl ⟨by rfl, ?_⟩) ?_ ?_
  rotate_left
  · intro w'
    go_simp
    with_reducible rfl
  rotate_left
  · simp only [Act.put, List.setIfInBounds_toArray, List.set_cons_zero, List.set_cons_succ, i64_w, i32_w]
    rfl
  refine pure_ (i := 4) (N := some 12) (v := ?_) (a' := ?_) #[true, false, true, false, true, false, false, false, false, false, false, false] rfl rfl (any_of HT_.out (by kernel_rfl)) (fun _ _ _ h => h) (Or.inl ⟨by rfl, ?_⟩) ?_ ?_
  rotate_left
  · intro w'
    go_simp
    with_reducible rfl
  rotate_left
  · simp only [Act.put, List.setIfInBounds_toArray, List.set_cons_zero, List.set_cons_succ, i64_w, i32_w]
    rfl
  refine pure_ (i := 6) (N := some 14) (v := ?_) (a' := ?_) #[true, false, true, false, true, false, true, false, false, false, false, false] rfl rfl (any_of HT_.out (by kernel_rfl)) (fun _ _ _ h => h) (Or.inl ⟨by rfl, ?_⟩) ?_ ?_
  rotate_left
  · intro w'
    go_simp
    with_reducible rfl
  rotate_left
  · simp only [Act.put, List.setIfInBounds_toArray, List.set_cons_zero, List.set_cons_succ, i64_w, i32_w]
    rfl
  refine take_ (i := 1) (N := some 9) (v := ?_) (a' := ?_) #[true, true, true, false, true, false, true, false, false, false, false, false] rfl rfl (take_ofW HT_.out HW_.out (by kernel_rfl)) (fun _ _ _ h => h) (Or.inl ⟨by rfl, ?_⟩) hHeld ?_ ?_
  rotate_left
  · rintro w' ⟨s0, s1, s2, s3⟩
    go_simp
    with_reducible rfl
  rotate_left
  · simp only [Act.put, List.setIfInBounds_toArray, List.set_cons_zero, List.set_cons_succ, i64_w, i32_w]
    rfl
  refine take_ (i := 5) (N := some 13) (v := ?_) (a' := ?_) #[true, true, true, false, true, true, true, false, false, false, false, false] rfl rfl (take_ofW HT_.out HW_.out (by kernel_rfl)) (fun _ _ _ h => h) (Or.inl ⟨by rfl, ?_⟩) hHeld ?_ ?_
  rotate_left
  · rintro w' ⟨s0, s1, s2, s3⟩
    go_simp
    with_reducible rfl
  rotate_left
  · simp only [Act.put, List.setIfInBounds_toArray, List.set_cons_zero, List.set_cons_succ, i64_w, i32_w]
    rfl
  refine one_ (i := 3) (N := some 11) #[true, true, true, true, true, true, true, false, false, false, false, false] rfl rfl (one_of HT_.out (by kernel_rfl)) (by decide) (fun K hK => ?_)
  refine goes_ Try.func84 (by kernel_rfl) rfl #[.slice A0_0 l0_0.length c0_0, .string a1] (by rfl) rfl rfl (by (try simp only [List.map_toArray, List.map_cons, List.map_nil]); rfl) ?_
  with_reducible refine (impl_withoutKey.calls _ _ l0_0 a1 t738 _ ?side1 ?side2 A4.out).mono ?_
  (case side1 => repeat (exact (Kd.C_below HR0_0.out HB.out)))
  (case side2 => exact HC0_0.out)
  rintro e w20 ⟨v739, rfl, ho0, hb⟩
  refine ⟨_, rfl, ?_⟩
  have n0_ := Aside0.mk (Kd.R_elder' (by (with_reducible repeat (first | apply Kd.R_alloc | apply Kd.R_drewN | apply Kd.R_drew )); exact HO729.out) (Kd.R_base ho0) hb)
  have n1_ := Aside0.mk (Kd.R_elder' (by (with_reducible repeat (first | apply Kd.R_alloc | apply Kd.R_drewN | apply Kd.R_drew )); exact HO732.out) (Kd.R_base ho0) hb)
  have n2_ := Aside0.mk (Kd.S_below (by (with_reducible repeat (first | apply Kd.S_alloc | apply Kd.S_drewN | apply Kd.S_drew )); exact HO735.out) hb)
  have n3_ := Aside0.mk (Kd.R_lower (Kd.R_new' (Kd.R_new' ho0 (Kd.R_lt (by (with_reducible repeat (first | apply Kd.R_alloc | apply Kd.R_drewN | apply Kd.R_drew )); exact HO729.out))) (Kd.R_lt (by (with_reducible repeat (first | apply Kd.R_alloc | apply Kd.R_drewN | apply Kd.R_drew )); exact HO732.out))) (below_size (by repeat ((with_reducible exact HB.out)))))
  have n4_ := Aside0.mk (blk_below (g := gb725) (o := .cells #[.slice A0_0 l0_0.length c0_0, .slice A0_1 l0_1.length c0_1, .slice A0_2 l0_2.length c0_2, .int .i64 a0_3] 43 (0, 0)) (by (with_reducible repeat (first | refine blk_drewN ?_ _ | refine blk_drew ?_ | refine blk_alloc ?_ _ )); exact BK725.out) hb)
  have n5_ := Aside0.mk (blk_below (g := gb726) (o := .cells #[.slice none 0 0, .slice none 0 0, .slice none 0 0, .int .i64 0] 43 (0, 0)) (by (with_reducible repeat (first | refine blk_drewN ?_ _ | refine blk_drew ?_ | refine blk_alloc ?_ _ )); exact BK726.out) hb)
  have n6_ := Aside0.mk (blk_below (g := gb737) (o := .cells #[.slice Ao12 t727.length co12, .slice Ao16 t730.length co16, .slice Ao17 t733.length co17, .int .i64 t736] 43 (0, 0)) (by (with_reducible repeat (first | refine blk_drewN ?_ _ | refine blk_drew ?_ | refine blk_alloc ?_ _ )); exact BK737.out) hb)
  have n7_ := Aside0.mk (below_step (by repeat ((with_reducible exact HB.out))) hb)
  clear HO729
  clear HO732
  clear HO735
  clear BK725
  clear BK726
  clear BK737
  clear HB
  have HO729 := n0_
  have HO732 := n1_
  have HO735 := n2_
  have HO740 := n3_
  have BK725 := n4_
  have BK726 := n5_
  have BK737 := n6_
  have HB := n7_
  clear n0_ n1_ n2_ n3_ n4_ n5_ n6_ n7_
  (try clear hb)
  (try clear hb2)
  (try clear hk)
  (try clear hi)
  (try clear ho0)
  refine hK.out _ _ ⟨(blk_cell BK725.out 0).trans rfl, (blk_cell BK725.out 1).trans rfl, (blk_cell BK725.out 2).trans rfl, (blk_cell BK725.out 3).trans rfl⟩ (fun hHeld => ?_)
  clear hK K
  refine norm_ (a' := ?_) ?_ ?_
  rotate_left
  · show Act.put _ (some 11) _ = _
    simp only [Act.put, List.setIfInBounds_toArray, List.set_cons_zero, List.set_cons_succ, i64_w, i32_w]
    rfl
  refine pure_ (i := 8) (N := some 16) (v := ?_) (a' := ?_) #[true, true, true, true, true, true, true, false, true, false, false, false] rfl rfl (any_of HT_.out (by kernel_rfl)) (fun _ _ _ h => h) (Or.inl ⟨by rfl, ?_⟩) ?_ ?_
  rotate_left
  · intro w'
    go_simp
    with_reducible rfl
  rotate_left
  · simp only [Act.put, List.setIfInBounds_toArray, List.set_cons_zero, List.set_cons_succ, i64_w, i32_w]
    rfl
  refine one_ (i := 7) (N := some 15) #[true, true, true, true, true, true, true, true, true, false, false, false] rfl rfl (one_of HT_.out (by kernel_rfl)) (by decide) (fun K hK => ?_)
  refine goes_ Try.func84 (by kernel_rfl) rfl #[.slice A0_1 l0_1.length c0_1, .string a1] (by rfl) rfl rfl (by (try simp only [List.map_toArray, List.map_cons, List.map_nil]); rfl) ?_
  with_reducible refine (impl_withoutKey.calls _ _ l0_1 a1 t741 _ ?side1 ?side2 A5.out).mono ?_
  (case side1 => repeat (exact (Kd.C_below HR0_1.out HB.out)))
  (case side2 => exact HC0_1.out)
  rintro e w21 ⟨v742, rfl, ho0, hb⟩
  refine ⟨_, rfl, ?_⟩
  have n0_ := Aside0.mk (Kd.R_elder' (by (with_reducible repeat (first | apply Kd.R_alloc | apply Kd.R_drewN | apply Kd.R_drew )); exact HO729.out) (Kd.R_base ho0) hb)
  have n1_ := Aside0.mk (Kd.R_elder' (by (with_reducible repeat (first | apply Kd.R_alloc | apply Kd.R_drewN | apply Kd.R_drew )); exact HO732.out) (Kd.R_base ho0) hb)
  have n2_ := Aside0.mk (Kd.S_below (by (with_reducible repeat (first | apply Kd.S_alloc | apply Kd.S_drewN | apply Kd.S_drew )); exact HO735.out) hb)
  have n3_ := Aside0.mk (Kd.R_elder' (by (with_reducible repeat (first | apply Kd.R_alloc | apply Kd.R_drewN | apply Kd.R_drew )); exact HO740.out) (Kd.R_base ho0) hb)
  have n4_ := Aside0.mk (Kd.R_lower (Kd.R_new' (Kd.R_new' (Kd.R_new' ho0 (Kd.R_lt (by (with_reducible repeat (first | apply Kd.R_alloc | apply Kd.R_drewN | apply Kd.R_drew )); exact HO729.out))) (Kd.R_lt (by (with_reducible repeat (first | apply Kd.R_alloc | apply Kd.R_drewN | apply Kd.R_drew )); exact HO732.out))) (Kd.R_lt (by (with_reducible repeat (first | apply Kd.R_alloc | apply Kd.R_drewN | apply Kd.R_drew )); exact HO740.out))) (below_size (by repeat ((with_reducible exact HB.out)))))
  have n5_ := Aside0.mk (blk_below (g := gb725) (o := .cells #[.slice A0_0 l0_0.length c0_0, .slice A0_1 l0_1.length c0_1, .slice A0_2 l0_2.length c0_2, .int .i64 a0_3] 43 (0, 0)) (by (with_reducible repeat (first | refine blk_drewN ?_ _ | refine blk_drew ?_ | refine blk_alloc ?_ _ )); exact BK725.out) hb)
  have n6_ := Aside0.mk (blk_below (g := gb726) (o := .cells #[.slice none 0 0, .slice none 0 0, .slice none 0 0, .int .i64 0] 43 (0, 0)) (by (with_reducible repeat (first | refine blk_drewN ?_ _ | refine blk_drew ?_ | refine blk_alloc ?_ _ )); exact BK726.out) hb)
  have n7_ := Aside0.mk (blk_below (g := gb737) (o := .cells #[.slice Ao12 t727.length co12, .slice Ao16 t730.length co16, .slice Ao17 t733.length co17, .int .i64 t736] 43 (0, 0)) (by (with_reducible repeat (first | refine blk_drewN ?_ _ | refine blk_drew ?_ | refine blk_alloc ?_ _ )); exact BK737.out) hb)
  have n8_ := Aside0.mk (below_step (by repeat ((with_reducible exact HB.out))) hb)
  clear HO729
  clear HO732
  clear HO735
  clear HO740
  clear BK725
  clear BK726
  clear BK737
  clear HB
  have HO729 := n0_
  have HO732 := n1_
  have HO735 := n2_
  have HO740 := n3_
  have HO743 := n4_
  have BK725 := n5_
  have BK726 := n6_
  have BK737 := n7_
  have HB := n8_
  clear n0_ n1_ n2_ n3_ n4_ n5_ n6_ n7_ n8_
  (try clear hb)
  (try clear hb2)
  (try clear hk)
  (try clear hi)
  (try clear ho0)
  obtain ⟨Ao22, co22, eo22⟩ := Kd.R_slice HO740.out
  (subst eo22)
  obtain ⟨Ao24, co24, eo24⟩ := Kd.R_slice HO743.out
  (subst eo24)
  refine hK.out _ _ ⟨(blk_cell BK725.out 0).trans rfl, (blk_cell BK725.out 1).trans rfl, (blk_cell BK725.out 2).trans rfl, (blk_cell BK725.out 3).trans rfl⟩ (fun hHeld => ?_)
  clear hK K
  refine norm_ (a' := ?_) ?_ ?_
  rotate_left
  · show Act.put _ (some 15) _ = _
    simp only [Act.put, List.setIfInBounds_toArray, List.set_cons_zero, List.set_cons_succ, i64_w, i32_w]
    rfl
  refine one_ (i := 9) (N := none) #[true, true, true, true, true, true, true, true, true, true, false, false] rfl rfl (one_of HT_.out (by kernel_rfl)) (by decide) (fun K hK => ?_)
  have hs23 : w21.cell? ⟨gb737, 0, none⟩ = some (.slice Ao12 t727.length co12) := (blk_cell BK737.out 0).trans rfl
  have hfs23 := blk_frozen BK737.out 0
  have hns23_0 := NB725_737.out
  have hns23_1 := NB726_737.out
  have hms23_0 := NB737_725.out
  have hms23_1 := NB737_726.out
  refine skip_ (w1 := ?_) (by rfl) rfl ?_ ?_
  rotate_left
  · go_simp
    rfl
  refine hK.out _ _ ⟨((cell_far (p := ⟨gb737, _, none⟩) NB725_737.out _).trans (hHeld.1)), ((cell_far (p := ⟨gb737, _, none⟩) NB725_737.out _).trans (hHeld.2.1)), ((cell_far (p := ⟨gb737, _, none⟩) NB725_737.out _).trans (hHeld.2.2.1)), ((cell_far (p := ⟨gb737, _, none⟩) NB725_737.out _).trans (hHeld.2.2.2))⟩ (fun hHeld => ?_)
  clear hK K
  refine pure_ (i := 10) (N := some 17) (v := ?_) (a' := ?_) #[true, true, true, true, true, true, true, true, true, true, true, false] rfl rfl (any_of HT_.out (by kernel_rfl)) (fun _ _ _ h => h) (Or.inl ⟨by rfl, ?_⟩) ?_ ?_
  rotate_left
  · intro w'
    go_simp
    with_reducible rfl
  rotate_left
  · simp only [Act.put, List.setIfInBounds_toArray, List.set_cons_zero, List.set_cons_succ, i64_w, i32_w]
    rfl
  refine one_ (i := 11) (N := none) #[true, true, true, true, true, true, true, true, true, true, true, true] rfl rfl (one_of HT_.out (by kernel_rfl)) (by decide) (fun K hK => ?_)
  have hs25 : w21.cell? ⟨gb737, 1, none⟩ = some (.slice Ao16 t730.length co16) := (blk_cell BK737.out 1).trans rfl
  have hfs25 := blk_frozen BK737.out 1
  have hns25_0 := NB725_737.out
  have hns25_1 := NB726_737.out
  have hms25_0 := NB737_725.out
  have hms25_1 := NB737_726.out
  refine skip_ (w1 := ?_) (by rfl) rfl ?_ ?_
  rotate_left
  · go_simp
    rfl
  refine hK.out _ _ ⟨((cell_far (p := ⟨gb737, _, none⟩) NB725_737.out _).trans (hHeld.1)), ((cell_far (p := ⟨gb737, _, none⟩) NB725_737.out _).trans (hHeld.2.1)), ((cell_far (p := ⟨gb737, _, none⟩) NB725_737.out _).trans (hHeld.2.2.1)), ((cell_far (p := ⟨gb737, _, none⟩) NB725_737.out _).trans (hHeld.2.2.2))⟩ (fun hHeld => ?_)
  clear hK K
  refine done_ (done_of HT_.out (by kernel_rfl)) ?_
  have hcz26_0 : w21.cell? ⟨gb737, 0, none⟩ = some (.slice Ao12 t727.length co12) := (blk_cell BK737.out 0).trans rfl
  have hcz26_1 : w21.cell? ⟨gb737, 1, none⟩ = some (.slice Ao16 t730.length co16) := (blk_cell BK737.out 1).trans rfl
  have hcz26_2 : w21.cell? ⟨gb737, 2, none⟩ = some (.slice Ao17 t733.length co17) := (blk_cell BK737.out 2).trans rfl
  have hcz26_3 : w21.cell? ⟨gb737, 3, none⟩ = some (.int .i64 t736) := (blk_cell BK737.out 3).trans rfl
  have hfz26_0 := blk_frozen BK737.out 0
  have hfz26_1 := blk_frozen BK737.out 1
  have hfz26_2 := blk_frozen BK737.out 2
  have hfz26_3 := blk_frozen BK737.out 3
  have hcz27_0 : w21.cell? ⟨gb726, 0, none⟩ = some (.slice none 0 0) := (blk_cell BK726.out 0).trans rfl
  have hcz27_1 : w21.cell? ⟨gb726, 1, none⟩ = some (.slice none 0 0) := (blk_cell BK726.out 1).trans rfl
  have hcz27_2 : w21.cell? ⟨gb726, 2, none⟩ = some (.slice none 0 0) := (blk_cell BK726.out 2).trans rfl
  have hcz27_3 : w21.cell? ⟨gb726, 3, none⟩ = some (.int .i64 0) := (blk_cell BK726.out 3).trans rfl
  have hfz27_0 := blk_frozen BK726.out 0
  have hfz27_1 := blk_frozen BK726.out 1
  have hfz27_2 := blk_frozen BK726.out 2
  have hfz27_3 := blk_frozen BK726.out 3
  go_wp2
  refine bodyPost_ret (results_cell_row rfl _ _ gb726 43 #[.slice Ao22 t738.length co22, .slice Ao24 t741.length co24, .slice Ao17 t733.length co17, .int .i64 t736] (0, 0) _ rfl (by (with_reducible repeat (first | refine blk_drewN ?_ _ | refine blk_drew ?_ | refine blk_alloc ?_ _ )); refine blk_put (cs := #[.slice Ao22 t738.length co22, .slice Ao24 t741.length co24, .slice Ao17 t733.length co17, .int .i64 0]) ?_ 3 _ rfl; (with_reducible repeat (first | refine blk_drewN ?_ _ | refine blk_drew ?_ | refine blk_alloc ?_ _ )); refine blk_put (cs := #[.slice Ao22 t738.length co22, .slice Ao24 t741.length co24, .slice none 0 0, .int .i64 0]) ?_ 2 _ rfl; (with_reducible repeat (first | refine blk_drewN ?_ _ | refine blk_drew ?_ | refine blk_alloc ?_ _ )); refine blk_put (cs := #[.slice Ao22 t738.length co22, .slice none 0 0, .slice none 0 0, .int .i64 0]) ?_ 1 _ rfl; (with_reducible repeat (first | refine blk_drewN ?_ _ | refine blk_drew ?_ | refine blk_alloc ?_ _ )); refine blk_put (cs := #[.slice none 0 0, .slice none 0 0, .slice none 0 0, .int .i64 0]) ?_ 0 _ rfl; (with_reducible repeat (first | refine blk_drewN ?_ _ | refine blk_drew ?_ | refine blk_alloc ?_ _ )); refine blk_far ?_ NB726_737.out _; (with_reducible repeat (first | refine blk_drewN ?_ _ | refine blk_drew ?_ | refine blk_alloc ?_ _ )); refine blk_far ?_ NB726_737.out _; (with_reducible repeat (first | refine blk_drewN ?_ _ | refine blk_drew ?_ | refine blk_alloc ?_ _ )); exact BK726.out) Try.underlying43 rfl (by kernel_rfl)) rfl ?_
  exact ⟨_, _, _, by rfl, by (with_reducible repeat (first | apply Kd.R_alloc | apply Kd.R_drewN | apply Kd.R_drew )); exact Kd.R_mono (Kd.R_far (p := ⟨gb726, 3, none⟩) (Kd.R_far (p := ⟨gb726, 2, none⟩) (Kd.R_far (p := ⟨gb726, 1, none⟩) (Kd.R_far (p := ⟨gb726, 0, none⟩) (Kd.R_far (p := ⟨gb737, 1, none⟩) (Kd.R_far (p := ⟨gb737, 0, none⟩) (Kd.R_types (Kd.R_types HO740.out BK737.out (by decide)) BK726.out (by decide)) (fun _ hk => hk.1.2) (.slice Ao22 t738.length co22)) (fun _ hk => hk.1.2) (.slice Ao24 t741.length co24)) (fun _ hk => hk.2) (.slice Ao22 t738.length co22)) (fun _ hk => hk.2) (.slice Ao24 t741.length co24)) (fun _ hk => hk.2) (.slice Ao17 t733.length co17)) (fun _ hk => hk.2) (.int .i64 t736)) (fun _ hk => hk.1.1.2), by (with_reducible repeat (first | apply Kd.R_alloc | apply Kd.R_drewN | apply Kd.R_drew )); exact Kd.R_mono (Kd.R_far (p := ⟨gb726, 3, none⟩) (Kd.R_far (p := ⟨gb726, 2, none⟩) (Kd.R_far (p := ⟨gb726, 1, none⟩) (Kd.R_far (p := ⟨gb726, 0, none⟩) (Kd.R_far (p := ⟨gb737, 1, none⟩) (Kd.R_far (p := ⟨gb737, 0, none⟩) (Kd.R_types (Kd.R_types HO743.out BK737.out (by decide)) BK726.out (by decide)) (fun _ hk => hk.1.2) (.slice Ao22 t738.length co22)) (fun _ hk => hk.1.2) (.slice Ao24 t741.length co24)) (fun _ hk => hk.2) (.slice Ao22 t738.length co22)) (fun _ hk => hk.2) (.slice Ao24 t741.length co24)) (fun _ hk => hk.2) (.slice Ao17 t733.length co17)) (fun _ hk => hk.2) (.int .i64 t736)) (fun _ hk => hk.1.1.2), by (with_reducible repeat (first | apply Kd.S_alloc | apply Kd.S_drewN | apply Kd.S_drew )); exact Kd.S_mono (Kd.S_far (p := ⟨gb726, 3, none⟩) (Kd.S_far (p := ⟨gb726, 2, none⟩) (Kd.S_far (p := ⟨gb726, 1, none⟩) (Kd.S_far (p := ⟨gb726, 0, none⟩) (Kd.S_far (p := ⟨gb737, 1, none⟩) (Kd.S_far (p := ⟨gb737, 0, none⟩) (Kd.S_types (Kd.S_types HO735.out BK737.out (by decide)) BK726.out (by decide)) (fun _ hk => hk.1.2) (.slice Ao22 t738.length co22)) (fun _ hk => hk.1.2) (.slice Ao24 t741.length co24)) (fun _ hk => hk.2) (.slice Ao22 t738.length co22)) (fun _ hk => hk.2) (.slice Ao24 t741.length co24)) (fun _ hk => hk.2) (.slice Ao17 t733.length co17)) (fun _ hk => hk.2) (.int .i64 t736)) (fun _ hk => trivial), by repeat ((with_reducible first | exact HB.out | refine below_set ?_ GE726.out | refine below_set ?_ GE737.out))⟩
def laws_FnExactPolicyDrop.f (k : Nat) (l0_0 : List ByteArray) (l0_1 : List ByteArray) (l0_2 : List (List Int)) (a0_3 : Int) (a1 : ByteArray) : Option (Bool) := if (a1.size : Int) > 1048576 then (some true) else ((laws_szPolicy.f k l0_0 l0_1 l0_2 a0_3 1048576).bind fun t263 => (if t263 < 0 then (some true) else ((laws_toPolicy.f k l0_0 l0_1 l0_2 a0_3).bind fun bp_0 => ((spec_PolicyDrop.f k bp_0.1 bp_0.2.1 bp_0.2.2.1 bp_0.2.2.2 a1).bind fun bw_0 => ((laws_toPolicy.f k l0_0 l0_1 l0_2 a0_3).bind fun bx_0 => ((impl_PolicyDrop.f k bx_0.1 bx_0.2.1 bx_0.2.2.1 bx_0.2.2.2 a1).bind fun bg_0 => ((laws_eqPolicy.f k bg_0.1 bg_0.2.1 bg_0.2.2.1 bg_0.2.2.2 bw_0.1 bw_0.2.1 bw_0.2.2.1 bw_0.2.2.2).bind fun e1 => (if e1 = true then ((laws_toPolicy.f k l0_0 l0_1 l0_2 a0_3).bind fun bq_0 => ((laws_eqPolicy.f k bx_0.1 bx_0.2.1 bx_0.2.2.1 bx_0.2.2.2 bq_0.1 bq_0.2.1 bq_0.2.2.1 bq_0.2.2.2).bind fun e2 => (if e2 = true then ((laws_markPolicy.f k bx_0.1 bx_0.2.1 bx_0.2.2.1 bx_0.2.2.2 1).bind fun bmx_ => (if bmx_.1 < 0 then none else ((laws_eqPolicy.f k bg_0.1 bg_0.2.1 bg_0.2.2.1 bg_0.2.2.2 bw_0.1 bw_0.2.1 bw_0.2.2.1 bw_0.2.2.2).bind fun e3 => (if e3 = true then ((laws_markPolicy.f k bg_0.1 bg_0.2.1 bg_0.2.2.1 bg_0.2.2.2 1).bind fun bmg_ => ((laws_heldPolicy.f k bmg_.2.1 bmg_.2.2.1 bmg_.2.2.2 bg_0.2.2.2 1).bind fun q1 => (if q1 < 0 then none else (if q1 = bmg_.1 then ((laws_toPolicy.f k l0_0 l0_1 l0_2 a0_3).bind fun br_0 => ((impl_PolicyDrop.f k br_0.1 br_0.2.1 br_0.2.2.1 br_0.2.2.2 a1).bind fun bh_0 => ((laws_eqPolicy.f k bh_0.1 bh_0.2.1 bh_0.2.2.1 bh_0.2.2.2 bw_0.1 bw_0.2.1 bw_0.2.2.1 bw_0.2.2.2).bind fun e4 => (if e4 = true then ((laws_heldPolicy.f k bmg_.2.1 bmg_.2.2.1 bmg_.2.2.2 bg_0.2.2.2 1).bind fun q2 => (if q2 < 0 then none else (if q2 = bmg_.1 then (some true) else none))) else none)))) else none)))) else none)))) else none))) else none))))))))
set_option maxHeartbeats 8000000 in
set_option maxRecDepth 100000 in
theorem laws_FnExactPolicyDrop.calls (k : Nat) (A0_0 : Option Addr) (c0_0 : Nat) (l0_0 : List ByteArray) (A0_1 : Option Addr) (c0_1 : Nat) (l0_1 : List ByteArray) (A0_2 : Option Addr) (c0_2 : Nat) (l0_2 : List (List Int)) (a0_3 : Int) (a1 : ByteArray) (r : Bool) (w : World) (hr0_0 : Kd.C Kd.string w A0_0 l0_0.length l0_0) (hc0_0 : l0_0.length ≤ c0_0) (hr0_1 : Kd.C Kd.string w A0_1 l0_1.length l0_1) (hc0_1 : l0_1.length ≤ c0_1) (hr0_2 : Kd.C (Kd.slice 3 (Kd.int .i64)) w A0_2 l0_2.length l0_2) (hc0_2 : l0_2.length ≤ c0_2) (h : laws_FnExactPolicyDrop.f k l0_0 l0_1 l0_2 a0_3 a1 = some r) :
    Calls Try.prog 14 #[.agg #[.slice A0_0 l0_0.length c0_0, .slice A0_1 l0_1.length c0_1, .slice A0_2 l0_2.length c0_2, .int .i64 a0_3], .string a1] w fun e w' => e = .returned (.bool r) ∧ Below w.heap.size w w' := by
  have hu49 := Try.underlying49
  have hu43 := Try.underlying43
  have HR0_0 := Aside0.mk hr0_0
  have HC0_0 := Aside0.mk hc0_0
  clear hr0_0 hc0_0
  have HR0_1 := Aside0.mk hr0_1
  have HC0_1 := Aside0.mk hc0_1
  clear hr0_1 hc0_1
  have HR0_2 := Aside0.mk hr0_2
  have HC0_2 := Aside0.mk hc0_2
  clear hr0_2 hc0_2
  have HB := Aside0.mk (Below.refl w.heap.size w)
  have H := h
  unfold laws_FnExactPolicyDrop.f at H
  clear h
  have HS3 := Aside0.mk H
  clear H
  go_enter Try.func14, Try.ntmps14
  go_upto_if 15 with (((with_reducible refine gate_dst (N := 2) rfl ?_); refine box_event ?hg (N := 2) ?hd (cs := #[.slice A0_0 l0_0.length c0_0, .slice A0_1 l0_1.length c0_1, .slice A0_2 l0_2.length c0_2, .int .i64 a0_3]) (t := 49) ?hr ?_; (case hd => rfl); (case hg => rfl); (case hr => (go_simp; done)); intro gb_aS hg w4 hbox hb; have n0_ := Aside0.mk (below_step (by repeat ((with_reducible exact HB.out))) hb); have n1_ := Aside0.mk (hbox); have n2_ := Aside0.mk ((by rw [hg]; exact (below_size (by repeat ((with_reducible exact HB.out)))) : w.heap.size ≤ gb_aS)); have n3_ := Aside0.mk ((by rw [hg]; exact (below_size (by repeat ((with_reducible exact HB.out)))) : w.heap.size ≤ gb_aS)); clear HB; have HB := n0_; have BK_aS := n1_; have GW_aS := n2_; have GE_aS := n3_; clear n0_ n1_ n2_ n3_; clear hb hbox hg))
  (try simp only [Act.put, List.setIfInBounds_toArray, List.set_cons_zero, List.set_cons_succ])
  have H := HS3.out
  clear HS3
  by_cases c5 : (a1.size : Int) > 1048576
  · rw [if_pos c5] at H
    have c5b0 : decide (1048576 < (a1.size : Int)) = true := decide_eq_true c5
    have c5b1 : decide (1048576 < a1.size) = true := decide_eq_true (by omega)
    clear c5
    (rw [c5b0])
    obtain rfl := Option.some.inj H
    go_wp2
    go_ret
    exact ⟨by rfl, by repeat ((with_reducible exact HB.out))⟩
  · rw [if_neg c5] at H
    have c5b0 : decide (1048576 < (a1.size : Int)) = false := decide_eq_false c5
    have c5b1 : decide (1048576 < a1.size) = false := decide_eq_false (by omega)
    clear c5
    (rw [c5b0])
    replace H := Option.bind_eq_some_iff.mp H
    obtain ⟨t263, A60, H⟩ := H
    have A6 := Aside0.mk A60
    clear A60
    have HS7 := Aside0.mk H
    clear H
    have hcz8_0 : w4.cell? ⟨gb_aS, 0, none⟩ = some (.slice A0_0 l0_0.length c0_0) := (blk_cell BK_aS.out 0).trans rfl
    have hcz8_1 : w4.cell? ⟨gb_aS, 1, none⟩ = some (.slice A0_1 l0_1.length c0_1) := (blk_cell BK_aS.out 1).trans rfl
    have hcz8_2 : w4.cell? ⟨gb_aS, 2, none⟩ = some (.slice A0_2 l0_2.length c0_2) := (blk_cell BK_aS.out 2).trans rfl
    have hcz8_3 : w4.cell? ⟨gb_aS, 3, none⟩ = some (.int .i64 a0_3) := (blk_cell BK_aS.out 3).trans rfl
    have hfz8_0 := blk_frozen BK_aS.out 0
    have hfz8_1 := blk_frozen BK_aS.out 1
    have hfz8_2 := blk_frozen BK_aS.out 2
    have hfz8_3 := blk_frozen BK_aS.out 3
    go_upto_if 20 with (((with_reducible refine gate_callee (f := 38) rfl ?_); refine goesL_ (some 18) rfl rfl Try.func38 (by kernel_rfl) rfl #[.agg #[.slice A0_0 l0_0.length c0_0, .slice A0_1 l0_1.length c0_1, .slice A0_2 l0_2.length c0_2, .int .i64 a0_3], .int .i64 1048576] rfl (by (try simp only [List.map_toArray, List.map_cons, List.map_nil]); rfl) ?_; (with_reducible refine (laws_szPolicy.calls k _ _ l0_0 _ _ l0_1 _ _ l0_2 a0_3 1048576 t263 _ ?side1 ?side2 ?side3 ?side4 ?side5 ?side6 A6.out).mono ?_); (case side1 => repeat (exact (Kd.C_below HR0_0.out HB.out))); (case side2 => exact HC0_0.out); (case side3 => repeat (exact (Kd.C_below HR0_1.out HB.out))); (case side4 => exact HC0_1.out); (case side5 => repeat (exact (Kd.C_below HR0_2.out HB.out))); (case side6 => exact HC0_2.out); rintro e w9 ⟨rfl, hb⟩; refine ⟨_, rfl, ?_⟩; have n0_ := Aside0.mk (blk_below (g := gb_aS) (o := .cells #[.slice A0_0 l0_0.length c0_0, .slice A0_1 l0_1.length c0_1, .slice A0_2 l0_2.length c0_2, .int .i64 a0_3] 49 (0, 0)) (by (with_reducible repeat (first | refine blk_drewN ?_ _ | refine blk_drew ?_ | refine blk_alloc ?_ _ )); exact BK_aS.out) hb); have n1_ := Aside0.mk (below_step (by repeat ((with_reducible exact HB.out))) hb); clear BK_aS; clear HB; have BK_aS := n0_; have HB := n1_; clear n0_ n1_; (try clear hb); (try clear hb2); (try clear hk); (try clear hi)))
    (try simp only [Act.put, List.setIfInBounds_toArray, List.set_cons_zero, List.set_cons_succ])
    have H := HS7.out
    clear HS7
    by_cases c10 : t263 < 0
    · rw [if_pos c10] at H
      have c10b0 : decide (t263 < 0) = true := decide_eq_true c10
      clear c10
      (rw [c10b0])
      obtain rfl := Option.some.inj H
      go_wp2
      go_ret
      exact ⟨by rfl, by repeat ((with_reducible exact HB.out))⟩
    · rw [if_neg c10] at H
      have c10b0 : decide (t263 < 0) = false := decide_eq_false c10
      clear c10
      (rw [c10b0])
      replace H := Option.bind_eq_some_iff.mp H
      obtain ⟨⟨p_0, p_1, p_2, p_3⟩, A10, H⟩ := H
      dsimp only at H
      have A1 := Aside0.mk A10
      clear A10
      replace H := Option.bind_eq_some_iff.mp H
      obtain ⟨⟨w_0, w_1, w_2, w_3⟩, A20, H⟩ := H
      dsimp only at H
      have A2 := Aside0.mk A20
      clear A20
      replace H := Option.bind_eq_some_iff.mp H
      obtain ⟨⟨x_0, x_1, x_2, x_3⟩, A30, H⟩ := H
      dsimp only at H
      have A3 := Aside0.mk A30
      clear A30
      replace H := Option.bind_eq_some_iff.mp H
      obtain ⟨⟨g_0, g_1, g_2, g_3⟩, A40, H⟩ := H
      dsimp only at H
      have A4 := Aside0.mk A40
      clear A40
      replace H := Option.bind_eq_some_iff.mp H
      obtain ⟨e1, A50, H⟩ := H
      have A5 := Aside0.mk A50
      clear A50
      by_cases c6 : e1 = true
      case neg => rw [if_neg c6] at H; exact absurd H (by simp)
      rw [if_pos c6] at H
      subst c6
      replace H := Option.bind_eq_some_iff.mp H
      obtain ⟨⟨q_0, q_1, q_2, q_3⟩, A70, H⟩ := H
      dsimp only at H
      have A7 := Aside0.mk A70
      clear A70
      replace H := Option.bind_eq_some_iff.mp H
      obtain ⟨e2, A80, H⟩ := H
      have A8 := Aside0.mk A80
      clear A80
      by_cases c9 : e2 = true
      case neg => rw [if_neg c9] at H; exact absurd H (by simp)
      rw [if_pos c9] at H
      subst c9
      replace H := Option.bind_eq_some_iff.mp H
      obtain ⟨⟨mx_, xW, xM, xS⟩, A100, H⟩ := H
      dsimp only at H
      have A10 := Aside0.mk A100
      clear A100
      by_cases c11 : mx_ < 0
      case pos => rw [if_pos c11] at H; exact absurd H (by simp)
      rw [if_neg c11] at H
      have c11b0 : decide (mx_ < 0) = false := decide_eq_false c11
      clear c11
      replace H := Option.bind_eq_some_iff.mp H
      obtain ⟨e3, A120, H⟩ := H
      have A12 := Aside0.mk A120
      clear A120
      by_cases c13 : e3 = true
      case neg => rw [if_neg c13] at H; exact absurd H (by simp)
      rw [if_pos c13] at H
      subst c13
      replace H := Option.bind_eq_some_iff.mp H
      obtain ⟨⟨mg_, gW, gM, gS⟩, A140, H⟩ := H
      dsimp only at H
      have A14 := Aside0.mk A140
      clear A140
      replace H := Option.bind_eq_some_iff.mp H
      obtain ⟨q1, A150, H⟩ := H
      have A15 := Aside0.mk A150
      clear A150
      by_cases c16 : q1 < 0
      case pos => rw [if_pos c16] at H; exact absurd H (by simp)
      rw [if_neg c16] at H
      have c16b0 : decide (q1 < 0) = false := decide_eq_false c16
      clear c16
      by_cases c17 : q1 = mg_
      case neg => rw [if_neg c17] at H; exact absurd H (by simp)
      rw [if_pos c17] at H
      have c17b0 : (q1 == mg_) = true := beq_iff_eq.mpr c17
      have c17b1 : (q1 != mg_) = false := bne_eq_false_iff_eq.mpr c17
      clear c17
      replace H := Option.bind_eq_some_iff.mp H
      obtain ⟨⟨r_0, r_1, r_2, r_3⟩, A180, H⟩ := H
      dsimp only at H
      have A18 := Aside0.mk A180
      clear A180
      replace H := Option.bind_eq_some_iff.mp H
      obtain ⟨⟨h_0, h_1, h_2, h_3⟩, A190, H⟩ := H
      dsimp only at H
      have A19 := Aside0.mk A190
      clear A190
      replace H := Option.bind_eq_some_iff.mp H
      obtain ⟨e4, A200, H⟩ := H
      have A20 := Aside0.mk A200
      clear A200
      by_cases c21 : e4 = true
      case neg => rw [if_neg c21] at H; exact absurd H (by simp)
      rw [if_pos c21] at H
      subst c21
      replace H := Option.bind_eq_some_iff.mp H
      obtain ⟨q2, A220, H⟩ := H
      have A22 := Aside0.mk A220
      clear A220
      by_cases c23 : q2 < 0
      case pos => rw [if_pos c23] at H; exact absurd H (by simp)
      rw [if_neg c23] at H
      have c23b0 : decide (q2 < 0) = false := decide_eq_false c23
      clear c23
      by_cases c24 : q2 = mg_
      case neg => rw [if_neg c24] at H; exact absurd H (by simp)
      rw [if_pos c24] at H
      have c24b0 : (q2 == mg_) = true := beq_iff_eq.mpr c24
      have c24b1 : (q2 != mg_) = false := bne_eq_false_iff_eq.mpr c24
      clear c24
      obtain rfl := Option.some.inj H
      have hcz1_0 : w9.cell? ⟨gb_aS, 0, none⟩ = some (.slice A0_0 l0_0.length c0_0) := (blk_cell BK_aS.out 0).trans rfl
      have hfz1_0 := blk_frozen BK_aS.out 0
      have hcz1_1 : w9.cell? ⟨gb_aS, 1, none⟩ = some (.slice A0_1 l0_1.length c0_1) := (blk_cell BK_aS.out 1).trans rfl
      have hfz1_1 := blk_frozen BK_aS.out 1
      have hcz1_2 : w9.cell? ⟨gb_aS, 2, none⟩ = some (.slice A0_2 l0_2.length c0_2) := (blk_cell BK_aS.out 2).trans rfl
      have hfz1_2 := blk_frozen BK_aS.out 2
      have hcz1_3 : w9.cell? ⟨gb_aS, 3, none⟩ = some (.int .i64 a0_3) := (blk_cell BK_aS.out 3).trans rfl
      have hfz1_3 := blk_frozen BK_aS.out 3
      go_wp2_with (first | ((with_reducible refine gate_callee (f := 40) rfl ?_); refine goesL_ (some 22) rfl rfl Try.func40 (by kernel_rfl) rfl #[.agg #[.slice A0_0 l0_0.length c0_0, .slice A0_1 l0_1.length c0_1, .slice A0_2 l0_2.length c0_2, .int .i64 a0_3]] rfl (by (try simp only [List.map_toArray, List.map_cons, List.map_nil]); rfl) ?_; (with_reducible refine (laws_toPolicy.calls k _ _ l0_0 _ _ l0_1 _ _ l0_2 a0_3 p_0 p_1 p_2 p_3 _ ?side1 ?side2 ?side3 ?side4 ?side5 ?side6 A1.out).mono ?_); (case side1 => exact Kd.C_below HR0_0.out (by repeat ((with_reducible exact HB.out)))); (case side2 => exact HC0_0.out); (case side3 => exact Kd.C_below HR0_1.out (by repeat ((with_reducible exact HB.out)))); (case side4 => exact HC0_1.out); (case side5 => exact Kd.C_below HR0_2.out (by repeat ((with_reducible exact HB.out)))); (case side6 => exact HC0_2.out); rintro e w51 ⟨v_PW, v_PM, v_PS, rfl, ho_PW, ho_PM, ho_PS, hb⟩; refine ⟨_, rfl, ?_⟩; have n0_ := Aside0.mk (blk_below (g := gb_aS) (o := .cells #[.slice A0_0 l0_0.length c0_0, .slice A0_1 l0_1.length c0_1, .slice A0_2 l0_2.length c0_2, .int .i64 a0_3] 49 (0, 0)) (by (with_reducible repeat (first | refine blk_drewN ?_ _ | refine blk_drew ?_ | refine blk_alloc ?_ _ )); exact BK_aS.out) hb); have n1_ := Aside0.mk (below_step (by repeat ((with_reducible exact HB.out))) hb); have n2_ := Aside0.mk (Kd.R_lower ho_PW (below_size (by repeat ((with_reducible exact HB.out))))); have n3_ := Aside0.mk (Kd.R_lower ho_PM (below_size (by repeat ((with_reducible exact HB.out))))); have n4_ := Aside0.mk (Kd.S_lower ho_PS (below_size (by repeat ((with_reducible exact HB.out))))); (try clear BK_aS); (try clear HB); (try clear HO_PW); (try clear HO_PM); (try clear HO_PS); have BK_aS := n0_; have HB := n1_; have HO_PW := n2_; have HO_PM := n3_; have HO_PS := n4_; clear n0_ n1_ n2_ n3_ n4_; (try clear hb ho_PW ho_PM ho_PS); obtain ⟨Ao_PW, co_PW, eo_PW⟩ := Kd.R_slice HO_PW.out; subst eo_PW; obtain ⟨Ao_PM, co_PM, eo_PM⟩ := Kd.R_slice HO_PM.out; subst eo_PM; obtain ⟨Ao_PS, co_PS, eo_PS⟩ := Kd.S_slice HO_PS.out; subst eo_PS) | ((with_reducible refine gate_callee (f := 52) rfl ?_); refine goesL_ (some 24) rfl rfl Try.func52 (by kernel_rfl) rfl #[.agg #[.slice Ao_PW p_0.length co_PW, .slice Ao_PM p_1.length co_PM, .slice Ao_PS p_2.length co_PS, .int .i64 p_3], .string a1] rfl (by (try simp only [List.map_toArray, List.map_cons, List.map_nil]); rfl) ?_; (with_reducible refine (spec_PolicyDrop.calls k _ _ p_0 _ _ p_1 _ _ p_2 p_3 a1 w_0 w_1 w_2 w_3 _ ?side1 ?side2 ?side3 ?side4 ?side5 ?side6 A2.out).mono ?_); (case side1 => repeat (exact (Kd.R_reads' HO_PW.out).2.2)); (case side2 => exact (Kd.R_reads' HO_PW.out).2.1); (case side3 => repeat (exact (Kd.R_reads' HO_PM.out).2.2)); (case side4 => exact (Kd.R_reads' HO_PM.out).2.1); (case side5 => repeat (exact (Kd.S_reads' HO_PS.out).2.2)); (case side6 => exact (Kd.S_reads' HO_PS.out).2.1); rintro e w52 ⟨v_WW, v_WM, v_WS, rfl, ho_WW, ho_WM, ho_WS, hb⟩; refine ⟨_, rfl, ?_⟩; have n0_ := Aside0.mk (Kd.R_below (by (with_reducible repeat (first | apply Kd.R_alloc | apply Kd.R_drewN | apply Kd.R_drew )); exact HO_PW.out) hb); have n1_ := Aside0.mk (Kd.R_below (by (with_reducible repeat (first | apply Kd.R_alloc | apply Kd.R_drewN | apply Kd.R_drew )); exact HO_PM.out) hb); have n2_ := Aside0.mk (Kd.S_below (by (with_reducible repeat (first | apply Kd.S_alloc | apply Kd.S_drewN | apply Kd.S_drew )); exact HO_PS.out) hb); have n3_ := Aside0.mk (blk_below (g := gb_aS) (o := .cells #[.slice A0_0 l0_0.length c0_0, .slice A0_1 l0_1.length c0_1, .slice A0_2 l0_2.length c0_2, .int .i64 a0_3] 49 (0, 0)) (by (with_reducible repeat (first | refine blk_drewN ?_ _ | refine blk_drew ?_ | refine blk_alloc ?_ _ )); exact BK_aS.out) hb); have n4_ := Aside0.mk (below_step (by repeat ((with_reducible exact HB.out))) hb); have n5_ := Aside0.mk (Kd.R_lower ho_WW (below_size (by repeat ((with_reducible exact HB.out))))); have n6_ := Aside0.mk (Kd.R_lower ho_WM (below_size (by repeat ((with_reducible exact HB.out))))); have n7_ := Aside0.mk (Kd.S_lower ho_WS (below_size (by repeat ((with_reducible exact HB.out))))); (try clear HO_PW); (try clear HO_PM); (try clear HO_PS); (try clear BK_aS); (try clear HB); (try clear HO_WW); (try clear HO_WM); (try clear HO_WS); have HO_PW := n0_; have HO_PM := n1_; have HO_PS := n2_; have BK_aS := n3_; have HB := n4_; have HO_WW := n5_; have HO_WM := n6_; have HO_WS := n7_; clear n0_ n1_ n2_ n3_ n4_ n5_ n6_ n7_; (try clear hb ho_WW ho_WM ho_WS); obtain ⟨Ao_WW, co_WW, eo_WW⟩ := Kd.R_slice HO_WW.out; subst eo_WW; obtain ⟨Ao_WM, co_WM, eo_WM⟩ := Kd.R_slice HO_WM.out; subst eo_WM; obtain ⟨Ao_WS, co_WS, eo_WS⟩ := Kd.S_slice HO_WS.out; subst eo_WS) | ((with_reducible refine gate_dst (N := 6) rfl ?_); refine box_event ?hg (N := 6) ?hd (cs := #[.slice none 0 0, .slice none 0 0, .slice none 0 0, .int .i64 0]) (t := 43) ?hr ?_; (case hd => rfl); (case hg => rfl); (case hr => (go_simp; done)); intro gb_W hg w53 hbox hb; have n0_ := Aside0.mk (Kd.R_below (by (with_reducible repeat (first | apply Kd.R_alloc | apply Kd.R_drewN | apply Kd.R_drew )); exact HO_WW.out) hb); have n1_ := Aside0.mk (Kd.R_below (by (with_reducible repeat (first | apply Kd.R_alloc | apply Kd.R_drewN | apply Kd.R_drew )); exact HO_WM.out) hb); have n2_ := Aside0.mk (Kd.S_below (by (with_reducible repeat (first | apply Kd.S_alloc | apply Kd.S_drewN | apply Kd.S_drew )); exact HO_WS.out) hb); have n3_ := Aside0.mk (blk_below (g := gb_aS) (o := .cells #[.slice A0_0 l0_0.length c0_0, .slice A0_1 l0_1.length c0_1, .slice A0_2 l0_2.length c0_2, .int .i64 a0_3] 49 (0, 0)) (by (with_reducible repeat (first | refine blk_drewN ?_ _ | refine blk_drew ?_ | refine blk_alloc ?_ _ )); exact BK_aS.out) hb); have n4_ := Aside0.mk (below_step (by repeat ((with_reducible exact HB.out))) hb); have n5_ := Aside0.mk (hbox); have n6_ := Aside0.mk ((by rw [hg]; exact (below_size (by repeat ((with_reducible exact HB.out)))) : w.heap.size ≤ gb_W)); have n7_ := Aside0.mk ((by rw [hg]; exact Nat.ne_of_lt (blk_lt (g := gb_aS) (o := .cells #[.slice A0_0 l0_0.length c0_0, .slice A0_1 l0_1.length c0_1, .slice A0_2 l0_2.length c0_2, .int .i64 a0_3] 49 (0, 0)) (by (with_reducible repeat (first | refine blk_drewN ?_ _ | refine blk_drew ?_ | refine blk_alloc ?_ _ )); exact BK_aS.out)) : gb_aS ≠ gb_W)); have n8_ := Aside0.mk ((by rw [hg]; exact Nat.ne_of_gt (blk_lt (g := gb_aS) (o := .cells #[.slice A0_0 l0_0.length c0_0, .slice A0_1 l0_1.length c0_1, .slice A0_2 l0_2.length c0_2, .int .i64 a0_3] 49 (0, 0)) (by (with_reducible repeat (first | refine blk_drewN ?_ _ | refine blk_drew ?_ | refine blk_alloc ?_ _ )); exact BK_aS.out)) : gb_W ≠ gb_aS)); (try clear HO_WW); (try clear HO_WM); (try clear HO_WS); (try clear BK_aS); (try clear HB); (try clear BK_W); (try clear GE_W); (try clear NB_aS_W); (try clear NB_W_aS); have HO_WW := n0_; have HO_WM := n1_; have HO_WS := n2_; have BK_aS := n3_; have HB := n4_; have BK_W := n5_; have GE_W := n6_; have NB_aS_W := n7_; have NB_W_aS := n8_; clear n0_ n1_ n2_ n3_ n4_ n5_ n6_ n7_ n8_; clear hb hbox hg; have hnb_aS_W := NB_aS_W.out; have hnb_W_aS := NB_W_aS.out; have hcz2_0 : w53.cell? ⟨gb_W, 0, none⟩ = some (.slice none 0 0) := (blk_cell BK_W.out 0).trans rfl; have hfz2_0 := blk_frozen BK_W.out 0; have hcz2_1 : w53.cell? ⟨gb_W, 1, none⟩ = some (.slice none 0 0) := (blk_cell BK_W.out 1).trans rfl; have hfz2_1 := blk_frozen BK_W.out 1; have hcz2_2 : w53.cell? ⟨gb_W, 2, none⟩ = some (.slice none 0 0) := (blk_cell BK_W.out 2).trans rfl; have hfz2_2 := blk_frozen BK_W.out 2; have hcz2_3 : w53.cell? ⟨gb_W, 3, none⟩ = some (.int .i64 0) := (blk_cell BK_W.out 3).trans rfl; have hfz2_3 := blk_frozen BK_W.out 3; have hcz3_0 : w53.cell? ⟨gb_aS, 0, none⟩ = some (.slice A0_0 l0_0.length c0_0) := (blk_cell BK_aS.out 0).trans rfl; have hfz3_0 := blk_frozen BK_aS.out 0; have hcz3_1 : w53.cell? ⟨gb_aS, 1, none⟩ = some (.slice A0_1 l0_1.length c0_1) := (blk_cell BK_aS.out 1).trans rfl; have hfz3_1 := blk_frozen BK_aS.out 1; have hcz3_2 : w53.cell? ⟨gb_aS, 2, none⟩ = some (.slice A0_2 l0_2.length c0_2) := (blk_cell BK_aS.out 2).trans rfl; have hfz3_2 := blk_frozen BK_aS.out 2; have hcz3_3 : w53.cell? ⟨gb_aS, 3, none⟩ = some (.int .i64 a0_3) := (blk_cell BK_aS.out 3).trans rfl; have hfz3_3 := blk_frozen BK_aS.out 3) | ((with_reducible refine gate_callee (f := 40) rfl ?_); refine goesL_ (some 26) rfl rfl Try.func40 (by kernel_rfl) rfl #[.agg #[.slice A0_0 l0_0.length c0_0, .slice A0_1 l0_1.length c0_1, .slice A0_2 l0_2.length c0_2, .int .i64 a0_3]] rfl (by (try simp only [List.map_toArray, List.map_cons, List.map_nil]); rfl) ?_; (with_reducible refine (laws_toPolicy.calls k _ _ l0_0 _ _ l0_1 _ _ l0_2 a0_3 x_0 x_1 x_2 x_3 _ ?side1 ?side2 ?side3 ?side4 ?side5 ?side6 A3.out).mono ?_); (case side1 => exact Kd.C_below HR0_0.out (by repeat ((with_reducible first | exact HB.out | refine below_set ?_ GE_W.out)))); (case side2 => exact HC0_0.out); (case side3 => exact Kd.C_below HR0_1.out (by repeat ((with_reducible first | exact HB.out | refine below_set ?_ GE_W.out)))); (case side4 => exact HC0_1.out); (case side5 => exact Kd.C_below HR0_2.out (by repeat ((with_reducible first | exact HB.out | refine below_set ?_ GE_W.out)))); (case side6 => exact HC0_2.out); rintro e w54 ⟨v_XW, v_XM, v_XS, rfl, ho_XW, ho_XM, ho_XS, hb⟩; refine ⟨_, rfl, ?_⟩; have hz_ : ∃ N0 : World, Kd.R Kd.string 9 w54 N0.heap.size (fun k_ => some k_ ≠ (v_XM : Value).ownBlock) v_XW x_0 ∧ Kd.R Kd.string 9 w54 N0.heap.size (fun k_ => some k_ ≠ (v_XW : Value).ownBlock) v_XM x_1 ∧ Kd.S (Kd.slice 3 (Kd.int .i64)) 58 w54 N0.heap.size (fun _ => True) v_XS x_2 ∧ Below N0.heap.size N0 w54 ∧ Below w.heap.size w N0 ∧ Kd.R Kd.string 9 w54 w.heap.size (fun k_ => True ∧ k_ < N0.heap.size) (.slice Ao_WW w_0.length co_WW) w_0 ∧ Kd.R Kd.string 9 w54 w.heap.size (fun k_ => True ∧ k_ < N0.heap.size) (.slice Ao_WM w_1.length co_WM) w_1 ∧ Kd.S (Kd.slice 3 (Kd.int .i64)) 58 w54 w.heap.size (fun k_ => True ∧ k_ < N0.heap.size) (.slice Ao_WS w_2.length co_WS) w_2 := ⟨_, ho_XW, ho_XM, ho_XS, hb, (by repeat ((with_reducible first | exact HB.out | refine below_set ?_ GE_W.out))), Kd.R_mono (Kd.R_old (by (with_reducible repeat (first | apply Kd.R_alloc | apply Kd.R_drewN | apply Kd.R_drew )); exact Kd.R_drop (Kd.R_far (p := ⟨gb_W, 3, none⟩) (Kd.R_far (p := ⟨gb_W, 2, none⟩) (Kd.R_far (p := ⟨gb_W, 1, none⟩) (Kd.R_far (p := ⟨gb_W, 0, none⟩) (Kd.R_types HO_WW.out BK_W.out (by decide)) (fun _ hk => hk.2) (.slice Ao_WW w_0.length co_WW)) (fun _ hk => hk.2) (.slice Ao_WM w_1.length co_WM)) (fun _ hk => hk.2) (.slice Ao_WS w_2.length co_WS)) (fun _ hk => hk.2) (.int .i64 w_3))) hb) (fun _ h_ => ⟨trivial, h_.2⟩), Kd.R_mono (Kd.R_old (by (with_reducible repeat (first | apply Kd.R_alloc | apply Kd.R_drewN | apply Kd.R_drew )); exact Kd.R_drop (Kd.R_far (p := ⟨gb_W, 3, none⟩) (Kd.R_far (p := ⟨gb_W, 2, none⟩) (Kd.R_far (p := ⟨gb_W, 1, none⟩) (Kd.R_far (p := ⟨gb_W, 0, none⟩) (Kd.R_types HO_WM.out BK_W.out (by decide)) (fun _ hk => hk.2) (.slice Ao_WW w_0.length co_WW)) (fun _ hk => hk.2) (.slice Ao_WM w_1.length co_WM)) (fun _ hk => hk.2) (.slice Ao_WS w_2.length co_WS)) (fun _ hk => hk.2) (.int .i64 w_3))) hb) (fun _ h_ => ⟨trivial, h_.2⟩), Kd.S_mono (Kd.S_old (by (with_reducible repeat (first | apply Kd.S_alloc | apply Kd.S_drewN | apply Kd.S_drew )); exact Kd.S_drop (Kd.S_far (p := ⟨gb_W, 3, none⟩) (Kd.S_far (p := ⟨gb_W, 2, none⟩) (Kd.S_far (p := ⟨gb_W, 1, none⟩) (Kd.S_far (p := ⟨gb_W, 0, none⟩) (Kd.S_types HO_WS.out BK_W.out (by decide)) (fun _ hk => hk.2) (.slice Ao_WW w_0.length co_WW)) (fun _ hk => hk.2) (.slice Ao_WM w_1.length co_WM)) (fun _ hk => hk.2) (.slice Ao_WS w_2.length co_WS)) (fun _ hk => hk.2) (.int .i64 w_3))) hb) (fun _ h_ => ⟨trivial, h_.2⟩)⟩; obtain ⟨WG, hx_XW, hx_XM, hx_XS, hG0, hGW, hy_WW, hy_WM, hy_WS⟩ := hz_; have n0_ := Aside0.mk (hy_WW); have n1_ := Aside0.mk (hy_WM); have n2_ := Aside0.mk (hy_WS); have n3_ := Aside0.mk (hx_XW); have n4_ := Aside0.mk (hx_XM); have n5_ := Aside0.mk (hx_XS); have n6_ := Aside0.mk (blk_below (g := gb_aS) (o := .cells #[.slice A0_0 l0_0.length c0_0, .slice A0_1 l0_1.length c0_1, .slice A0_2 l0_2.length c0_2, .int .i64 a0_3] 49 (0, 0)) (by (with_reducible repeat (first | refine blk_drewN ?_ _ | refine blk_drew ?_ | refine blk_alloc ?_ _ )); refine blk_far ?_ NB_aS_W.out _; (with_reducible repeat (first | refine blk_drewN ?_ _ | refine blk_drew ?_ | refine blk_alloc ?_ _ )); refine blk_far ?_ NB_aS_W.out _; (with_reducible repeat (first | refine blk_drewN ?_ _ | refine blk_drew ?_ | refine blk_alloc ?_ _ )); refine blk_far ?_ NB_aS_W.out _; (with_reducible repeat (first | refine blk_drewN ?_ _ | refine blk_drew ?_ | refine blk_alloc ?_ _ )); refine blk_far ?_ NB_aS_W.out _; (with_reducible repeat (first | refine blk_drewN ?_ _ | refine blk_drew ?_ | refine blk_alloc ?_ _ )); exact BK_aS.out) hb); have n7_ := Aside0.mk (blk_below (g := gb_W) (o := .cells #[.slice Ao_WW w_0.length co_WW, .slice Ao_WM w_1.length co_WM, .slice Ao_WS w_2.length co_WS, .int .i64 w_3] 43 (0, 0)) (by (with_reducible repeat (first | refine blk_drewN ?_ _ | refine blk_drew ?_ | refine blk_alloc ?_ _ )); refine blk_put (cs := #[.slice Ao_WW w_0.length co_WW, .slice Ao_WM w_1.length co_WM, .slice Ao_WS w_2.length co_WS, .int .i64 0]) ?_ 3 _ rfl; (with_reducible repeat (first | refine blk_drewN ?_ _ | refine blk_drew ?_ | refine blk_alloc ?_ _ )); refine blk_put (cs := #[.slice Ao_WW w_0.length co_WW, .slice Ao_WM w_1.length co_WM, .slice none 0 0, .int .i64 0]) ?_ 2 _ rfl; (with_reducible repeat (first | refine blk_drewN ?_ _ | refine blk_drew ?_ | refine blk_alloc ?_ _ )); refine blk_put (cs := #[.slice Ao_WW w_0.length co_WW, .slice none 0 0, .slice none 0 0, .int .i64 0]) ?_ 1 _ rfl; (with_reducible repeat (first | refine blk_drewN ?_ _ | refine blk_drew ?_ | refine blk_alloc ?_ _ )); refine blk_put (cs := #[.slice none 0 0, .slice none 0 0, .slice none 0 0, .int .i64 0]) ?_ 0 _ rfl; (with_reducible repeat (first | refine blk_drewN ?_ _ | refine blk_drew ?_ | refine blk_alloc ?_ _ )); exact BK_W.out) hb); have n8_ := Aside0.mk (below_step (by repeat ((with_reducible first | exact HB.out | refine below_set ?_ GE_W.out))) hb); have n9_ := Aside0.mk (hG0); have n10_ := Aside0.mk (hGW); (try clear HO_WW); (try clear HO_WM); (try clear HO_WS); (try clear HO_XW); (try clear HO_XM); (try clear HO_XS); (try clear BK_aS); (try clear BK_W); (try clear HB); (try clear HG); (try clear HGW); have HO_WW := n0_; have HO_WM := n1_; have HO_WS := n2_; have HO_XW := n3_; have HO_XM := n4_; have HO_XS := n5_; have BK_aS := n6_; have BK_W := n7_; have HB := n8_; have HG := n9_; have HGW := n10_; clear n0_ n1_ n2_ n3_ n4_ n5_ n6_ n7_ n8_ n9_ n10_; (try clear hb ho_XW ho_XM ho_XS hx_XW hx_XM hx_XS hG0 hGW hy_WW hy_WM hy_WS); obtain ⟨Ao_XW, co_XW, eo_XW⟩ := Kd.R_slice HO_XW.out; subst eo_XW; obtain ⟨Ao_XM, co_XM, eo_XM⟩ := Kd.R_slice HO_XM.out; subst eo_XM; obtain ⟨Ao_XS, co_XS, eo_XS⟩ := Kd.S_slice HO_XS.out; subst eo_XS) | ((with_reducible refine gate_dst (N := 7) rfl ?_); refine box_event ?hg (N := 7) ?hd (cs := #[.slice none 0 0, .slice none 0 0, .slice none 0 0, .int .i64 0]) (t := 43) ?hr ?_; (case hd => rfl); (case hg => rfl); (case hr => (go_simp; done)); intro gb_X hg w55 hbox hb; have n0_ := Aside0.mk (Kd.R_below (by (with_reducible repeat (first | apply Kd.R_alloc | apply Kd.R_drewN | apply Kd.R_drew )); exact HO_WW.out) hb); have n1_ := Aside0.mk (Kd.R_below (by (with_reducible repeat (first | apply Kd.R_alloc | apply Kd.R_drewN | apply Kd.R_drew )); exact HO_WM.out) hb); have n2_ := Aside0.mk (Kd.S_below (by (with_reducible repeat (first | apply Kd.S_alloc | apply Kd.S_drewN | apply Kd.S_drew )); exact HO_WS.out) hb); have n3_ := Aside0.mk (Kd.R_below (by (with_reducible repeat (first | apply Kd.R_alloc | apply Kd.R_drewN | apply Kd.R_drew )); exact HO_XW.out) hb); have n4_ := Aside0.mk (Kd.R_below (by (with_reducible repeat (first | apply Kd.R_alloc | apply Kd.R_drewN | apply Kd.R_drew )); exact HO_XM.out) hb); have n5_ := Aside0.mk (Kd.S_below (by (with_reducible repeat (first | apply Kd.S_alloc | apply Kd.S_drewN | apply Kd.S_drew )); exact HO_XS.out) hb); have n6_ := Aside0.mk (blk_below (g := gb_aS) (o := .cells #[.slice A0_0 l0_0.length c0_0, .slice A0_1 l0_1.length c0_1, .slice A0_2 l0_2.length c0_2, .int .i64 a0_3] 49 (0, 0)) (by (with_reducible repeat (first | refine blk_drewN ?_ _ | refine blk_drew ?_ | refine blk_alloc ?_ _ )); exact BK_aS.out) hb); have n7_ := Aside0.mk (blk_below (g := gb_W) (o := .cells #[.slice Ao_WW w_0.length co_WW, .slice Ao_WM w_1.length co_WM, .slice Ao_WS w_2.length co_WS, .int .i64 w_3] 43 (0, 0)) (by (with_reducible repeat (first | refine blk_drewN ?_ _ | refine blk_drew ?_ | refine blk_alloc ?_ _ )); exact BK_W.out) hb); have n8_ := Aside0.mk (below_step (by repeat ((with_reducible exact HB.out))) hb); have n9_ := Aside0.mk (below_step (by repeat ((with_reducible exact HG.out))) hb); have n10_ := Aside0.mk (hbox); have n11_ := Aside0.mk ((by rw [hg]; exact (below_size (by repeat ((with_reducible exact HB.out)))) : w.heap.size ≤ gb_X)); have n12_ := Aside0.mk ((by rw [hg]; exact (below_size (by repeat ((with_reducible exact HG.out)))) : WG.heap.size ≤ gb_X)); have n13_ := Aside0.mk ((by rw [hg]; exact Nat.ne_of_lt (blk_lt (g := gb_aS) (o := .cells #[.slice A0_0 l0_0.length c0_0, .slice A0_1 l0_1.length c0_1, .slice A0_2 l0_2.length c0_2, .int .i64 a0_3] 49 (0, 0)) (by (with_reducible repeat (first | refine blk_drewN ?_ _ | refine blk_drew ?_ | refine blk_alloc ?_ _ )); exact BK_aS.out)) : gb_aS ≠ gb_X)); have n14_ := Aside0.mk ((by rw [hg]; exact Nat.ne_of_gt (blk_lt (g := gb_aS) (o := .cells #[.slice A0_0 l0_0.length c0_0, .slice A0_1 l0_1.length c0_1, .slice A0_2 l0_2.length c0_2, .int .i64 a0_3] 49 (0, 0)) (by (with_reducible repeat (first | refine blk_drewN ?_ _ | refine blk_drew ?_ | refine blk_alloc ?_ _ )); exact BK_aS.out)) : gb_X ≠ gb_aS)); have n15_ := Aside0.mk ((by rw [hg]; exact Nat.ne_of_lt (blk_lt (g := gb_W) (o := .cells #[.slice Ao_WW w_0.length co_WW, .slice Ao_WM w_1.length co_WM, .slice Ao_WS w_2.length co_WS, .int .i64 w_3] 43 (0, 0)) (by (with_reducible repeat (first | refine blk_drewN ?_ _ | refine blk_drew ?_ | refine blk_alloc ?_ _ )); exact BK_W.out)) : gb_W ≠ gb_X)); have n16_ := Aside0.mk ((by rw [hg]; exact Nat.ne_of_gt (blk_lt (g := gb_W) (o := .cells #[.slice Ao_WW w_0.length co_WW, .slice Ao_WM w_1.length co_WM, .slice Ao_WS w_2.length co_WS, .int .i64 w_3] 43 (0, 0)) (by (with_reducible repeat (first | refine blk_drewN ?_ _ | refine blk_drew ?_ | refine blk_alloc ?_ _ )); exact BK_W.out)) : gb_X ≠ gb_W)); (try clear HO_WW); (try clear HO_WM); (try clear HO_WS); (try clear HO_XW); (try clear HO_XM); (try clear HO_XS); (try clear BK_aS); (try clear BK_W); (try clear HB); (try clear HG); (try clear BK_X); (try clear GE_X); (try clear GG_X); (try clear NB_aS_X); (try clear NB_X_aS); (try clear NB_W_X); (try clear NB_X_W); have HO_WW := n0_; have HO_WM := n1_; have HO_WS := n2_; have HO_XW := n3_; have HO_XM := n4_; have HO_XS := n5_; have BK_aS := n6_; have BK_W := n7_; have HB := n8_; have HG := n9_; have BK_X := n10_; have GE_X := n11_; have GG_X := n12_; have NB_aS_X := n13_; have NB_X_aS := n14_; have NB_W_X := n15_; have NB_X_W := n16_; clear n0_ n1_ n2_ n3_ n4_ n5_ n6_ n7_ n8_ n9_ n10_ n11_ n12_ n13_ n14_ n15_ n16_; clear hb hbox hg; have hnb_aS_X := NB_aS_X.out; have hnb_X_aS := NB_X_aS.out; have hnb_W_X := NB_W_X.out; have hnb_X_W := NB_X_W.out; have hcz4_0 : w55.cell? ⟨gb_X, 0, none⟩ = some (.slice none 0 0) := (blk_cell BK_X.out 0).trans rfl; have hfz4_0 := blk_frozen BK_X.out 0; have hcz4_1 : w55.cell? ⟨gb_X, 1, none⟩ = some (.slice none 0 0) := (blk_cell BK_X.out 1).trans rfl; have hfz4_1 := blk_frozen BK_X.out 1; have hcz4_2 : w55.cell? ⟨gb_X, 2, none⟩ = some (.slice none 0 0) := (blk_cell BK_X.out 2).trans rfl; have hfz4_2 := blk_frozen BK_X.out 2; have hcz4_3 : w55.cell? ⟨gb_X, 3, none⟩ = some (.int .i64 0) := (blk_cell BK_X.out 3).trans rfl; have hfz4_3 := blk_frozen BK_X.out 3) | ((with_reducible refine gate_callee (f := 53) rfl ?_); refine goesL_ (some 29) rfl rfl Try.func53 (by kernel_rfl) rfl #[.agg #[.slice Ao_XW x_0.length co_XW, .slice Ao_XM x_1.length co_XM, .slice Ao_XS x_2.length co_XS, .int .i64 x_3], .string a1] rfl (by (try simp only [List.map_toArray, List.map_cons, List.map_nil]); rfl) ?_; (with_reducible refine (impl_PolicyDrop.calls k _ _ x_0 _ _ x_1 _ _ x_2 x_3 a1 g_0 g_1 g_2 g_3 _ ?side1 ?side2 ?side3 ?side4 ?side5 ?side6 A4.out).mono ?_); (case side1 => refine (Kd.R_reads' (e := 9) (base := WG.heap.size) (ok := (fun k_ => some k_ ≠ (.slice Ao_XM x_1.length co_XM : Value).ownBlock)) (n := x_0.length) (c := co_XW) ?_).2.2; exact (by (with_reducible repeat (first | apply Kd.R_alloc | apply Kd.R_drewN | apply Kd.R_drew )); exact Kd.R_drop (Kd.R_far (p := ⟨gb_X, 3, none⟩) (Kd.R_far (p := ⟨gb_X, 2, none⟩) (Kd.R_far (p := ⟨gb_X, 1, none⟩) (Kd.R_far (p := ⟨gb_X, 0, none⟩) (Kd.R_types HO_XW.out BK_X.out (by decide)) (fun _ hk => hk.2) (.slice Ao_XW x_0.length co_XW)) (fun _ hk => hk.2) (.slice Ao_XM x_1.length co_XM)) (fun _ hk => hk.2) (.slice Ao_XS x_2.length co_XS)) (fun _ hk => hk.2) (.int .i64 x_3)))); (case side2 => exact (Kd.R_reads' HO_XW.out).2.1); (case side3 => refine (Kd.R_reads' (e := 9) (base := WG.heap.size) (ok := (fun k_ => some k_ ≠ (.slice Ao_XW x_0.length co_XW : Value).ownBlock)) (n := x_1.length) (c := co_XM) ?_).2.2; exact (by (with_reducible repeat (first | apply Kd.R_alloc | apply Kd.R_drewN | apply Kd.R_drew )); exact Kd.R_drop (Kd.R_far (p := ⟨gb_X, 3, none⟩) (Kd.R_far (p := ⟨gb_X, 2, none⟩) (Kd.R_far (p := ⟨gb_X, 1, none⟩) (Kd.R_far (p := ⟨gb_X, 0, none⟩) (Kd.R_types HO_XM.out BK_X.out (by decide)) (fun _ hk => hk.2) (.slice Ao_XW x_0.length co_XW)) (fun _ hk => hk.2) (.slice Ao_XM x_1.length co_XM)) (fun _ hk => hk.2) (.slice Ao_XS x_2.length co_XS)) (fun _ hk => hk.2) (.int .i64 x_3)))); (case side4 => exact (Kd.R_reads' HO_XM.out).2.1); (case side5 => refine (Kd.S_reads' (e := 58) (base := WG.heap.size) (ok := (fun _ => True)) (n := x_2.length) (c := co_XS) ?_).2.2; exact (by (with_reducible repeat (first | apply Kd.S_alloc | apply Kd.S_drewN | apply Kd.S_drew )); exact Kd.S_drop (Kd.S_far (p := ⟨gb_X, 3, none⟩) (Kd.S_far (p := ⟨gb_X, 2, none⟩) (Kd.S_far (p := ⟨gb_X, 1, none⟩) (Kd.S_far (p := ⟨gb_X, 0, none⟩) (Kd.S_types HO_XS.out BK_X.out (by decide)) (fun _ hk => hk.2) (.slice Ao_XW x_0.length co_XW)) (fun _ hk => hk.2) (.slice Ao_XM x_1.length co_XM)) (fun _ hk => hk.2) (.slice Ao_XS x_2.length co_XS)) (fun _ hk => hk.2) (.int .i64 x_3)))); (case side6 => exact (Kd.S_reads' HO_XS.out).2.1); rintro e w56 ⟨v_GW, v_GM, v_GS, rfl, ho_GW, ho_GM, ho_GS, hb⟩; refine ⟨_, rfl, ?_⟩; have hz_ : ∃ n1 : Nat, Kd.R Kd.string 9 w56 WG.heap.size (fun k_ => n1 ≤ k_ ∧ (fun k_ => some k_ ≠ (v_GM : Value).ownBlock) k_) v_GW g_0 ∧ Kd.R Kd.string 9 w56 WG.heap.size (fun k_ => n1 ≤ k_ ∧ (fun k_ => some k_ ≠ (v_GW : Value).ownBlock) k_) v_GM g_1 ∧ Kd.S (Kd.slice 3 (Kd.int .i64)) 58 w56 WG.heap.size (fun k_ => n1 ≤ k_ ∧ (fun _ => True) k_) v_GS g_2 ∧ Kd.R Kd.string 9 w56 WG.heap.size (fun k_ => (fun k_ => some k_ ≠ (.slice Ao_XM x_1.length co_XM : Value).ownBlock) k_ ∧ k_ < n1) (.slice Ao_XW x_0.length co_XW) x_0 ∧ Kd.R Kd.string 9 w56 WG.heap.size (fun k_ => (fun k_ => some k_ ≠ (.slice Ao_XW x_0.length co_XW : Value).ownBlock) k_ ∧ k_ < n1) (.slice Ao_XM x_1.length co_XM) x_1 ∧ Kd.S (Kd.slice 3 (Kd.int .i64)) 58 w56 WG.heap.size (fun k_ => (fun _ => True) k_ ∧ k_ < n1) (.slice Ao_XS x_2.length co_XS) x_2 := ⟨_, Kd.R_mono (Kd.R_lower (Kd.R_bound ho_GW) (below_size (by repeat ((with_reducible first | exact HG.out | refine below_set ?_ GG_X.out))))) (fun k_ h_ => ⟨h_.2.1, h_.1⟩), Kd.R_mono (Kd.R_lower (Kd.R_bound ho_GM) (below_size (by repeat ((with_reducible first | exact HG.out | refine below_set ?_ GG_X.out))))) (fun k_ h_ => ⟨h_.2.1, h_.1⟩), Kd.S_mono (Kd.S_lower (Kd.S_bound ho_GS) (below_size (by repeat ((with_reducible first | exact HG.out | refine below_set ?_ GG_X.out))))) (fun k_ h_ => ⟨h_.2.1, h_.1⟩), Kd.R_old (by (with_reducible repeat (first | apply Kd.R_alloc | apply Kd.R_drewN | apply Kd.R_drew )); exact Kd.R_drop (Kd.R_far (p := ⟨gb_X, 3, none⟩) (Kd.R_far (p := ⟨gb_X, 2, none⟩) (Kd.R_far (p := ⟨gb_X, 1, none⟩) (Kd.R_far (p := ⟨gb_X, 0, none⟩) (Kd.R_types HO_XW.out BK_X.out (by decide)) (fun _ hk => hk.2) (.slice Ao_XW x_0.length co_XW)) (fun _ hk => hk.2) (.slice Ao_XM x_1.length co_XM)) (fun _ hk => hk.2) (.slice Ao_XS x_2.length co_XS)) (fun _ hk => hk.2) (.int .i64 x_3))) hb, Kd.R_old (by (with_reducible repeat (first | apply Kd.R_alloc | apply Kd.R_drewN | apply Kd.R_drew )); exact Kd.R_drop (Kd.R_far (p := ⟨gb_X, 3, none⟩) (Kd.R_far (p := ⟨gb_X, 2, none⟩) (Kd.R_far (p := ⟨gb_X, 1, none⟩) (Kd.R_far (p := ⟨gb_X, 0, none⟩) (Kd.R_types HO_XM.out BK_X.out (by decide)) (fun _ hk => hk.2) (.slice Ao_XW x_0.length co_XW)) (fun _ hk => hk.2) (.slice Ao_XM x_1.length co_XM)) (fun _ hk => hk.2) (.slice Ao_XS x_2.length co_XS)) (fun _ hk => hk.2) (.int .i64 x_3))) hb, Kd.S_old (by (with_reducible repeat (first | apply Kd.S_alloc | apply Kd.S_drewN | apply Kd.S_drew )); exact Kd.S_drop (Kd.S_far (p := ⟨gb_X, 3, none⟩) (Kd.S_far (p := ⟨gb_X, 2, none⟩) (Kd.S_far (p := ⟨gb_X, 1, none⟩) (Kd.S_far (p := ⟨gb_X, 0, none⟩) (Kd.S_types HO_XS.out BK_X.out (by decide)) (fun _ hk => hk.2) (.slice Ao_XW x_0.length co_XW)) (fun _ hk => hk.2) (.slice Ao_XM x_1.length co_XM)) (fun _ hk => hk.2) (.slice Ao_XS x_2.length co_XS)) (fun _ hk => hk.2) (.int .i64 x_3))) hb⟩; obtain ⟨n1, hx_GW, hx_GM, hx_GS, hy_XW, hy_XM, hy_XS⟩ := hz_; have n0_ := Aside0.mk (hy_XW); have n1_ := Aside0.mk (hy_XM); have n2_ := Aside0.mk (hy_XS); have n3_ := Aside0.mk (hx_GW); have n4_ := Aside0.mk (hx_GM); have n5_ := Aside0.mk (hx_GS); have n6_ := Aside0.mk (Kd.R_below (by (with_reducible repeat (first | apply Kd.R_alloc | apply Kd.R_drewN | apply Kd.R_drew )); exact Kd.R_drop (Kd.R_far (p := ⟨gb_X, 3, none⟩) (Kd.R_far (p := ⟨gb_X, 2, none⟩) (Kd.R_far (p := ⟨gb_X, 1, none⟩) (Kd.R_far (p := ⟨gb_X, 0, none⟩) (Kd.R_types HO_WW.out BK_X.out (by decide)) (fun _ hk => hk.2) (.slice Ao_XW x_0.length co_XW)) (fun _ hk => hk.2) (.slice Ao_XM x_1.length co_XM)) (fun _ hk => hk.2) (.slice Ao_XS x_2.length co_XS)) (fun _ hk => hk.2) (.int .i64 x_3))) hb); have n7_ := Aside0.mk (Kd.R_below (by (with_reducible repeat (first | apply Kd.R_alloc | apply Kd.R_drewN | apply Kd.R_drew )); exact Kd.R_drop (Kd.R_far (p := ⟨gb_X, 3, none⟩) (Kd.R_far (p := ⟨gb_X, 2, none⟩) (Kd.R_far (p := ⟨gb_X, 1, none⟩) (Kd.R_far (p := ⟨gb_X, 0, none⟩) (Kd.R_types HO_WM.out BK_X.out (by decide)) (fun _ hk => hk.2) (.slice Ao_XW x_0.length co_XW)) (fun _ hk => hk.2) (.slice Ao_XM x_1.length co_XM)) (fun _ hk => hk.2) (.slice Ao_XS x_2.length co_XS)) (fun _ hk => hk.2) (.int .i64 x_3))) hb); have n8_ := Aside0.mk (Kd.S_below (by (with_reducible repeat (first | apply Kd.S_alloc | apply Kd.S_drewN | apply Kd.S_drew )); exact Kd.S_drop (Kd.S_far (p := ⟨gb_X, 3, none⟩) (Kd.S_far (p := ⟨gb_X, 2, none⟩) (Kd.S_far (p := ⟨gb_X, 1, none⟩) (Kd.S_far (p := ⟨gb_X, 0, none⟩) (Kd.S_types HO_WS.out BK_X.out (by decide)) (fun _ hk => hk.2) (.slice Ao_XW x_0.length co_XW)) (fun _ hk => hk.2) (.slice Ao_XM x_1.length co_XM)) (fun _ hk => hk.2) (.slice Ao_XS x_2.length co_XS)) (fun _ hk => hk.2) (.int .i64 x_3))) hb); have n9_ := Aside0.mk (blk_below (g := gb_aS) (o := .cells #[.slice A0_0 l0_0.length c0_0, .slice A0_1 l0_1.length c0_1, .slice A0_2 l0_2.length c0_2, .int .i64 a0_3] 49 (0, 0)) (by (with_reducible repeat (first | refine blk_drewN ?_ _ | refine blk_drew ?_ | refine blk_alloc ?_ _ )); refine blk_far ?_ NB_aS_X.out _; (with_reducible repeat (first | refine blk_drewN ?_ _ | refine blk_drew ?_ | refine blk_alloc ?_ _ )); refine blk_far ?_ NB_aS_X.out _; (with_reducible repeat (first | refine blk_drewN ?_ _ | refine blk_drew ?_ | refine blk_alloc ?_ _ )); refine blk_far ?_ NB_aS_X.out _; (with_reducible repeat (first | refine blk_drewN ?_ _ | refine blk_drew ?_ | refine blk_alloc ?_ _ )); refine blk_far ?_ NB_aS_X.out _; (with_reducible repeat (first | refine blk_drewN ?_ _ | refine blk_drew ?_ | refine blk_alloc ?_ _ )); exact BK_aS.out) hb); have n10_ := Aside0.mk (blk_below (g := gb_W) (o := .cells #[.slice Ao_WW w_0.length co_WW, .slice Ao_WM w_1.length co_WM, .slice Ao_WS w_2.length co_WS, .int .i64 w_3] 43 (0, 0)) (by (with_reducible repeat (first | refine blk_drewN ?_ _ | refine blk_drew ?_ | refine blk_alloc ?_ _ )); refine blk_far ?_ NB_W_X.out _; (with_reducible repeat (first | refine blk_drewN ?_ _ | refine blk_drew ?_ | refine blk_alloc ?_ _ )); refine blk_far ?_ NB_W_X.out _; (with_reducible repeat (first | refine blk_drewN ?_ _ | refine blk_drew ?_ | refine blk_alloc ?_ _ )); refine blk_far ?_ NB_W_X.out _; (with_reducible repeat (first | refine blk_drewN ?_ _ | refine blk_drew ?_ | refine blk_alloc ?_ _ )); refine blk_far ?_ NB_W_X.out _; (with_reducible repeat (first | refine blk_drewN ?_ _ | refine blk_drew ?_ | refine blk_alloc ?_ _ )); exact BK_W.out) hb); have n11_ := Aside0.mk (blk_below (g := gb_X) (o := .cells #[.slice Ao_XW x_0.length co_XW, .slice Ao_XM x_1.length co_XM, .slice Ao_XS x_2.length co_XS, .int .i64 x_3] 43 (0, 0)) (by (with_reducible repeat (first | refine blk_drewN ?_ _ | refine blk_drew ?_ | refine blk_alloc ?_ _ )); refine blk_put (cs := #[.slice Ao_XW x_0.length co_XW, .slice Ao_XM x_1.length co_XM, .slice Ao_XS x_2.length co_XS, .int .i64 0]) ?_ 3 _ rfl; (with_reducible repeat (first | refine blk_drewN ?_ _ | refine blk_drew ?_ | refine blk_alloc ?_ _ )); refine blk_put (cs := #[.slice Ao_XW x_0.length co_XW, .slice Ao_XM x_1.length co_XM, .slice none 0 0, .int .i64 0]) ?_ 2 _ rfl; (with_reducible repeat (first | refine blk_drewN ?_ _ | refine blk_drew ?_ | refine blk_alloc ?_ _ )); refine blk_put (cs := #[.slice Ao_XW x_0.length co_XW, .slice none 0 0, .slice none 0 0, .int .i64 0]) ?_ 1 _ rfl; (with_reducible repeat (first | refine blk_drewN ?_ _ | refine blk_drew ?_ | refine blk_alloc ?_ _ )); refine blk_put (cs := #[.slice none 0 0, .slice none 0 0, .slice none 0 0, .int .i64 0]) ?_ 0 _ rfl; (with_reducible repeat (first | refine blk_drewN ?_ _ | refine blk_drew ?_ | refine blk_alloc ?_ _ )); exact BK_X.out) hb); have n12_ := Aside0.mk (below_step (by repeat ((with_reducible first | exact HB.out | refine below_set ?_ GE_X.out))) hb); have n13_ := Aside0.mk (below_step (by repeat ((with_reducible first | exact HG.out | refine below_set ?_ GG_X.out))) hb); (try clear HO_XW); (try clear HO_XM); (try clear HO_XS); (try clear HO_GW); (try clear HO_GM); (try clear HO_GS); (try clear HO_WW); (try clear HO_WM); (try clear HO_WS); (try clear BK_aS); (try clear BK_W); (try clear BK_X); (try clear HB); (try clear HG); have HO_XW := n0_; have HO_XM := n1_; have HO_XS := n2_; have HO_GW := n3_; have HO_GM := n4_; have HO_GS := n5_; have HO_WW := n6_; have HO_WM := n7_; have HO_WS := n8_; have BK_aS := n9_; have BK_W := n10_; have BK_X := n11_; have HB := n12_; have HG := n13_; clear n0_ n1_ n2_ n3_ n4_ n5_ n6_ n7_ n8_ n9_ n10_ n11_ n12_ n13_; (try clear hb ho_GW ho_GM ho_GS hx_GW hx_GM hx_GS hy_XW hy_XM hy_XS); obtain ⟨Ao_GW, co_GW, eo_GW⟩ := Kd.R_slice HO_GW.out; subst eo_GW; obtain ⟨Ao_GM, co_GM, eo_GM⟩ := Kd.R_slice HO_GM.out; subst eo_GM; obtain ⟨Ao_GS, co_GS, eo_GS⟩ := Kd.S_slice HO_GS.out; subst eo_GS) | ((with_reducible refine gate_dst (N := 8) rfl ?_); refine box_event ?hg (N := 8) ?hd (cs := #[.slice none 0 0, .slice none 0 0, .slice none 0 0, .int .i64 0]) (t := 43) ?hr ?_; (case hd => rfl); (case hg => rfl); (case hr => (go_simp; done)); intro gb_G hg w57 hbox hb; have n0_ := Aside0.mk (Kd.R_below (by (with_reducible repeat (first | apply Kd.R_alloc | apply Kd.R_drewN | apply Kd.R_drew )); exact HO_WW.out) hb); have n1_ := Aside0.mk (Kd.R_below (by (with_reducible repeat (first | apply Kd.R_alloc | apply Kd.R_drewN | apply Kd.R_drew )); exact HO_WM.out) hb); have n2_ := Aside0.mk (Kd.S_below (by (with_reducible repeat (first | apply Kd.S_alloc | apply Kd.S_drewN | apply Kd.S_drew )); exact HO_WS.out) hb); have n3_ := Aside0.mk (Kd.R_below (by (with_reducible repeat (first | apply Kd.R_alloc | apply Kd.R_drewN | apply Kd.R_drew )); exact HO_XW.out) hb); have n4_ := Aside0.mk (Kd.R_below (by (with_reducible repeat (first | apply Kd.R_alloc | apply Kd.R_drewN | apply Kd.R_drew )); exact HO_XM.out) hb); have n5_ := Aside0.mk (Kd.S_below (by (with_reducible repeat (first | apply Kd.S_alloc | apply Kd.S_drewN | apply Kd.S_drew )); exact HO_XS.out) hb); have n6_ := Aside0.mk (Kd.R_below (by (with_reducible repeat (first | apply Kd.R_alloc | apply Kd.R_drewN | apply Kd.R_drew )); exact HO_GW.out) hb); have n7_ := Aside0.mk (Kd.R_below (by (with_reducible repeat (first | apply Kd.R_alloc | apply Kd.R_drewN | apply Kd.R_drew )); exact HO_GM.out) hb); have n8_ := Aside0.mk (Kd.S_below (by (with_reducible repeat (first | apply Kd.S_alloc | apply Kd.S_drewN | apply Kd.S_drew )); exact HO_GS.out) hb); have n9_ := Aside0.mk (blk_below (g := gb_aS) (o := .cells #[.slice A0_0 l0_0.length c0_0, .slice A0_1 l0_1.length c0_1, .slice A0_2 l0_2.length c0_2, .int .i64 a0_3] 49 (0, 0)) (by (with_reducible repeat (first | refine blk_drewN ?_ _ | refine blk_drew ?_ | refine blk_alloc ?_ _ )); exact BK_aS.out) hb); have n10_ := Aside0.mk (blk_below (g := gb_W) (o := .cells #[.slice Ao_WW w_0.length co_WW, .slice Ao_WM w_1.length co_WM, .slice Ao_WS w_2.length co_WS, .int .i64 w_3] 43 (0, 0)) (by (with_reducible repeat (first | refine blk_drewN ?_ _ | refine blk_drew ?_ | refine blk_alloc ?_ _ )); exact BK_W.out) hb); have n11_ := Aside0.mk (blk_below (g := gb_X) (o := .cells #[.slice Ao_XW x_0.length co_XW, .slice Ao_XM x_1.length co_XM, .slice Ao_XS x_2.length co_XS, .int .i64 x_3] 43 (0, 0)) (by (with_reducible repeat (first | refine blk_drewN ?_ _ | refine blk_drew ?_ | refine blk_alloc ?_ _ )); exact BK_X.out) hb); have n12_ := Aside0.mk (below_step (by repeat ((with_reducible exact HB.out))) hb); have n13_ := Aside0.mk (below_step (by repeat ((with_reducible exact HG.out))) hb); have n14_ := Aside0.mk (hbox); have n15_ := Aside0.mk ((by rw [hg]; exact (below_size (by repeat ((with_reducible exact HB.out)))) : w.heap.size ≤ gb_G)); have n16_ := Aside0.mk ((by rw [hg]; exact (below_size (by repeat ((with_reducible exact HG.out)))) : WG.heap.size ≤ gb_G)); have n17_ := Aside0.mk ((by rw [hg]; exact Nat.ne_of_lt (blk_lt (g := gb_aS) (o := .cells #[.slice A0_0 l0_0.length c0_0, .slice A0_1 l0_1.length c0_1, .slice A0_2 l0_2.length c0_2, .int .i64 a0_3] 49 (0, 0)) (by (with_reducible repeat (first | refine blk_drewN ?_ _ | refine blk_drew ?_ | refine blk_alloc ?_ _ )); exact BK_aS.out)) : gb_aS ≠ gb_G)); have n18_ := Aside0.mk ((by rw [hg]; exact Nat.ne_of_gt (blk_lt (g := gb_aS) (o := .cells #[.slice A0_0 l0_0.length c0_0, .slice A0_1 l0_1.length c0_1, .slice A0_2 l0_2.length c0_2, .int .i64 a0_3] 49 (0, 0)) (by (with_reducible repeat (first | refine blk_drewN ?_ _ | refine blk_drew ?_ | refine blk_alloc ?_ _ )); exact BK_aS.out)) : gb_G ≠ gb_aS)); have n19_ := Aside0.mk ((by rw [hg]; exact Nat.ne_of_lt (blk_lt (g := gb_W) (o := .cells #[.slice Ao_WW w_0.length co_WW, .slice Ao_WM w_1.length co_WM, .slice Ao_WS w_2.length co_WS, .int .i64 w_3] 43 (0, 0)) (by (with_reducible repeat (first | refine blk_drewN ?_ _ | refine blk_drew ?_ | refine blk_alloc ?_ _ )); exact BK_W.out)) : gb_W ≠ gb_G)); have n20_ := Aside0.mk ((by rw [hg]; exact Nat.ne_of_gt (blk_lt (g := gb_W) (o := .cells #[.slice Ao_WW w_0.length co_WW, .slice Ao_WM w_1.length co_WM, .slice Ao_WS w_2.length co_WS, .int .i64 w_3] 43 (0, 0)) (by (with_reducible repeat (first | refine blk_drewN ?_ _ | refine blk_drew ?_ | refine blk_alloc ?_ _ )); exact BK_W.out)) : gb_G ≠ gb_W)); have n21_ := Aside0.mk ((by rw [hg]; exact Nat.ne_of_lt (blk_lt (g := gb_X) (o := .cells #[.slice Ao_XW x_0.length co_XW, .slice Ao_XM x_1.length co_XM, .slice Ao_XS x_2.length co_XS, .int .i64 x_3] 43 (0, 0)) (by (with_reducible repeat (first | refine blk_drewN ?_ _ | refine blk_drew ?_ | refine blk_alloc ?_ _ )); exact BK_X.out)) : gb_X ≠ gb_G)); have n22_ := Aside0.mk ((by rw [hg]; exact Nat.ne_of_gt (blk_lt (g := gb_X) (o := .cells #[.slice Ao_XW x_0.length co_XW, .slice Ao_XM x_1.length co_XM, .slice Ao_XS x_2.length co_XS, .int .i64 x_3] 43 (0, 0)) (by (with_reducible repeat (first | refine blk_drewN ?_ _ | refine blk_drew ?_ | refine blk_alloc ?_ _ )); exact BK_X.out)) : gb_G ≠ gb_X)); (try clear HO_WW); (try clear HO_WM); (try clear HO_WS); (try clear HO_XW); (try clear HO_XM); (try clear HO_XS); (try clear HO_GW); (try clear HO_GM); (try clear HO_GS); (try clear BK_aS); (try clear BK_W); (try clear BK_X); (try clear HB); (try clear HG); (try clear BK_G); (try clear GE_G); (try clear GG_G); (try clear NB_aS_G); (try clear NB_G_aS); (try clear NB_W_G); (try clear NB_G_W); (try clear NB_X_G); (try clear NB_G_X); have HO_WW := n0_; have HO_WM := n1_; have HO_WS := n2_; have HO_XW := n3_; have HO_XM := n4_; have HO_XS := n5_; have HO_GW := n6_; have HO_GM := n7_; have HO_GS := n8_; have BK_aS := n9_; have BK_W := n10_; have BK_X := n11_; have HB := n12_; have HG := n13_; have BK_G := n14_; have GE_G := n15_; have GG_G := n16_; have NB_aS_G := n17_; have NB_G_aS := n18_; have NB_W_G := n19_; have NB_G_W := n20_; have NB_X_G := n21_; have NB_G_X := n22_; clear n0_ n1_ n2_ n3_ n4_ n5_ n6_ n7_ n8_ n9_ n10_ n11_ n12_ n13_ n14_ n15_ n16_ n17_ n18_ n19_ n20_ n21_ n22_; clear hb hbox hg; have hnb_aS_G := NB_aS_G.out; have hnb_G_aS := NB_G_aS.out; have hnb_W_G := NB_W_G.out; have hnb_G_W := NB_G_W.out; have hnb_X_G := NB_X_G.out; have hnb_G_X := NB_G_X.out; have hcz5_0 : w57.cell? ⟨gb_G, 0, none⟩ = some (.slice none 0 0) := (blk_cell BK_G.out 0).trans rfl; have hfz5_0 := blk_frozen BK_G.out 0; have hcz5_1 : w57.cell? ⟨gb_G, 1, none⟩ = some (.slice none 0 0) := (blk_cell BK_G.out 1).trans rfl; have hfz5_1 := blk_frozen BK_G.out 1; have hcz5_2 : w57.cell? ⟨gb_G, 2, none⟩ = some (.slice none 0 0) := (blk_cell BK_G.out 2).trans rfl; have hfz5_2 := blk_frozen BK_G.out 2; have hcz5_3 : w57.cell? ⟨gb_G, 3, none⟩ = some (.int .i64 0) := (blk_cell BK_G.out 3).trans rfl; have hfz5_3 := blk_frozen BK_G.out 3; have hcz6_0 : w57.cell? ⟨gb_W, 0, none⟩ = some (.slice Ao_WW w_0.length co_WW) := (blk_cell BK_W.out 0).trans rfl; have hfz6_0 := blk_frozen BK_W.out 0; have hcz6_1 : w57.cell? ⟨gb_W, 1, none⟩ = some (.slice Ao_WM w_1.length co_WM) := (blk_cell BK_W.out 1).trans rfl; have hfz6_1 := blk_frozen BK_W.out 1; have hcz6_2 : w57.cell? ⟨gb_W, 2, none⟩ = some (.slice Ao_WS w_2.length co_WS) := (blk_cell BK_W.out 2).trans rfl; have hfz6_2 := blk_frozen BK_W.out 2; have hcz6_3 : w57.cell? ⟨gb_W, 3, none⟩ = some (.int .i64 w_3) := (blk_cell BK_W.out 3).trans rfl; have hfz6_3 := blk_frozen BK_W.out 3) | ((with_reducible refine gate_callee (f := 34) rfl ?_); refine goesL_ (some 32) rfl rfl Try.func34 (by kernel_rfl) rfl #[.agg #[.slice Ao_GW g_0.length co_GW, .slice Ao_GM g_1.length co_GM, .slice Ao_GS g_2.length co_GS, .int .i64 g_3], .agg #[.slice Ao_WW w_0.length co_WW, .slice Ao_WM w_1.length co_WM, .slice Ao_WS w_2.length co_WS, .int .i64 w_3]] rfl (by (try simp only [List.map_toArray, List.map_cons, List.map_nil]); rfl) ?_; (with_reducible refine (laws_eqPolicy.calls k _ _ g_0 _ _ g_1 _ _ g_2 g_3 _ _ w_0 _ _ w_1 _ _ w_2 w_3 true _ ?side1 ?side2 ?side3 ?side4 ?side5 ?side6 ?side7 ?side8 ?side9 ?side10 ?side11 ?side12 A5.out).mono ?_); (case side1 => refine (Kd.R_reads' (e := 9) (base := WG.heap.size) (ok := (fun k_ => n1 ≤ k_ ∧ (fun k_ => some k_ ≠ (.slice Ao_GM g_1.length co_GM : Value).ownBlock) k_)) (n := g_0.length) (c := co_GW) ?_).2.2; exact (by (with_reducible repeat (first | apply Kd.R_alloc | apply Kd.R_drewN | apply Kd.R_drew )); exact Kd.R_drop (Kd.R_far (p := ⟨gb_G, 3, none⟩) (Kd.R_far (p := ⟨gb_G, 2, none⟩) (Kd.R_far (p := ⟨gb_G, 1, none⟩) (Kd.R_far (p := ⟨gb_G, 0, none⟩) (Kd.R_types HO_GW.out BK_G.out (by decide)) (fun _ hk => hk.2) (.slice Ao_GW g_0.length co_GW)) (fun _ hk => hk.2) (.slice Ao_GM g_1.length co_GM)) (fun _ hk => hk.2) (.slice Ao_GS g_2.length co_GS)) (fun _ hk => hk.2) (.int .i64 g_3)))); (case side2 => exact (Kd.R_reads' HO_GW.out).2.1); (case side3 => refine (Kd.R_reads' (e := 9) (base := WG.heap.size) (ok := (fun k_ => n1 ≤ k_ ∧ (fun k_ => some k_ ≠ (.slice Ao_GW g_0.length co_GW : Value).ownBlock) k_)) (n := g_1.length) (c := co_GM) ?_).2.2; exact (by (with_reducible repeat (first | apply Kd.R_alloc | apply Kd.R_drewN | apply Kd.R_drew )); exact Kd.R_drop (Kd.R_far (p := ⟨gb_G, 3, none⟩) (Kd.R_far (p := ⟨gb_G, 2, none⟩) (Kd.R_far (p := ⟨gb_G, 1, none⟩) (Kd.R_far (p := ⟨gb_G, 0, none⟩) (Kd.R_types HO_GM.out BK_G.out (by decide)) (fun _ hk => hk.2) (.slice Ao_GW g_0.length co_GW)) (fun _ hk => hk.2) (.slice Ao_GM g_1.length co_GM)) (fun _ hk => hk.2) (.slice Ao_GS g_2.length co_GS)) (fun _ hk => hk.2) (.int .i64 g_3)))); (case side4 => exact (Kd.R_reads' HO_GM.out).2.1); (case side5 => refine (Kd.S_reads' (e := 58) (base := WG.heap.size) (ok := (fun k_ => n1 ≤ k_ ∧ (fun _ => True) k_)) (n := g_2.length) (c := co_GS) ?_).2.2; exact (by (with_reducible repeat (first | apply Kd.S_alloc | apply Kd.S_drewN | apply Kd.S_drew )); exact Kd.S_drop (Kd.S_far (p := ⟨gb_G, 3, none⟩) (Kd.S_far (p := ⟨gb_G, 2, none⟩) (Kd.S_far (p := ⟨gb_G, 1, none⟩) (Kd.S_far (p := ⟨gb_G, 0, none⟩) (Kd.S_types HO_GS.out BK_G.out (by decide)) (fun _ hk => hk.2) (.slice Ao_GW g_0.length co_GW)) (fun _ hk => hk.2) (.slice Ao_GM g_1.length co_GM)) (fun _ hk => hk.2) (.slice Ao_GS g_2.length co_GS)) (fun _ hk => hk.2) (.int .i64 g_3)))); (case side6 => exact (Kd.S_reads' HO_GS.out).2.1); (case side7 => refine (Kd.R_reads' (e := 9) (base := w.heap.size) (ok := (fun k_ => True ∧ k_ < WG.heap.size)) (n := w_0.length) (c := co_WW) ?_).2.2; exact (by (with_reducible repeat (first | apply Kd.R_alloc | apply Kd.R_drewN | apply Kd.R_drew )); exact Kd.R_drop (Kd.R_far (p := ⟨gb_G, 3, none⟩) (Kd.R_far (p := ⟨gb_G, 2, none⟩) (Kd.R_far (p := ⟨gb_G, 1, none⟩) (Kd.R_far (p := ⟨gb_G, 0, none⟩) (Kd.R_types HO_WW.out BK_G.out (by decide)) (fun _ hk => hk.2) (.slice Ao_GW g_0.length co_GW)) (fun _ hk => hk.2) (.slice Ao_GM g_1.length co_GM)) (fun _ hk => hk.2) (.slice Ao_GS g_2.length co_GS)) (fun _ hk => hk.2) (.int .i64 g_3)))); (case side8 => exact (Kd.R_reads' HO_WW.out).2.1); (case side9 => refine (Kd.R_reads' (e := 9) (base := w.heap.size) (ok := (fun k_ => True ∧ k_ < WG.heap.size)) (n := w_1.length) (c := co_WM) ?_).2.2; exact (by (with_reducible repeat (first | apply Kd.R_alloc | apply Kd.R_drewN | apply Kd.R_drew )); exact Kd.R_drop (Kd.R_far (p := ⟨gb_G, 3, none⟩) (Kd.R_far (p := ⟨gb_G, 2, none⟩) (Kd.R_far (p := ⟨gb_G, 1, none⟩) (Kd.R_far (p := ⟨gb_G, 0, none⟩) (Kd.R_types HO_WM.out BK_G.out (by decide)) (fun _ hk => hk.2) (.slice Ao_GW g_0.length co_GW)) (fun _ hk => hk.2) (.slice Ao_GM g_1.length co_GM)) (fun _ hk => hk.2) (.slice Ao_GS g_2.length co_GS)) (fun _ hk => hk.2) (.int .i64 g_3)))); (case side10 => exact (Kd.R_reads' HO_WM.out).2.1); (case side11 => refine (Kd.S_reads' (e := 58) (base := w.heap.size) (ok := (fun k_ => True ∧ k_ < WG.heap.size)) (n := w_2.length) (c := co_WS) ?_).2.2; exact (by (with_reducible repeat (first | apply Kd.S_alloc | apply Kd.S_drewN | apply Kd.S_drew )); exact Kd.S_drop (Kd.S_far (p := ⟨gb_G, 3, none⟩) (Kd.S_far (p := ⟨gb_G, 2, none⟩) (Kd.S_far (p := ⟨gb_G, 1, none⟩) (Kd.S_far (p := ⟨gb_G, 0, none⟩) (Kd.S_types HO_WS.out BK_G.out (by decide)) (fun _ hk => hk.2) (.slice Ao_GW g_0.length co_GW)) (fun _ hk => hk.2) (.slice Ao_GM g_1.length co_GM)) (fun _ hk => hk.2) (.slice Ao_GS g_2.length co_GS)) (fun _ hk => hk.2) (.int .i64 g_3)))); (case side12 => exact (Kd.S_reads' HO_WS.out).2.1); rintro e w58 ⟨rfl, hb⟩; refine ⟨_, rfl, ?_⟩; have n0_ := Aside0.mk (Kd.R_below (by (with_reducible repeat (first | apply Kd.R_alloc | apply Kd.R_drewN | apply Kd.R_drew )); exact Kd.R_drop (Kd.R_far (p := ⟨gb_G, 3, none⟩) (Kd.R_far (p := ⟨gb_G, 2, none⟩) (Kd.R_far (p := ⟨gb_G, 1, none⟩) (Kd.R_far (p := ⟨gb_G, 0, none⟩) (Kd.R_types HO_WW.out BK_G.out (by decide)) (fun _ hk => hk.2) (.slice Ao_GW g_0.length co_GW)) (fun _ hk => hk.2) (.slice Ao_GM g_1.length co_GM)) (fun _ hk => hk.2) (.slice Ao_GS g_2.length co_GS)) (fun _ hk => hk.2) (.int .i64 g_3))) hb); have n1_ := Aside0.mk (Kd.R_below (by (with_reducible repeat (first | apply Kd.R_alloc | apply Kd.R_drewN | apply Kd.R_drew )); exact Kd.R_drop (Kd.R_far (p := ⟨gb_G, 3, none⟩) (Kd.R_far (p := ⟨gb_G, 2, none⟩) (Kd.R_far (p := ⟨gb_G, 1, none⟩) (Kd.R_far (p := ⟨gb_G, 0, none⟩) (Kd.R_types HO_WM.out BK_G.out (by decide)) (fun _ hk => hk.2) (.slice Ao_GW g_0.length co_GW)) (fun _ hk => hk.2) (.slice Ao_GM g_1.length co_GM)) (fun _ hk => hk.2) (.slice Ao_GS g_2.length co_GS)) (fun _ hk => hk.2) (.int .i64 g_3))) hb); have n2_ := Aside0.mk (Kd.S_below (by (with_reducible repeat (first | apply Kd.S_alloc | apply Kd.S_drewN | apply Kd.S_drew )); exact Kd.S_drop (Kd.S_far (p := ⟨gb_G, 3, none⟩) (Kd.S_far (p := ⟨gb_G, 2, none⟩) (Kd.S_far (p := ⟨gb_G, 1, none⟩) (Kd.S_far (p := ⟨gb_G, 0, none⟩) (Kd.S_types HO_WS.out BK_G.out (by decide)) (fun _ hk => hk.2) (.slice Ao_GW g_0.length co_GW)) (fun _ hk => hk.2) (.slice Ao_GM g_1.length co_GM)) (fun _ hk => hk.2) (.slice Ao_GS g_2.length co_GS)) (fun _ hk => hk.2) (.int .i64 g_3))) hb); have n3_ := Aside0.mk (Kd.R_below (by (with_reducible repeat (first | apply Kd.R_alloc | apply Kd.R_drewN | apply Kd.R_drew )); exact Kd.R_drop (Kd.R_far (p := ⟨gb_G, 3, none⟩) (Kd.R_far (p := ⟨gb_G, 2, none⟩) (Kd.R_far (p := ⟨gb_G, 1, none⟩) (Kd.R_far (p := ⟨gb_G, 0, none⟩) (Kd.R_types HO_XW.out BK_G.out (by decide)) (fun _ hk => hk.2) (.slice Ao_GW g_0.length co_GW)) (fun _ hk => hk.2) (.slice Ao_GM g_1.length co_GM)) (fun _ hk => hk.2) (.slice Ao_GS g_2.length co_GS)) (fun _ hk => hk.2) (.int .i64 g_3))) hb); have n4_ := Aside0.mk (Kd.R_below (by (with_reducible repeat (first | apply Kd.R_alloc | apply Kd.R_drewN | apply Kd.R_drew )); exact Kd.R_drop (Kd.R_far (p := ⟨gb_G, 3, none⟩) (Kd.R_far (p := ⟨gb_G, 2, none⟩) (Kd.R_far (p := ⟨gb_G, 1, none⟩) (Kd.R_far (p := ⟨gb_G, 0, none⟩) (Kd.R_types HO_XM.out BK_G.out (by decide)) (fun _ hk => hk.2) (.slice Ao_GW g_0.length co_GW)) (fun _ hk => hk.2) (.slice Ao_GM g_1.length co_GM)) (fun _ hk => hk.2) (.slice Ao_GS g_2.length co_GS)) (fun _ hk => hk.2) (.int .i64 g_3))) hb); have n5_ := Aside0.mk (Kd.S_below (by (with_reducible repeat (first | apply Kd.S_alloc | apply Kd.S_drewN | apply Kd.S_drew )); exact Kd.S_drop (Kd.S_far (p := ⟨gb_G, 3, none⟩) (Kd.S_far (p := ⟨gb_G, 2, none⟩) (Kd.S_far (p := ⟨gb_G, 1, none⟩) (Kd.S_far (p := ⟨gb_G, 0, none⟩) (Kd.S_types HO_XS.out BK_G.out (by decide)) (fun _ hk => hk.2) (.slice Ao_GW g_0.length co_GW)) (fun _ hk => hk.2) (.slice Ao_GM g_1.length co_GM)) (fun _ hk => hk.2) (.slice Ao_GS g_2.length co_GS)) (fun _ hk => hk.2) (.int .i64 g_3))) hb); have n6_ := Aside0.mk (Kd.R_below (by (with_reducible repeat (first | apply Kd.R_alloc | apply Kd.R_drewN | apply Kd.R_drew )); exact Kd.R_drop (Kd.R_far (p := ⟨gb_G, 3, none⟩) (Kd.R_far (p := ⟨gb_G, 2, none⟩) (Kd.R_far (p := ⟨gb_G, 1, none⟩) (Kd.R_far (p := ⟨gb_G, 0, none⟩) (Kd.R_types HO_GW.out BK_G.out (by decide)) (fun _ hk => hk.2) (.slice Ao_GW g_0.length co_GW)) (fun _ hk => hk.2) (.slice Ao_GM g_1.length co_GM)) (fun _ hk => hk.2) (.slice Ao_GS g_2.length co_GS)) (fun _ hk => hk.2) (.int .i64 g_3))) hb); have n7_ := Aside0.mk (Kd.R_below (by (with_reducible repeat (first | apply Kd.R_alloc | apply Kd.R_drewN | apply Kd.R_drew )); exact Kd.R_drop (Kd.R_far (p := ⟨gb_G, 3, none⟩) (Kd.R_far (p := ⟨gb_G, 2, none⟩) (Kd.R_far (p := ⟨gb_G, 1, none⟩) (Kd.R_far (p := ⟨gb_G, 0, none⟩) (Kd.R_types HO_GM.out BK_G.out (by decide)) (fun _ hk => hk.2) (.slice Ao_GW g_0.length co_GW)) (fun _ hk => hk.2) (.slice Ao_GM g_1.length co_GM)) (fun _ hk => hk.2) (.slice Ao_GS g_2.length co_GS)) (fun _ hk => hk.2) (.int .i64 g_3))) hb); have n8_ := Aside0.mk (Kd.S_below (by (with_reducible repeat (first | apply Kd.S_alloc | apply Kd.S_drewN | apply Kd.S_drew )); exact Kd.S_drop (Kd.S_far (p := ⟨gb_G, 3, none⟩) (Kd.S_far (p := ⟨gb_G, 2, none⟩) (Kd.S_far (p := ⟨gb_G, 1, none⟩) (Kd.S_far (p := ⟨gb_G, 0, none⟩) (Kd.S_types HO_GS.out BK_G.out (by decide)) (fun _ hk => hk.2) (.slice Ao_GW g_0.length co_GW)) (fun _ hk => hk.2) (.slice Ao_GM g_1.length co_GM)) (fun _ hk => hk.2) (.slice Ao_GS g_2.length co_GS)) (fun _ hk => hk.2) (.int .i64 g_3))) hb); have n9_ := Aside0.mk (blk_below (g := gb_aS) (o := .cells #[.slice A0_0 l0_0.length c0_0, .slice A0_1 l0_1.length c0_1, .slice A0_2 l0_2.length c0_2, .int .i64 a0_3] 49 (0, 0)) (by (with_reducible repeat (first | refine blk_drewN ?_ _ | refine blk_drew ?_ | refine blk_alloc ?_ _ )); refine blk_far ?_ NB_aS_G.out _; (with_reducible repeat (first | refine blk_drewN ?_ _ | refine blk_drew ?_ | refine blk_alloc ?_ _ )); refine blk_far ?_ NB_aS_G.out _; (with_reducible repeat (first | refine blk_drewN ?_ _ | refine blk_drew ?_ | refine blk_alloc ?_ _ )); refine blk_far ?_ NB_aS_G.out _; (with_reducible repeat (first | refine blk_drewN ?_ _ | refine blk_drew ?_ | refine blk_alloc ?_ _ )); refine blk_far ?_ NB_aS_G.out _; (with_reducible repeat (first | refine blk_drewN ?_ _ | refine blk_drew ?_ | refine blk_alloc ?_ _ )); exact BK_aS.out) hb); have n10_ := Aside0.mk (blk_below (g := gb_W) (o := .cells #[.slice Ao_WW w_0.length co_WW, .slice Ao_WM w_1.length co_WM, .slice Ao_WS w_2.length co_WS, .int .i64 w_3] 43 (0, 0)) (by (with_reducible repeat (first | refine blk_drewN ?_ _ | refine blk_drew ?_ | refine blk_alloc ?_ _ )); refine blk_far ?_ NB_W_G.out _; (with_reducible repeat (first | refine blk_drewN ?_ _ | refine blk_drew ?_ | refine blk_alloc ?_ _ )); refine blk_far ?_ NB_W_G.out _; (with_reducible repeat (first | refine blk_drewN ?_ _ | refine blk_drew ?_ | refine blk_alloc ?_ _ )); refine blk_far ?_ NB_W_G.out _; (with_reducible repeat (first | refine blk_drewN ?_ _ | refine blk_drew ?_ | refine blk_alloc ?_ _ )); refine blk_far ?_ NB_W_G.out _; (with_reducible repeat (first | refine blk_drewN ?_ _ | refine blk_drew ?_ | refine blk_alloc ?_ _ )); exact BK_W.out) hb); have n11_ := Aside0.mk (blk_below (g := gb_X) (o := .cells #[.slice Ao_XW x_0.length co_XW, .slice Ao_XM x_1.length co_XM, .slice Ao_XS x_2.length co_XS, .int .i64 x_3] 43 (0, 0)) (by (with_reducible repeat (first | refine blk_drewN ?_ _ | refine blk_drew ?_ | refine blk_alloc ?_ _ )); refine blk_far ?_ NB_X_G.out _; (with_reducible repeat (first | refine blk_drewN ?_ _ | refine blk_drew ?_ | refine blk_alloc ?_ _ )); refine blk_far ?_ NB_X_G.out _; (with_reducible repeat (first | refine blk_drewN ?_ _ | refine blk_drew ?_ | refine blk_alloc ?_ _ )); refine blk_far ?_ NB_X_G.out _; (with_reducible repeat (first | refine blk_drewN ?_ _ | refine blk_drew ?_ | refine blk_alloc ?_ _ )); refine blk_far ?_ NB_X_G.out _; (with_reducible repeat (first | refine blk_drewN ?_ _ | refine blk_drew ?_ | refine blk_alloc ?_ _ )); exact BK_X.out) hb); have n12_ := Aside0.mk (blk_below (g := gb_G) (o := .cells #[.slice Ao_GW g_0.length co_GW, .slice Ao_GM g_1.length co_GM, .slice Ao_GS g_2.length co_GS, .int .i64 g_3] 43 (0, 0)) (by (with_reducible repeat (first | refine blk_drewN ?_ _ | refine blk_drew ?_ | refine blk_alloc ?_ _ )); refine blk_put (cs := #[.slice Ao_GW g_0.length co_GW, .slice Ao_GM g_1.length co_GM, .slice Ao_GS g_2.length co_GS, .int .i64 0]) ?_ 3 _ rfl; (with_reducible repeat (first | refine blk_drewN ?_ _ | refine blk_drew ?_ | refine blk_alloc ?_ _ )); refine blk_put (cs := #[.slice Ao_GW g_0.length co_GW, .slice Ao_GM g_1.length co_GM, .slice none 0 0, .int .i64 0]) ?_ 2 _ rfl; (with_reducible repeat (first | refine blk_drewN ?_ _ | refine blk_drew ?_ | refine blk_alloc ?_ _ )); refine blk_put (cs := #[.slice Ao_GW g_0.length co_GW, .slice none 0 0, .slice none 0 0, .int .i64 0]) ?_ 1 _ rfl; (with_reducible repeat (first | refine blk_drewN ?_ _ | refine blk_drew ?_ | refine blk_alloc ?_ _ )); refine blk_put (cs := #[.slice none 0 0, .slice none 0 0, .slice none 0 0, .int .i64 0]) ?_ 0 _ rfl; (with_reducible repeat (first | refine blk_drewN ?_ _ | refine blk_drew ?_ | refine blk_alloc ?_ _ )); exact BK_G.out) hb); have n13_ := Aside0.mk (below_step (by repeat ((with_reducible first | exact HB.out | refine below_set ?_ GE_G.out))) hb); have n14_ := Aside0.mk (below_step (by repeat ((with_reducible first | exact HG.out | refine below_set ?_ GG_G.out))) hb); (try clear HO_WW); (try clear HO_WM); (try clear HO_WS); (try clear HO_XW); (try clear HO_XM); (try clear HO_XS); (try clear HO_GW); (try clear HO_GM); (try clear HO_GS); (try clear BK_aS); (try clear BK_W); (try clear BK_X); (try clear BK_G); (try clear HB); (try clear HG); have HO_WW := n0_; have HO_WM := n1_; have HO_WS := n2_; have HO_XW := n3_; have HO_XM := n4_; have HO_XS := n5_; have HO_GW := n6_; have HO_GM := n7_; have HO_GS := n8_; have BK_aS := n9_; have BK_W := n10_; have BK_X := n11_; have BK_G := n12_; have HB := n13_; have HG := n14_; clear n0_ n1_ n2_ n3_ n4_ n5_ n6_ n7_ n8_ n9_ n10_ n11_ n12_ n13_ n14_; (try clear hb); have hcz7_0 : w58.cell? ⟨gb_X, 0, none⟩ = some (.slice Ao_XW x_0.length co_XW) := (blk_cell BK_X.out 0).trans rfl; have hfz7_0 := blk_frozen BK_X.out 0; have hcz7_1 : w58.cell? ⟨gb_X, 1, none⟩ = some (.slice Ao_XM x_1.length co_XM) := (blk_cell BK_X.out 1).trans rfl; have hfz7_1 := blk_frozen BK_X.out 1; have hcz7_2 : w58.cell? ⟨gb_X, 2, none⟩ = some (.slice Ao_XS x_2.length co_XS) := (blk_cell BK_X.out 2).trans rfl; have hfz7_2 := blk_frozen BK_X.out 2; have hcz7_3 : w58.cell? ⟨gb_X, 3, none⟩ = some (.int .i64 x_3) := (blk_cell BK_X.out 3).trans rfl; have hfz7_3 := blk_frozen BK_X.out 3; have hcz8_0 : w58.cell? ⟨gb_aS, 0, none⟩ = some (.slice A0_0 l0_0.length c0_0) := (blk_cell BK_aS.out 0).trans rfl; have hfz8_0 := blk_frozen BK_aS.out 0; have hcz8_1 : w58.cell? ⟨gb_aS, 1, none⟩ = some (.slice A0_1 l0_1.length c0_1) := (blk_cell BK_aS.out 1).trans rfl; have hfz8_1 := blk_frozen BK_aS.out 1; have hcz8_2 : w58.cell? ⟨gb_aS, 2, none⟩ = some (.slice A0_2 l0_2.length c0_2) := (blk_cell BK_aS.out 2).trans rfl; have hfz8_2 := blk_frozen BK_aS.out 2; have hcz8_3 : w58.cell? ⟨gb_aS, 3, none⟩ = some (.int .i64 a0_3) := (blk_cell BK_aS.out 3).trans rfl; have hfz8_3 := blk_frozen BK_aS.out 3))
      have n0_ := Aside0.mk (Kd.R_drew HO_WW.out)
      have n1_ := Aside0.mk (Kd.R_drew HO_WM.out)
      have n2_ := Aside0.mk (Kd.S_drew HO_WS.out)
      have n3_ := Aside0.mk (Kd.R_drew HO_XW.out)
      have n4_ := Aside0.mk (Kd.R_drew HO_XM.out)
      have n5_ := Aside0.mk (Kd.S_drew HO_XS.out)
      have n6_ := Aside0.mk (Kd.R_drew HO_GW.out)
      have n7_ := Aside0.mk (Kd.R_drew HO_GM.out)
      have n8_ := Aside0.mk (Kd.S_drew HO_GS.out)
      have n9_ := Aside0.mk (blk_drew BK_aS.out)
      have n10_ := Aside0.mk (blk_drew BK_W.out)
      have n11_ := Aside0.mk (blk_drew BK_X.out)
      have n12_ := Aside0.mk (blk_drew BK_G.out)
      have n13_ := Aside0.mk (below_drew1 HB.out)
      have n14_ := Aside0.mk (below_drew1 HG.out)
      (try clear HO_WW); (try clear HO_WM); (try clear HO_WS); (try clear HO_XW); (try clear HO_XM); (try clear HO_XS); (try clear HO_GW); (try clear HO_GM); (try clear HO_GS); (try clear BK_aS); (try clear BK_W); (try clear BK_X); (try clear BK_G); (try clear HB); (try clear HG)
      have HO_WW := n0_
      have HO_WM := n1_
      have HO_WS := n2_
      have HO_XW := n3_
      have HO_XM := n4_
      have HO_XS := n5_
      have HO_GW := n6_
      have HO_GM := n7_
      have HO_GS := n8_
      have BK_aS := n9_
      have BK_W := n10_
      have BK_X := n11_
      have BK_G := n12_
      have HB := n13_
      have HG := n14_
      clear n0_ n1_ n2_ n3_ n4_ n5_ n6_ n7_ n8_ n9_ n10_ n11_ n12_ n13_ n14_
      refine start_ (n := 5) (S := fun w' => w'.cell? ⟨gb_X, 0, none⟩ = some (.slice Ao_XW x_0.length co_XW) ∧ w'.cell? ⟨gb_X, 1, none⟩ = some (.slice Ao_XM x_1.length co_XM) ∧ w'.cell? ⟨gb_X, 2, none⟩ = some (.slice Ao_XS x_2.length co_XS) ∧ w'.cell? ⟨gb_X, 3, none⟩ = some (.int .i64 x_3) ∧ w'.cell? ⟨gb_aS, 0, none⟩ = some (.slice A0_0 l0_0.length c0_0) ∧ w'.cell? ⟨gb_aS, 1, none⟩ = some (.slice A0_1 l0_1.length c0_1) ∧ w'.cell? ⟨gb_aS, 2, none⟩ = some (.slice A0_2 l0_2.length c0_2) ∧ w'.cell? ⟨gb_aS, 3, none⟩ = some (.int .i64 a0_3)) (ds := []) #[false, false, false, false, false] (by kernel_rfl) rfl rfl ⟨(blk_cell BK_X.out 0).trans rfl, (blk_cell BK_X.out 1).trans rfl, (blk_cell BK_X.out 2).trans rfl, (blk_cell BK_X.out 3).trans rfl, (blk_cell BK_aS.out 0).trans rfl, (blk_cell BK_aS.out 1).trans rfl, (blk_cell BK_aS.out 2).trans rfl, (blk_cell BK_aS.out 3).trans rfl⟩ (fun hHeld => ?_)
      generalize w58.drew = w200 at HO_WW HO_WM HO_WS HO_XW HO_XM HO_XS HO_GW HO_GM HO_GS BK_aS BK_W BK_X BK_G HB HG hHeld ⊢
      refine take_ (i := 0) (N := some 34) (v := ?_) (a' := ?_) #[true, false, false, false, false] rfl rfl (by kernel_rfl) (fun _ _ _ h => h) (Or.inl ⟨by rfl, ?_⟩) hHeld ?_ ?_
      rotate_left
      · rintro w' ⟨s0, s1, s2, s3, s4, s5, s6, s7⟩
        go_simp
        with_reducible rfl
      rotate_left
      · simp only [Act.put, List.setIfInBounds_toArray, List.set_cons_zero, List.set_cons_succ, i64_w, i32_w]
        rfl
      refine take_ (i := 1) (N := some 35) (v := ?_) (a' := ?_) #[true, true, false, false, false] rfl rfl (by kernel_rfl) (fun _ _ _ h => h) (Or.inl ⟨by rfl, ?_⟩) hHeld ?_ ?_
      rotate_left
      · rintro w' ⟨s0, s1, s2, s3, s4, s5, s6, s7⟩
        go_simp
        with_reducible rfl
      rotate_left
      · simp only [Act.put, List.setIfInBounds_toArray, List.set_cons_zero, List.set_cons_succ, i64_w, i32_w]
        rfl
      refine one_ (i := 2) (N := some 36) #[true, true, true, false, false] rfl rfl (by kernel_rfl) (by decide) (fun K hK => ?_)
      refine goes_ Try.func40 (by kernel_rfl) rfl #[.agg #[.slice A0_0 l0_0.length c0_0, .slice A0_1 l0_1.length c0_1, .slice A0_2 l0_2.length c0_2, .int .i64 a0_3]] (by rfl) rfl rfl (by (try simp only [List.map_toArray, List.map_cons, List.map_nil]); rfl) ?_
      with_reducible refine (laws_toPolicy.calls k _ _ l0_0 _ _ l0_1 _ _ l0_2 a0_3 q_0 q_1 q_2 q_3 _ ?side1 ?side2 ?side3 ?side4 ?side5 ?side6 A7.out).mono ?_
      (case side1 => exact Kd.C_below HR0_0.out (by repeat ((with_reducible exact HB.out))))
      (case side2 => exact HC0_0.out)
      (case side3 => exact Kd.C_below HR0_1.out (by repeat ((with_reducible exact HB.out))))
      (case side4 => exact HC0_1.out)
      (case side5 => exact Kd.C_below HR0_2.out (by repeat ((with_reducible exact HB.out))))
      (case side6 => exact HC0_2.out)
      rintro e w59 ⟨v_QW, v_QM, v_QS, rfl, ho_QW, ho_QM, ho_QS, hb⟩
      refine ⟨_, rfl, ?_⟩
      have n0_ := Aside0.mk (Kd.R_below (by (with_reducible repeat (first | apply Kd.R_alloc | apply Kd.R_drewN | apply Kd.R_drew )); exact HO_WW.out) hb)
      have n1_ := Aside0.mk (Kd.R_below (by (with_reducible repeat (first | apply Kd.R_alloc | apply Kd.R_drewN | apply Kd.R_drew )); exact HO_WM.out) hb)
      have n2_ := Aside0.mk (Kd.S_below (by (with_reducible repeat (first | apply Kd.S_alloc | apply Kd.S_drewN | apply Kd.S_drew )); exact HO_WS.out) hb)
      have n3_ := Aside0.mk (Kd.R_below (by (with_reducible repeat (first | apply Kd.R_alloc | apply Kd.R_drewN | apply Kd.R_drew )); exact HO_XW.out) hb)
      have n4_ := Aside0.mk (Kd.R_below (by (with_reducible repeat (first | apply Kd.R_alloc | apply Kd.R_drewN | apply Kd.R_drew )); exact HO_XM.out) hb)
      have n5_ := Aside0.mk (Kd.S_below (by (with_reducible repeat (first | apply Kd.S_alloc | apply Kd.S_drewN | apply Kd.S_drew )); exact HO_XS.out) hb)
      have n6_ := Aside0.mk (Kd.R_below (by (with_reducible repeat (first | apply Kd.R_alloc | apply Kd.R_drewN | apply Kd.R_drew )); exact HO_GW.out) hb)
      have n7_ := Aside0.mk (Kd.R_below (by (with_reducible repeat (first | apply Kd.R_alloc | apply Kd.R_drewN | apply Kd.R_drew )); exact HO_GM.out) hb)
      have n8_ := Aside0.mk (Kd.S_below (by (with_reducible repeat (first | apply Kd.S_alloc | apply Kd.S_drewN | apply Kd.S_drew )); exact HO_GS.out) hb)
      have n9_ := Aside0.mk (blk_below (g := gb_aS) (o := .cells #[.slice A0_0 l0_0.length c0_0, .slice A0_1 l0_1.length c0_1, .slice A0_2 l0_2.length c0_2, .int .i64 a0_3] 49 (0, 0)) (by (with_reducible repeat (first | refine blk_drewN ?_ _ | refine blk_drew ?_ | refine blk_alloc ?_ _ )); exact BK_aS.out) hb)
      have n10_ := Aside0.mk (blk_below (g := gb_W) (o := .cells #[.slice Ao_WW w_0.length co_WW, .slice Ao_WM w_1.length co_WM, .slice Ao_WS w_2.length co_WS, .int .i64 w_3] 43 (0, 0)) (by (with_reducible repeat (first | refine blk_drewN ?_ _ | refine blk_drew ?_ | refine blk_alloc ?_ _ )); exact BK_W.out) hb)
      have n11_ := Aside0.mk (blk_below (g := gb_X) (o := .cells #[.slice Ao_XW x_0.length co_XW, .slice Ao_XM x_1.length co_XM, .slice Ao_XS x_2.length co_XS, .int .i64 x_3] 43 (0, 0)) (by (with_reducible repeat (first | refine blk_drewN ?_ _ | refine blk_drew ?_ | refine blk_alloc ?_ _ )); exact BK_X.out) hb)
      have n12_ := Aside0.mk (blk_below (g := gb_G) (o := .cells #[.slice Ao_GW g_0.length co_GW, .slice Ao_GM g_1.length co_GM, .slice Ao_GS g_2.length co_GS, .int .i64 g_3] 43 (0, 0)) (by (with_reducible repeat (first | refine blk_drewN ?_ _ | refine blk_drew ?_ | refine blk_alloc ?_ _ )); exact BK_G.out) hb)
      have n13_ := Aside0.mk (below_step (by repeat ((with_reducible exact HB.out))) hb)
      have n14_ := Aside0.mk (below_step (by repeat ((with_reducible exact HG.out))) hb)
      have n15_ := Aside0.mk (Kd.R_lower ho_QW (below_size (by repeat ((with_reducible exact HG.out)))))
      have n16_ := Aside0.mk (Kd.R_lower ho_QM (below_size (by repeat ((with_reducible exact HG.out)))))
      have n17_ := Aside0.mk (Kd.S_lower ho_QS (below_size (by repeat ((with_reducible exact HG.out)))))
      (try clear HO_WW); (try clear HO_WM); (try clear HO_WS); (try clear HO_XW); (try clear HO_XM); (try clear HO_XS); (try clear HO_GW); (try clear HO_GM); (try clear HO_GS); (try clear BK_aS); (try clear BK_W); (try clear BK_X); (try clear BK_G); (try clear HB); (try clear HG); (try clear HO_QW); (try clear HO_QM); (try clear HO_QS)
      have HO_WW := n0_
      have HO_WM := n1_
      have HO_WS := n2_
      have HO_XW := n3_
      have HO_XM := n4_
      have HO_XS := n5_
      have HO_GW := n6_
      have HO_GM := n7_
      have HO_GS := n8_
      have BK_aS := n9_
      have BK_W := n10_
      have BK_X := n11_
      have BK_G := n12_
      have HB := n13_
      have HG := n14_
      have HO_QW := n15_
      have HO_QM := n16_
      have HO_QS := n17_
      clear n0_ n1_ n2_ n3_ n4_ n5_ n6_ n7_ n8_ n9_ n10_ n11_ n12_ n13_ n14_ n15_ n16_ n17_
      (try clear hb ho_QW ho_QM ho_QS)
      obtain ⟨Ao_QW, co_QW, eo_QW⟩ := Kd.R_slice HO_QW.out
      subst eo_QW
      obtain ⟨Ao_QM, co_QM, eo_QM⟩ := Kd.R_slice HO_QM.out
      subst eo_QM
      obtain ⟨Ao_QS, co_QS, eo_QS⟩ := Kd.S_slice HO_QS.out
      subst eo_QS
      refine hK.out _ _ ⟨(blk_cell BK_X.out 0).trans rfl, (blk_cell BK_X.out 1).trans rfl, (blk_cell BK_X.out 2).trans rfl, (blk_cell BK_X.out 3).trans rfl, (blk_cell BK_aS.out 0).trans rfl, (blk_cell BK_aS.out 1).trans rfl, (blk_cell BK_aS.out 2).trans rfl, (blk_cell BK_aS.out 3).trans rfl⟩ (fun hHeld => ?_)
      clear hK K
      refine norm_ (a' := ?_) ?_ ?_
      rotate_left
      · show Act.put _ (some 36) _ = _
        simp only [Act.put, List.setIfInBounds_toArray, List.set_cons_zero, List.set_cons_succ, i64_w, i32_w]
        rfl
      refine one_ (i := 3) (N := some 37) #[true, true, true, true, false] rfl rfl (by kernel_rfl) (by decide) (fun K hK => ?_)
      refine goes_ Try.func34 (by kernel_rfl) rfl #[.agg #[.slice Ao_XW x_0.length co_XW, .slice Ao_XM x_1.length co_XM, .slice Ao_XS x_2.length co_XS, .int .i64 x_3], .agg #[.slice Ao_QW q_0.length co_QW, .slice Ao_QM q_1.length co_QM, .slice Ao_QS q_2.length co_QS, .int .i64 q_3]] (by rfl) rfl rfl (by (try simp only [List.map_toArray, List.map_cons, List.map_nil]); rfl) ?_
      with_reducible refine (laws_eqPolicy.calls k _ _ x_0 _ _ x_1 _ _ x_2 x_3 _ _ q_0 _ _ q_1 _ _ q_2 q_3 true _ ?side1 ?side2 ?side3 ?side4 ?side5 ?side6 ?side7 ?side8 ?side9 ?side10 ?side11 ?side12 A8.out).mono ?_
      (case side1 => repeat (exact (Kd.R_reads' HO_XW.out).2.2))
      (case side2 => exact (Kd.R_reads' HO_XW.out).2.1)
      (case side3 => repeat (exact (Kd.R_reads' HO_XM.out).2.2))
      (case side4 => exact (Kd.R_reads' HO_XM.out).2.1)
      (case side5 => repeat (exact (Kd.S_reads' HO_XS.out).2.2))
      (case side6 => exact (Kd.S_reads' HO_XS.out).2.1)
      (case side7 => repeat (exact (Kd.R_reads' HO_QW.out).2.2))
      (case side8 => exact (Kd.R_reads' HO_QW.out).2.1)
      (case side9 => repeat (exact (Kd.R_reads' HO_QM.out).2.2))
      (case side10 => exact (Kd.R_reads' HO_QM.out).2.1)
      (case side11 => repeat (exact (Kd.S_reads' HO_QS.out).2.2))
      (case side12 => exact (Kd.S_reads' HO_QS.out).2.1)
      rintro e w60 ⟨rfl, hb⟩
      refine ⟨_, rfl, ?_⟩
      have n0_ := Aside0.mk (Kd.R_below (by (with_reducible repeat (first | apply Kd.R_alloc | apply Kd.R_drewN | apply Kd.R_drew )); exact HO_WW.out) hb)
      have n1_ := Aside0.mk (Kd.R_below (by (with_reducible repeat (first | apply Kd.R_alloc | apply Kd.R_drewN | apply Kd.R_drew )); exact HO_WM.out) hb)
      have n2_ := Aside0.mk (Kd.S_below (by (with_reducible repeat (first | apply Kd.S_alloc | apply Kd.S_drewN | apply Kd.S_drew )); exact HO_WS.out) hb)
      have n3_ := Aside0.mk (Kd.R_below (by (with_reducible repeat (first | apply Kd.R_alloc | apply Kd.R_drewN | apply Kd.R_drew )); exact HO_XW.out) hb)
      have n4_ := Aside0.mk (Kd.R_below (by (with_reducible repeat (first | apply Kd.R_alloc | apply Kd.R_drewN | apply Kd.R_drew )); exact HO_XM.out) hb)
      have n5_ := Aside0.mk (Kd.S_below (by (with_reducible repeat (first | apply Kd.S_alloc | apply Kd.S_drewN | apply Kd.S_drew )); exact HO_XS.out) hb)
      have n6_ := Aside0.mk (Kd.R_below (by (with_reducible repeat (first | apply Kd.R_alloc | apply Kd.R_drewN | apply Kd.R_drew )); exact HO_GW.out) hb)
      have n7_ := Aside0.mk (Kd.R_below (by (with_reducible repeat (first | apply Kd.R_alloc | apply Kd.R_drewN | apply Kd.R_drew )); exact HO_GM.out) hb)
      have n8_ := Aside0.mk (Kd.S_below (by (with_reducible repeat (first | apply Kd.S_alloc | apply Kd.S_drewN | apply Kd.S_drew )); exact HO_GS.out) hb)
      have n9_ := Aside0.mk (Kd.R_below (by (with_reducible repeat (first | apply Kd.R_alloc | apply Kd.R_drewN | apply Kd.R_drew )); exact HO_QW.out) hb)
      have n10_ := Aside0.mk (Kd.R_below (by (with_reducible repeat (first | apply Kd.R_alloc | apply Kd.R_drewN | apply Kd.R_drew )); exact HO_QM.out) hb)
      have n11_ := Aside0.mk (Kd.S_below (by (with_reducible repeat (first | apply Kd.S_alloc | apply Kd.S_drewN | apply Kd.S_drew )); exact HO_QS.out) hb)
      have n12_ := Aside0.mk (blk_below (g := gb_aS) (o := .cells #[.slice A0_0 l0_0.length c0_0, .slice A0_1 l0_1.length c0_1, .slice A0_2 l0_2.length c0_2, .int .i64 a0_3] 49 (0, 0)) (by (with_reducible repeat (first | refine blk_drewN ?_ _ | refine blk_drew ?_ | refine blk_alloc ?_ _ )); exact BK_aS.out) hb)
      have n13_ := Aside0.mk (blk_below (g := gb_W) (o := .cells #[.slice Ao_WW w_0.length co_WW, .slice Ao_WM w_1.length co_WM, .slice Ao_WS w_2.length co_WS, .int .i64 w_3] 43 (0, 0)) (by (with_reducible repeat (first | refine blk_drewN ?_ _ | refine blk_drew ?_ | refine blk_alloc ?_ _ )); exact BK_W.out) hb)
      have n14_ := Aside0.mk (blk_below (g := gb_X) (o := .cells #[.slice Ao_XW x_0.length co_XW, .slice Ao_XM x_1.length co_XM, .slice Ao_XS x_2.length co_XS, .int .i64 x_3] 43 (0, 0)) (by (with_reducible repeat (first | refine blk_drewN ?_ _ | refine blk_drew ?_ | refine blk_alloc ?_ _ )); exact BK_X.out) hb)
      have n15_ := Aside0.mk (blk_below (g := gb_G) (o := .cells #[.slice Ao_GW g_0.length co_GW, .slice Ao_GM g_1.length co_GM, .slice Ao_GS g_2.length co_GS, .int .i64 g_3] 43 (0, 0)) (by (with_reducible repeat (first | refine blk_drewN ?_ _ | refine blk_drew ?_ | refine blk_alloc ?_ _ )); exact BK_G.out) hb)
      have n16_ := Aside0.mk (below_step (by repeat ((with_reducible exact HB.out))) hb)
      have n17_ := Aside0.mk (below_step (by repeat ((with_reducible exact HG.out))) hb)
      (try clear HO_WW); (try clear HO_WM); (try clear HO_WS); (try clear HO_XW); (try clear HO_XM); (try clear HO_XS); (try clear HO_GW); (try clear HO_GM); (try clear HO_GS); (try clear HO_QW); (try clear HO_QM); (try clear HO_QS); (try clear BK_aS); (try clear BK_W); (try clear BK_X); (try clear BK_G); (try clear HB); (try clear HG)
      have HO_WW := n0_
      have HO_WM := n1_
      have HO_WS := n2_
      have HO_XW := n3_
      have HO_XM := n4_
      have HO_XS := n5_
      have HO_GW := n6_
      have HO_GM := n7_
      have HO_GS := n8_
      have HO_QW := n9_
      have HO_QM := n10_
      have HO_QS := n11_
      have BK_aS := n12_
      have BK_W := n13_
      have BK_X := n14_
      have BK_G := n15_
      have HB := n16_
      have HG := n17_
      clear n0_ n1_ n2_ n3_ n4_ n5_ n6_ n7_ n8_ n9_ n10_ n11_ n12_ n13_ n14_ n15_ n16_ n17_
      (try clear hb)
      refine hK.out _ _ ⟨(blk_cell BK_X.out 0).trans rfl, (blk_cell BK_X.out 1).trans rfl, (blk_cell BK_X.out 2).trans rfl, (blk_cell BK_X.out 3).trans rfl, (blk_cell BK_aS.out 0).trans rfl, (blk_cell BK_aS.out 1).trans rfl, (blk_cell BK_aS.out 2).trans rfl, (blk_cell BK_aS.out 3).trans rfl⟩ (fun hHeld => ?_)
      clear hK K
      refine norm_ (a' := ?_) ?_ ?_
      rotate_left
      · show Act.put _ (some 37) _ = _
        simp only [Act.put, List.setIfInBounds_toArray, List.set_cons_zero, List.set_cons_succ, i64_w, i32_w]
        rfl
      refine pure_ (i := 4) (N := some 38) (v := ?_) (a' := ?_) #[true, true, true, true, true] rfl rfl (by kernel_rfl) (fun _ _ _ h => h) (Or.inl ⟨by rfl, ?_⟩) ?_ ?_
      rotate_left
      · intro w'
        go_simp
        with_reducible rfl
      rotate_left
      · simp only [Act.put, List.setIfInBounds_toArray, List.set_cons_zero, List.set_cons_succ, i64_w, i32_w]
        rfl
      refine done_ (by kernel_rfl) ?_
      have hcz9_0 : w60.cell? ⟨gb_X, 0, none⟩ = some (.slice Ao_XW x_0.length co_XW) := (blk_cell BK_X.out 0).trans rfl
      have hfz9_0 := blk_frozen BK_X.out 0
      have hcz9_1 : w60.cell? ⟨gb_X, 1, none⟩ = some (.slice Ao_XM x_1.length co_XM) := (blk_cell BK_X.out 1).trans rfl
      have hfz9_1 := blk_frozen BK_X.out 1
      have hcz9_2 : w60.cell? ⟨gb_X, 2, none⟩ = some (.slice Ao_XS x_2.length co_XS) := (blk_cell BK_X.out 2).trans rfl
      have hfz9_2 := blk_frozen BK_X.out 2
      have hcz9_3 : w60.cell? ⟨gb_X, 3, none⟩ = some (.int .i64 x_3) := (blk_cell BK_X.out 3).trans rfl
      have hfz9_3 := blk_frozen BK_X.out 3
      go_wp2_with (first | ((with_reducible refine gate_callee (f := 35) rfl ?_); refine goesL_ (some 41) rfl rfl Try.func35 (by kernel_rfl) rfl #[.agg #[.slice Ao_XW x_0.length co_XW, .slice Ao_XM x_1.length co_XM, .slice Ao_XS x_2.length co_XS, .int .i64 x_3], .int .i64 1] rfl (by (try simp only [List.map_toArray, List.map_cons, List.map_nil]); rfl) ?_; (with_reducible refine (laws_markPolicy.callsP k _ _ _ _ _ _ x_0 x_1 x_2 x_3 1 mx_ xW xM xS WG _ HG.out HO_XW.out HO_XM.out ?hne HO_XS.out A10.out).mono ?_); (case hne => exact fun b_ e_ => ((HO_XW.out.1 b_ e_).1).symm); rintro e w61 ⟨rfl, hoW, hoM, hoS, hb, hkp⟩; refine ⟨_, rfl, ?_⟩; have n0_ := Aside0.mk (Kd.R_kept HO_WW.out hkp (fun k_ hk_ hs_ => by rcases hs_ with hs_ | hs_ | hs_ <;> first | exact absurd (Kd.R_base HO_XW.out k_ hs_.symm) (Nat.not_le.2 hk_.2) | exact absurd (Kd.R_base HO_XM.out k_ hs_.symm) (Nat.not_le.2 hk_.2) | exact absurd hs_.2.1 (Nat.not_le.2 hk_.2))); have n1_ := Aside0.mk (Kd.R_kept HO_WM.out hkp (fun k_ hk_ hs_ => by rcases hs_ with hs_ | hs_ | hs_ <;> first | exact absurd (Kd.R_base HO_XW.out k_ hs_.symm) (Nat.not_le.2 hk_.2) | exact absurd (Kd.R_base HO_XM.out k_ hs_.symm) (Nat.not_le.2 hk_.2) | exact absurd hs_.2.1 (Nat.not_le.2 hk_.2))); have n2_ := Aside0.mk (Kd.S_kept HO_WS.out hkp (fun k_ hk_ hs_ => by rcases hs_ with hs_ | hs_ | hs_ <;> first | exact absurd (Kd.R_base HO_XW.out k_ hs_.symm) (Nat.not_le.2 hk_.2) | exact absurd (Kd.R_base HO_XM.out k_ hs_.symm) (Nat.not_le.2 hk_.2) | exact absurd hs_.2.1 (Nat.not_le.2 hk_.2))); have n3_ := Aside0.mk (Kd.R_kept HO_GW.out hkp (fun k_ hk_ hs_ => by rcases hs_ with hs_ | hs_ | hs_ <;> first | exact absurd (HO_XW.out.1 k_ hs_.symm).2 (Nat.not_lt.2 hk_.1) | exact absurd (HO_XM.out.1 k_ hs_.symm).2 (Nat.not_lt.2 hk_.1) | exact absurd hs_.1.2 (Nat.not_lt.2 hk_.1))); have n4_ := Aside0.mk (Kd.R_kept HO_GM.out hkp (fun k_ hk_ hs_ => by rcases hs_ with hs_ | hs_ | hs_ <;> first | exact absurd (HO_XW.out.1 k_ hs_.symm).2 (Nat.not_lt.2 hk_.1) | exact absurd (HO_XM.out.1 k_ hs_.symm).2 (Nat.not_lt.2 hk_.1) | exact absurd hs_.1.2 (Nat.not_lt.2 hk_.1))); have n5_ := Aside0.mk (Kd.S_kept HO_GS.out hkp (fun k_ hk_ hs_ => by rcases hs_ with hs_ | hs_ | hs_ <;> first | exact absurd (HO_XW.out.1 k_ hs_.symm).2 (Nat.not_lt.2 hk_.1) | exact absurd (HO_XM.out.1 k_ hs_.symm).2 (Nat.not_lt.2 hk_.1) | exact absurd hs_.1.2 (Nat.not_lt.2 hk_.1))); have n6_ := Aside0.mk (blk_kept BK_aS.out hkp (fun hs_ => by rcases hs_ with hs_ | hs_ | ⟨_, _, cells_, hc_⟩ <;> first | exact Kd.R_ne HO_XW.out BK_aS.out (by decide) hs_ | exact Kd.R_ne HO_XM.out BK_aS.out (by decide) hs_ | exact absurd (BK_aS.out.symm.trans hc_) (by simp))); have n7_ := Aside0.mk (blk_kept BK_W.out hkp (fun hs_ => by rcases hs_ with hs_ | hs_ | ⟨_, _, cells_, hc_⟩ <;> first | exact Kd.R_ne HO_XW.out BK_W.out (by decide) hs_ | exact Kd.R_ne HO_XM.out BK_W.out (by decide) hs_ | exact absurd (BK_W.out.symm.trans hc_) (by simp))); have n8_ := Aside0.mk (blk_kept BK_X.out hkp (fun hs_ => by rcases hs_ with hs_ | hs_ | ⟨_, _, cells_, hc_⟩ <;> first | exact Kd.R_ne HO_XW.out BK_X.out (by decide) hs_ | exact Kd.R_ne HO_XM.out BK_X.out (by decide) hs_ | exact absurd (BK_X.out.symm.trans hc_) (by simp))); have n9_ := Aside0.mk (blk_kept BK_G.out hkp (fun hs_ => by rcases hs_ with hs_ | hs_ | ⟨_, _, cells_, hc_⟩ <;> first | exact Kd.R_ne HO_XW.out BK_G.out (by decide) hs_ | exact Kd.R_ne HO_XM.out BK_G.out (by decide) hs_ | exact absurd (BK_G.out.symm.trans hc_) (by simp))); have n10_ := Aside0.mk (below_step HGW.out (laws_markPolicy.up HG.out hb)); have n11_ := Aside0.mk (hb); (try clear HO_WW); (try clear HO_WM); (try clear HO_WS); (try clear HO_GW); (try clear HO_GM); (try clear HO_GS); (try clear BK_aS); (try clear BK_W); (try clear BK_X); (try clear BK_G); (try clear HB); (try clear HG); have HO_WW := n0_; have HO_WM := n1_; have HO_WS := n2_; have HO_GW := n3_; have HO_GM := n4_; have HO_GS := n5_; have BK_aS := n6_; have BK_W := n7_; have BK_X := n8_; have BK_G := n9_; have HB := n10_; have HG := n11_; clear n0_ n1_ n2_ n3_ n4_ n5_ n6_ n7_ n8_ n9_ n10_ n11_; (try clear hoW hoM hoS hb hkp); have hcz10_0 : w61.cell? ⟨gb_G, 0, none⟩ = some (.slice Ao_GW g_0.length co_GW) := (blk_cell BK_G.out 0).trans rfl; have hfz10_0 := blk_frozen BK_G.out 0; have hcz10_1 : w61.cell? ⟨gb_G, 1, none⟩ = some (.slice Ao_GM g_1.length co_GM) := (blk_cell BK_G.out 1).trans rfl; have hfz10_1 := blk_frozen BK_G.out 1; have hcz10_2 : w61.cell? ⟨gb_G, 2, none⟩ = some (.slice Ao_GS g_2.length co_GS) := (blk_cell BK_G.out 2).trans rfl; have hfz10_2 := blk_frozen BK_G.out 2; have hcz10_3 : w61.cell? ⟨gb_G, 3, none⟩ = some (.int .i64 g_3) := (blk_cell BK_G.out 3).trans rfl; have hfz10_3 := blk_frozen BK_G.out 3; have hcz11_0 : w61.cell? ⟨gb_W, 0, none⟩ = some (.slice Ao_WW w_0.length co_WW) := (blk_cell BK_W.out 0).trans rfl; have hfz11_0 := blk_frozen BK_W.out 0; have hcz11_1 : w61.cell? ⟨gb_W, 1, none⟩ = some (.slice Ao_WM w_1.length co_WM) := (blk_cell BK_W.out 1).trans rfl; have hfz11_1 := blk_frozen BK_W.out 1; have hcz11_2 : w61.cell? ⟨gb_W, 2, none⟩ = some (.slice Ao_WS w_2.length co_WS) := (blk_cell BK_W.out 2).trans rfl; have hfz11_2 := blk_frozen BK_W.out 2; have hcz11_3 : w61.cell? ⟨gb_W, 3, none⟩ = some (.int .i64 w_3) := (blk_cell BK_W.out 3).trans rfl; have hfz11_3 := blk_frozen BK_W.out 3) | (go_at_call 34; (with_reducible refine (laws_eqPolicy.calls k _ _ g_0 _ _ g_1 _ _ g_2 g_3 _ _ w_0 _ _ w_1 _ _ w_2 w_3 true _ ?side1 ?side2 ?side3 ?side4 ?side5 ?side6 ?side7 ?side8 ?side9 ?side10 ?side11 ?side12 A12.out).mono ?_); (case side1 => repeat (exact (Kd.R_reads' HO_GW.out).2.2)); (case side2 => exact (Kd.R_reads' HO_GW.out).2.1); (case side3 => repeat (exact (Kd.R_reads' HO_GM.out).2.2)); (case side4 => exact (Kd.R_reads' HO_GM.out).2.1); (case side5 => repeat (exact (Kd.S_reads' HO_GS.out).2.2)); (case side6 => exact (Kd.S_reads' HO_GS.out).2.1); (case side7 => repeat (exact (Kd.R_reads' HO_WW.out).2.2)); (case side8 => exact (Kd.R_reads' HO_WW.out).2.1); (case side9 => repeat (exact (Kd.R_reads' HO_WM.out).2.2)); (case side10 => exact (Kd.R_reads' HO_WM.out).2.1); (case side11 => repeat (exact (Kd.S_reads' HO_WS.out).2.2)); (case side12 => exact (Kd.S_reads' HO_WS.out).2.1); rintro e w62 ⟨rfl, hb⟩; have n0_ := Aside0.mk (Kd.R_below (by (with_reducible repeat (first | apply Kd.R_alloc | apply Kd.R_drewN | apply Kd.R_drew )); exact HO_WW.out) hb); have n1_ := Aside0.mk (Kd.R_below (by (with_reducible repeat (first | apply Kd.R_alloc | apply Kd.R_drewN | apply Kd.R_drew )); exact HO_WM.out) hb); have n2_ := Aside0.mk (Kd.S_below (by (with_reducible repeat (first | apply Kd.S_alloc | apply Kd.S_drewN | apply Kd.S_drew )); exact HO_WS.out) hb); have n3_ := Aside0.mk (Kd.R_below (by (with_reducible repeat (first | apply Kd.R_alloc | apply Kd.R_drewN | apply Kd.R_drew )); exact HO_GW.out) hb); have n4_ := Aside0.mk (Kd.R_below (by (with_reducible repeat (first | apply Kd.R_alloc | apply Kd.R_drewN | apply Kd.R_drew )); exact HO_GM.out) hb); have n5_ := Aside0.mk (Kd.S_below (by (with_reducible repeat (first | apply Kd.S_alloc | apply Kd.S_drewN | apply Kd.S_drew )); exact HO_GS.out) hb); have n6_ := Aside0.mk (blk_below (g := gb_aS) (o := .cells #[.slice A0_0 l0_0.length c0_0, .slice A0_1 l0_1.length c0_1, .slice A0_2 l0_2.length c0_2, .int .i64 a0_3] 49 (0, 0)) (by (with_reducible repeat (first | refine blk_drewN ?_ _ | refine blk_drew ?_ | refine blk_alloc ?_ _ )); exact BK_aS.out) hb); have n7_ := Aside0.mk (blk_below (g := gb_W) (o := .cells #[.slice Ao_WW w_0.length co_WW, .slice Ao_WM w_1.length co_WM, .slice Ao_WS w_2.length co_WS, .int .i64 w_3] 43 (0, 0)) (by (with_reducible repeat (first | refine blk_drewN ?_ _ | refine blk_drew ?_ | refine blk_alloc ?_ _ )); exact BK_W.out) hb); have n8_ := Aside0.mk (blk_below (g := gb_X) (o := .cells #[.slice Ao_XW x_0.length co_XW, .slice Ao_XM x_1.length co_XM, .slice Ao_XS x_2.length co_XS, .int .i64 x_3] 43 (0, 0)) (by (with_reducible repeat (first | refine blk_drewN ?_ _ | refine blk_drew ?_ | refine blk_alloc ?_ _ )); exact BK_X.out) hb); have n9_ := Aside0.mk (blk_below (g := gb_G) (o := .cells #[.slice Ao_GW g_0.length co_GW, .slice Ao_GM g_1.length co_GM, .slice Ao_GS g_2.length co_GS, .int .i64 g_3] 43 (0, 0)) (by (with_reducible repeat (first | refine blk_drewN ?_ _ | refine blk_drew ?_ | refine blk_alloc ?_ _ )); exact BK_G.out) hb); have n10_ := Aside0.mk (below_step (by repeat ((with_reducible exact HB.out))) hb); have n11_ := Aside0.mk (below_step (by repeat ((with_reducible exact HG.out))) hb); (try clear HO_WW); (try clear HO_WM); (try clear HO_WS); (try clear HO_GW); (try clear HO_GM); (try clear HO_GS); (try clear BK_aS); (try clear BK_W); (try clear BK_X); (try clear BK_G); (try clear HB); (try clear HG); have HO_WW := n0_; have HO_WM := n1_; have HO_WS := n2_; have HO_GW := n3_; have HO_GM := n4_; have HO_GS := n5_; have BK_aS := n6_; have BK_W := n7_; have BK_X := n8_; have BK_G := n9_; have HB := n10_; have HG := n11_; clear n0_ n1_ n2_ n3_ n4_ n5_ n6_ n7_ n8_ n9_ n10_ n11_; (try clear hb); have hcz12_0 : w62.cell? ⟨gb_G, 0, none⟩ = some (.slice Ao_GW g_0.length co_GW) := (blk_cell BK_G.out 0).trans rfl; have hfz12_0 := blk_frozen BK_G.out 0; have hcz12_1 : w62.cell? ⟨gb_G, 1, none⟩ = some (.slice Ao_GM g_1.length co_GM) := (blk_cell BK_G.out 1).trans rfl; have hfz12_1 := blk_frozen BK_G.out 1; have hcz12_2 : w62.cell? ⟨gb_G, 2, none⟩ = some (.slice Ao_GS g_2.length co_GS) := (blk_cell BK_G.out 2).trans rfl; have hfz12_2 := blk_frozen BK_G.out 2; have hcz12_3 : w62.cell? ⟨gb_G, 3, none⟩ = some (.int .i64 g_3) := (blk_cell BK_G.out 3).trans rfl; have hfz12_3 := blk_frozen BK_G.out 3) | ((with_reducible refine gate_callee (f := 35) rfl ?_); refine goesL_ (some 52) rfl rfl Try.func35 (by kernel_rfl) rfl #[.agg #[.slice Ao_GW g_0.length co_GW, .slice Ao_GM g_1.length co_GM, .slice Ao_GS g_2.length co_GS, .int .i64 g_3], .int .i64 1] rfl (by (try simp only [List.map_toArray, List.map_cons, List.map_nil]); rfl) ?_; (with_reducible refine (laws_markPolicy.callsP k _ _ _ _ _ _ g_0 g_1 g_2 g_3 1 mg_ gW gM gS WG _ HG.out HO_GW.out HO_GM.out ?hne HO_GS.out A14.out).mono ?_); (case hne => exact fun b_ e_ => ((HO_GW.out.1 b_ e_).2).symm); rintro e w63 ⟨rfl, hoW, hoM, hoS, hb, hkp⟩; refine ⟨_, rfl, ?_⟩; have n0_ := Aside0.mk (Kd.R_kept HO_WW.out hkp (fun k_ hk_ hs_ => by rcases hs_ with hs_ | hs_ | hs_ <;> first | exact absurd (Kd.R_base HO_GW.out k_ hs_.symm) (Nat.not_le.2 hk_.2) | exact absurd (Kd.R_base HO_GM.out k_ hs_.symm) (Nat.not_le.2 hk_.2) | exact absurd hs_.2.1 (Nat.not_le.2 hk_.2))); have n1_ := Aside0.mk (Kd.R_kept HO_WM.out hkp (fun k_ hk_ hs_ => by rcases hs_ with hs_ | hs_ | hs_ <;> first | exact absurd (Kd.R_base HO_GW.out k_ hs_.symm) (Nat.not_le.2 hk_.2) | exact absurd (Kd.R_base HO_GM.out k_ hs_.symm) (Nat.not_le.2 hk_.2) | exact absurd hs_.2.1 (Nat.not_le.2 hk_.2))); have n2_ := Aside0.mk (Kd.S_kept HO_WS.out hkp (fun k_ hk_ hs_ => by rcases hs_ with hs_ | hs_ | hs_ <;> first | exact absurd (Kd.R_base HO_GW.out k_ hs_.symm) (Nat.not_le.2 hk_.2) | exact absurd (Kd.R_base HO_GM.out k_ hs_.symm) (Nat.not_le.2 hk_.2) | exact absurd hs_.2.1 (Nat.not_le.2 hk_.2))); have n3_ := Aside0.mk (blk_kept BK_aS.out hkp (fun hs_ => by rcases hs_ with hs_ | hs_ | ⟨_, _, cells_, hc_⟩ <;> first | exact Kd.R_ne HO_GW.out BK_aS.out (by decide) hs_ | exact Kd.R_ne HO_GM.out BK_aS.out (by decide) hs_ | exact absurd (BK_aS.out.symm.trans hc_) (by simp))); have n4_ := Aside0.mk (blk_kept BK_W.out hkp (fun hs_ => by rcases hs_ with hs_ | hs_ | ⟨_, _, cells_, hc_⟩ <;> first | exact Kd.R_ne HO_GW.out BK_W.out (by decide) hs_ | exact Kd.R_ne HO_GM.out BK_W.out (by decide) hs_ | exact absurd (BK_W.out.symm.trans hc_) (by simp))); have n5_ := Aside0.mk (blk_kept BK_X.out hkp (fun hs_ => by rcases hs_ with hs_ | hs_ | ⟨_, _, cells_, hc_⟩ <;> first | exact Kd.R_ne HO_GW.out BK_X.out (by decide) hs_ | exact Kd.R_ne HO_GM.out BK_X.out (by decide) hs_ | exact absurd (BK_X.out.symm.trans hc_) (by simp))); have n6_ := Aside0.mk (blk_kept BK_G.out hkp (fun hs_ => by rcases hs_ with hs_ | hs_ | ⟨_, _, cells_, hc_⟩ <;> first | exact Kd.R_ne HO_GW.out BK_G.out (by decide) hs_ | exact Kd.R_ne HO_GM.out BK_G.out (by decide) hs_ | exact absurd (BK_G.out.symm.trans hc_) (by simp))); have n7_ := Aside0.mk (below_step HGW.out (laws_markPolicy.up HG.out hb)); have n8_ := Aside0.mk (hb); have n9_ := Aside0.mk (hoW); have n10_ := Aside0.mk (hoM); have n11_ := Aside0.mk (hoS); (try clear HO_WW); (try clear HO_WM); (try clear HO_WS); (try clear BK_aS); (try clear BK_W); (try clear BK_X); (try clear BK_G); (try clear HB); (try clear HG); (try clear HO_GW); (try clear HO_GM); (try clear HO_GS); have HO_WW := n0_; have HO_WM := n1_; have HO_WS := n2_; have BK_aS := n3_; have BK_W := n4_; have BK_X := n5_; have BK_G := n6_; have HB := n7_; have HG := n8_; have HO_GW := n9_; have HO_GM := n10_; have HO_GS := n11_; clear n0_ n1_ n2_ n3_ n4_ n5_ n6_ n7_ n8_ n9_ n10_ n11_; have hlW_ := Aside0.mk ((Kd.R_reads' hoW).1); have hlM_ := Aside0.mk ((Kd.R_reads' hoM).1); have hlS_ := Aside0.mk ((Kd.S_reads' hoS).1); (try clear hoW hoM hoS hb hkp); have hcz13_0 : w63.cell? ⟨gb_G, 0, none⟩ = some (.slice Ao_GW g_0.length co_GW) := (blk_cell BK_G.out 0).trans rfl; have hfz13_0 := blk_frozen BK_G.out 0; have hcz13_1 : w63.cell? ⟨gb_G, 1, none⟩ = some (.slice Ao_GM g_1.length co_GM) := (blk_cell BK_G.out 1).trans rfl; have hfz13_1 := blk_frozen BK_G.out 1; have hcz13_2 : w63.cell? ⟨gb_G, 2, none⟩ = some (.slice Ao_GS g_2.length co_GS) := (blk_cell BK_G.out 2).trans rfl; have hfz13_2 := blk_frozen BK_G.out 2; have hcz13_3 : w63.cell? ⟨gb_G, 3, none⟩ = some (.int .i64 g_3) := (blk_cell BK_G.out 3).trans rfl; have hfz13_3 := blk_frozen BK_G.out 3) | ((with_reducible refine gate_callee (f := 36) rfl ?_); refine goesL_ (some 55) rfl rfl Try.func36 (by kernel_rfl) rfl #[.agg #[.slice Ao_GW g_0.length co_GW, .slice Ao_GM g_1.length co_GM, .slice Ao_GS g_2.length co_GS, .int .i64 g_3], .int .i64 1] rfl (by (try simp only [List.map_toArray, List.map_cons, List.map_nil]); rfl) ?_; (with_reducible refine (laws_markPolicy.held k _ _ _ _ _ _ g_0.length g_1.length g_2.length gW gM gS g_3 1 q1 _ hlW_.out hlM_.out hlS_.out ?side1 ?side2 ?side3 ?side4 ?side5 ?side6 A15.out).mono ?_); (case side1 => repeat (exact (Kd.R_reads' HO_GW.out).2.2)); (case side2 => exact (Kd.R_reads' HO_GW.out).2.1); (case side3 => repeat (exact (Kd.R_reads' HO_GM.out).2.2)); (case side4 => exact (Kd.R_reads' HO_GM.out).2.1); (case side5 => repeat (exact (Kd.S_reads' HO_GS.out).2.2)); (case side6 => exact (Kd.S_reads' HO_GS.out).2.1); rintro e w64 ⟨rfl, hb⟩; refine ⟨_, rfl, ?_⟩; have n0_ := Aside0.mk (Kd.R_below (by (with_reducible repeat (first | apply Kd.R_alloc | apply Kd.R_drewN | apply Kd.R_drew )); exact HO_WW.out) hb); have n1_ := Aside0.mk (Kd.R_below (by (with_reducible repeat (first | apply Kd.R_alloc | apply Kd.R_drewN | apply Kd.R_drew )); exact HO_WM.out) hb); have n2_ := Aside0.mk (Kd.S_below (by (with_reducible repeat (first | apply Kd.S_alloc | apply Kd.S_drewN | apply Kd.S_drew )); exact HO_WS.out) hb); have n3_ := Aside0.mk (Kd.R_below (by (with_reducible repeat (first | apply Kd.R_alloc | apply Kd.R_drewN | apply Kd.R_drew )); exact HO_GW.out) hb); have n4_ := Aside0.mk (Kd.R_below (by (with_reducible repeat (first | apply Kd.R_alloc | apply Kd.R_drewN | apply Kd.R_drew )); exact HO_GM.out) hb); have n5_ := Aside0.mk (Kd.S_below (by (with_reducible repeat (first | apply Kd.S_alloc | apply Kd.S_drewN | apply Kd.S_drew )); exact HO_GS.out) hb); have n6_ := Aside0.mk (blk_below (g := gb_aS) (o := .cells #[.slice A0_0 l0_0.length c0_0, .slice A0_1 l0_1.length c0_1, .slice A0_2 l0_2.length c0_2, .int .i64 a0_3] 49 (0, 0)) (by (with_reducible repeat (first | refine blk_drewN ?_ _ | refine blk_drew ?_ | refine blk_alloc ?_ _ )); exact BK_aS.out) hb); have n7_ := Aside0.mk (blk_below (g := gb_W) (o := .cells #[.slice Ao_WW w_0.length co_WW, .slice Ao_WM w_1.length co_WM, .slice Ao_WS w_2.length co_WS, .int .i64 w_3] 43 (0, 0)) (by (with_reducible repeat (first | refine blk_drewN ?_ _ | refine blk_drew ?_ | refine blk_alloc ?_ _ )); exact BK_W.out) hb); have n8_ := Aside0.mk (blk_below (g := gb_X) (o := .cells #[.slice Ao_XW x_0.length co_XW, .slice Ao_XM x_1.length co_XM, .slice Ao_XS x_2.length co_XS, .int .i64 x_3] 43 (0, 0)) (by (with_reducible repeat (first | refine blk_drewN ?_ _ | refine blk_drew ?_ | refine blk_alloc ?_ _ )); exact BK_X.out) hb); have n9_ := Aside0.mk (blk_below (g := gb_G) (o := .cells #[.slice Ao_GW g_0.length co_GW, .slice Ao_GM g_1.length co_GM, .slice Ao_GS g_2.length co_GS, .int .i64 g_3] 43 (0, 0)) (by (with_reducible repeat (first | refine blk_drewN ?_ _ | refine blk_drew ?_ | refine blk_alloc ?_ _ )); exact BK_G.out) hb); have n10_ := Aside0.mk (below_step (by repeat ((with_reducible exact HB.out))) hb); have n11_ := Aside0.mk (below_step (by repeat ((with_reducible exact HG.out))) hb); (try clear HO_WW); (try clear HO_WM); (try clear HO_WS); (try clear HO_GW); (try clear HO_GM); (try clear HO_GS); (try clear BK_aS); (try clear BK_W); (try clear BK_X); (try clear BK_G); (try clear HB); (try clear HG); have HO_WW := n0_; have HO_WM := n1_; have HO_WS := n2_; have HO_GW := n3_; have HO_GM := n4_; have HO_GS := n5_; have BK_aS := n6_; have BK_W := n7_; have BK_X := n8_; have BK_G := n9_; have HB := n10_; have HG := n11_; clear n0_ n1_ n2_ n3_ n4_ n5_ n6_ n7_ n8_ n9_ n10_ n11_; (try clear hb); have hcz14_0 : w64.cell? ⟨gb_aS, 0, none⟩ = some (.slice A0_0 l0_0.length c0_0) := (blk_cell BK_aS.out 0).trans rfl; have hfz14_0 := blk_frozen BK_aS.out 0; have hcz14_1 : w64.cell? ⟨gb_aS, 1, none⟩ = some (.slice A0_1 l0_1.length c0_1) := (blk_cell BK_aS.out 1).trans rfl; have hfz14_1 := blk_frozen BK_aS.out 1; have hcz14_2 : w64.cell? ⟨gb_aS, 2, none⟩ = some (.slice A0_2 l0_2.length c0_2) := (blk_cell BK_aS.out 2).trans rfl; have hfz14_2 := blk_frozen BK_aS.out 2; have hcz14_3 : w64.cell? ⟨gb_aS, 3, none⟩ = some (.int .i64 a0_3) := (blk_cell BK_aS.out 3).trans rfl; have hfz14_3 := blk_frozen BK_aS.out 3) | ((with_reducible refine gate_callee (f := 40) rfl ?_); refine goesL_ (some 62) rfl rfl Try.func40 (by kernel_rfl) rfl #[.agg #[.slice A0_0 l0_0.length c0_0, .slice A0_1 l0_1.length c0_1, .slice A0_2 l0_2.length c0_2, .int .i64 a0_3]] rfl (by (try simp only [List.map_toArray, List.map_cons, List.map_nil]); rfl) ?_; (with_reducible refine (laws_toPolicy.calls k _ _ l0_0 _ _ l0_1 _ _ l0_2 a0_3 r_0 r_1 r_2 r_3 _ ?side1 ?side2 ?side3 ?side4 ?side5 ?side6 A18.out).mono ?_); (case side1 => exact Kd.C_below HR0_0.out (by repeat ((with_reducible exact HB.out)))); (case side2 => exact HC0_0.out); (case side3 => exact Kd.C_below HR0_1.out (by repeat ((with_reducible exact HB.out)))); (case side4 => exact HC0_1.out); (case side5 => exact Kd.C_below HR0_2.out (by repeat ((with_reducible exact HB.out)))); (case side6 => exact HC0_2.out); rintro e w65 ⟨v_RW, v_RM, v_RS, rfl, ho_RW, ho_RM, ho_RS, hb⟩; refine ⟨_, rfl, ?_⟩; have n0_ := Aside0.mk (Kd.R_below (by (with_reducible repeat (first | apply Kd.R_alloc | apply Kd.R_drewN | apply Kd.R_drew )); exact HO_WW.out) hb); have n1_ := Aside0.mk (Kd.R_below (by (with_reducible repeat (first | apply Kd.R_alloc | apply Kd.R_drewN | apply Kd.R_drew )); exact HO_WM.out) hb); have n2_ := Aside0.mk (Kd.S_below (by (with_reducible repeat (first | apply Kd.S_alloc | apply Kd.S_drewN | apply Kd.S_drew )); exact HO_WS.out) hb); have n3_ := Aside0.mk (Kd.R_below (by (with_reducible repeat (first | apply Kd.R_alloc | apply Kd.R_drewN | apply Kd.R_drew )); exact HO_GW.out) hb); have n4_ := Aside0.mk (Kd.R_below (by (with_reducible repeat (first | apply Kd.R_alloc | apply Kd.R_drewN | apply Kd.R_drew )); exact HO_GM.out) hb); have n5_ := Aside0.mk (Kd.S_below (by (with_reducible repeat (first | apply Kd.S_alloc | apply Kd.S_drewN | apply Kd.S_drew )); exact HO_GS.out) hb); have n6_ := Aside0.mk (blk_below (g := gb_aS) (o := .cells #[.slice A0_0 l0_0.length c0_0, .slice A0_1 l0_1.length c0_1, .slice A0_2 l0_2.length c0_2, .int .i64 a0_3] 49 (0, 0)) (by (with_reducible repeat (first | refine blk_drewN ?_ _ | refine blk_drew ?_ | refine blk_alloc ?_ _ )); exact BK_aS.out) hb); have n7_ := Aside0.mk (blk_below (g := gb_W) (o := .cells #[.slice Ao_WW w_0.length co_WW, .slice Ao_WM w_1.length co_WM, .slice Ao_WS w_2.length co_WS, .int .i64 w_3] 43 (0, 0)) (by (with_reducible repeat (first | refine blk_drewN ?_ _ | refine blk_drew ?_ | refine blk_alloc ?_ _ )); exact BK_W.out) hb); have n8_ := Aside0.mk (blk_below (g := gb_X) (o := .cells #[.slice Ao_XW x_0.length co_XW, .slice Ao_XM x_1.length co_XM, .slice Ao_XS x_2.length co_XS, .int .i64 x_3] 43 (0, 0)) (by (with_reducible repeat (first | refine blk_drewN ?_ _ | refine blk_drew ?_ | refine blk_alloc ?_ _ )); exact BK_X.out) hb); have n9_ := Aside0.mk (blk_below (g := gb_G) (o := .cells #[.slice Ao_GW g_0.length co_GW, .slice Ao_GM g_1.length co_GM, .slice Ao_GS g_2.length co_GS, .int .i64 g_3] 43 (0, 0)) (by (with_reducible repeat (first | refine blk_drewN ?_ _ | refine blk_drew ?_ | refine blk_alloc ?_ _ )); exact BK_G.out) hb); have n10_ := Aside0.mk (below_step (by repeat ((with_reducible exact HB.out))) hb); have n11_ := Aside0.mk (below_step (by repeat ((with_reducible exact HG.out))) hb); have n12_ := Aside0.mk (Kd.R_lower ho_RW (below_size (by repeat ((with_reducible exact HG.out))))); have n13_ := Aside0.mk (Kd.R_lower ho_RM (below_size (by repeat ((with_reducible exact HG.out))))); have n14_ := Aside0.mk (Kd.S_lower ho_RS (below_size (by repeat ((with_reducible exact HG.out))))); (try clear HO_WW); (try clear HO_WM); (try clear HO_WS); (try clear HO_GW); (try clear HO_GM); (try clear HO_GS); (try clear BK_aS); (try clear BK_W); (try clear BK_X); (try clear BK_G); (try clear HB); (try clear HG); (try clear HO_RW); (try clear HO_RM); (try clear HO_RS); have HO_WW := n0_; have HO_WM := n1_; have HO_WS := n2_; have HO_GW := n3_; have HO_GM := n4_; have HO_GS := n5_; have BK_aS := n6_; have BK_W := n7_; have BK_X := n8_; have BK_G := n9_; have HB := n10_; have HG := n11_; have HO_RW := n12_; have HO_RM := n13_; have HO_RS := n14_; clear n0_ n1_ n2_ n3_ n4_ n5_ n6_ n7_ n8_ n9_ n10_ n11_ n12_ n13_ n14_; (try clear hb ho_RW ho_RM ho_RS); obtain ⟨Ao_RW, co_RW, eo_RW⟩ := Kd.R_slice HO_RW.out; subst eo_RW; obtain ⟨Ao_RM, co_RM, eo_RM⟩ := Kd.R_slice HO_RM.out; subst eo_RM; obtain ⟨Ao_RS, co_RS, eo_RS⟩ := Kd.S_slice HO_RS.out; subst eo_RS) | ((with_reducible refine gate_callee (f := 53) rfl ?_); refine goesL_ (some 64) rfl rfl Try.func53 (by kernel_rfl) rfl #[.agg #[.slice Ao_RW r_0.length co_RW, .slice Ao_RM r_1.length co_RM, .slice Ao_RS r_2.length co_RS, .int .i64 r_3], .string a1] rfl (by (try simp only [List.map_toArray, List.map_cons, List.map_nil]); rfl) ?_; (with_reducible refine (impl_PolicyDrop.calls k _ _ r_0 _ _ r_1 _ _ r_2 r_3 a1 h_0 h_1 h_2 h_3 _ ?side1 ?side2 ?side3 ?side4 ?side5 ?side6 A19.out).mono ?_); (case side1 => repeat (exact (Kd.R_reads' HO_RW.out).2.2)); (case side2 => exact (Kd.R_reads' HO_RW.out).2.1); (case side3 => repeat (exact (Kd.R_reads' HO_RM.out).2.2)); (case side4 => exact (Kd.R_reads' HO_RM.out).2.1); (case side5 => repeat (exact (Kd.S_reads' HO_RS.out).2.2)); (case side6 => exact (Kd.S_reads' HO_RS.out).2.1); rintro e w66 ⟨v_HW, v_HM, v_HS, rfl, ho_HW, ho_HM, ho_HS, hb⟩; refine ⟨_, rfl, ?_⟩; have n0_ := Aside0.mk (Kd.R_below (by (with_reducible repeat (first | apply Kd.R_alloc | apply Kd.R_drewN | apply Kd.R_drew )); exact HO_WW.out) hb); have n1_ := Aside0.mk (Kd.R_below (by (with_reducible repeat (first | apply Kd.R_alloc | apply Kd.R_drewN | apply Kd.R_drew )); exact HO_WM.out) hb); have n2_ := Aside0.mk (Kd.S_below (by (with_reducible repeat (first | apply Kd.S_alloc | apply Kd.S_drewN | apply Kd.S_drew )); exact HO_WS.out) hb); have n3_ := Aside0.mk (Kd.R_below (by (with_reducible repeat (first | apply Kd.R_alloc | apply Kd.R_drewN | apply Kd.R_drew )); exact HO_GW.out) hb); have n4_ := Aside0.mk (Kd.R_below (by (with_reducible repeat (first | apply Kd.R_alloc | apply Kd.R_drewN | apply Kd.R_drew )); exact HO_GM.out) hb); have n5_ := Aside0.mk (Kd.S_below (by (with_reducible repeat (first | apply Kd.S_alloc | apply Kd.S_drewN | apply Kd.S_drew )); exact HO_GS.out) hb); have n6_ := Aside0.mk (Kd.R_below (by (with_reducible repeat (first | apply Kd.R_alloc | apply Kd.R_drewN | apply Kd.R_drew )); exact HO_RW.out) hb); have n7_ := Aside0.mk (Kd.R_below (by (with_reducible repeat (first | apply Kd.R_alloc | apply Kd.R_drewN | apply Kd.R_drew )); exact HO_RM.out) hb); have n8_ := Aside0.mk (Kd.S_below (by (with_reducible repeat (first | apply Kd.S_alloc | apply Kd.S_drewN | apply Kd.S_drew )); exact HO_RS.out) hb); have n9_ := Aside0.mk (blk_below (g := gb_aS) (o := .cells #[.slice A0_0 l0_0.length c0_0, .slice A0_1 l0_1.length c0_1, .slice A0_2 l0_2.length c0_2, .int .i64 a0_3] 49 (0, 0)) (by (with_reducible repeat (first | refine blk_drewN ?_ _ | refine blk_drew ?_ | refine blk_alloc ?_ _ )); exact BK_aS.out) hb); have n10_ := Aside0.mk (blk_below (g := gb_W) (o := .cells #[.slice Ao_WW w_0.length co_WW, .slice Ao_WM w_1.length co_WM, .slice Ao_WS w_2.length co_WS, .int .i64 w_3] 43 (0, 0)) (by (with_reducible repeat (first | refine blk_drewN ?_ _ | refine blk_drew ?_ | refine blk_alloc ?_ _ )); exact BK_W.out) hb); have n11_ := Aside0.mk (blk_below (g := gb_X) (o := .cells #[.slice Ao_XW x_0.length co_XW, .slice Ao_XM x_1.length co_XM, .slice Ao_XS x_2.length co_XS, .int .i64 x_3] 43 (0, 0)) (by (with_reducible repeat (first | refine blk_drewN ?_ _ | refine blk_drew ?_ | refine blk_alloc ?_ _ )); exact BK_X.out) hb); have n12_ := Aside0.mk (blk_below (g := gb_G) (o := .cells #[.slice Ao_GW g_0.length co_GW, .slice Ao_GM g_1.length co_GM, .slice Ao_GS g_2.length co_GS, .int .i64 g_3] 43 (0, 0)) (by (with_reducible repeat (first | refine blk_drewN ?_ _ | refine blk_drew ?_ | refine blk_alloc ?_ _ )); exact BK_G.out) hb); have n13_ := Aside0.mk (below_step (by repeat ((with_reducible exact HB.out))) hb); have n14_ := Aside0.mk (below_step (by repeat ((with_reducible exact HG.out))) hb); have n15_ := Aside0.mk (Kd.R_lower ho_HW (below_size (by repeat ((with_reducible exact HG.out))))); have n16_ := Aside0.mk (Kd.R_lower ho_HM (below_size (by repeat ((with_reducible exact HG.out))))); have n17_ := Aside0.mk (Kd.S_lower ho_HS (below_size (by repeat ((with_reducible exact HG.out))))); (try clear HO_WW); (try clear HO_WM); (try clear HO_WS); (try clear HO_GW); (try clear HO_GM); (try clear HO_GS); (try clear HO_RW); (try clear HO_RM); (try clear HO_RS); (try clear BK_aS); (try clear BK_W); (try clear BK_X); (try clear BK_G); (try clear HB); (try clear HG); (try clear HO_HW); (try clear HO_HM); (try clear HO_HS); have HO_WW := n0_; have HO_WM := n1_; have HO_WS := n2_; have HO_GW := n3_; have HO_GM := n4_; have HO_GS := n5_; have HO_RW := n6_; have HO_RM := n7_; have HO_RS := n8_; have BK_aS := n9_; have BK_W := n10_; have BK_X := n11_; have BK_G := n12_; have HB := n13_; have HG := n14_; have HO_HW := n15_; have HO_HM := n16_; have HO_HS := n17_; clear n0_ n1_ n2_ n3_ n4_ n5_ n6_ n7_ n8_ n9_ n10_ n11_ n12_ n13_ n14_ n15_ n16_ n17_; (try clear hb ho_HW ho_HM ho_HS); obtain ⟨Ao_HW, co_HW, eo_HW⟩ := Kd.R_slice HO_HW.out; subst eo_HW; obtain ⟨Ao_HM, co_HM, eo_HM⟩ := Kd.R_slice HO_HM.out; subst eo_HM; obtain ⟨Ao_HS, co_HS, eo_HS⟩ := Kd.S_slice HO_HS.out; subst eo_HS) | ((with_reducible refine gate_dst (N := 12) rfl ?_); refine box_event ?hg (N := 12) ?hd (cs := #[.slice none 0 0, .slice none 0 0, .slice none 0 0, .int .i64 0]) (t := 43) ?hr ?_; (case hd => rfl); (case hg => rfl); (case hr => (go_simp; done)); intro gb_H hg w67 hbox hb; have n0_ := Aside0.mk (Kd.R_below (by (with_reducible repeat (first | apply Kd.R_alloc | apply Kd.R_drewN | apply Kd.R_drew )); exact HO_WW.out) hb); have n1_ := Aside0.mk (Kd.R_below (by (with_reducible repeat (first | apply Kd.R_alloc | apply Kd.R_drewN | apply Kd.R_drew )); exact HO_WM.out) hb); have n2_ := Aside0.mk (Kd.S_below (by (with_reducible repeat (first | apply Kd.S_alloc | apply Kd.S_drewN | apply Kd.S_drew )); exact HO_WS.out) hb); have n3_ := Aside0.mk (Kd.R_below (by (with_reducible repeat (first | apply Kd.R_alloc | apply Kd.R_drewN | apply Kd.R_drew )); exact HO_GW.out) hb); have n4_ := Aside0.mk (Kd.R_below (by (with_reducible repeat (first | apply Kd.R_alloc | apply Kd.R_drewN | apply Kd.R_drew )); exact HO_GM.out) hb); have n5_ := Aside0.mk (Kd.S_below (by (with_reducible repeat (first | apply Kd.S_alloc | apply Kd.S_drewN | apply Kd.S_drew )); exact HO_GS.out) hb); have n6_ := Aside0.mk (Kd.R_below (by (with_reducible repeat (first | apply Kd.R_alloc | apply Kd.R_drewN | apply Kd.R_drew )); exact HO_HW.out) hb); have n7_ := Aside0.mk (Kd.R_below (by (with_reducible repeat (first | apply Kd.R_alloc | apply Kd.R_drewN | apply Kd.R_drew )); exact HO_HM.out) hb); have n8_ := Aside0.mk (Kd.S_below (by (with_reducible repeat (first | apply Kd.S_alloc | apply Kd.S_drewN | apply Kd.S_drew )); exact HO_HS.out) hb); have n9_ := Aside0.mk (blk_below (g := gb_aS) (o := .cells #[.slice A0_0 l0_0.length c0_0, .slice A0_1 l0_1.length c0_1, .slice A0_2 l0_2.length c0_2, .int .i64 a0_3] 49 (0, 0)) (by (with_reducible repeat (first | refine blk_drewN ?_ _ | refine blk_drew ?_ | refine blk_alloc ?_ _ )); exact BK_aS.out) hb); have n10_ := Aside0.mk (blk_below (g := gb_W) (o := .cells #[.slice Ao_WW w_0.length co_WW, .slice Ao_WM w_1.length co_WM, .slice Ao_WS w_2.length co_WS, .int .i64 w_3] 43 (0, 0)) (by (with_reducible repeat (first | refine blk_drewN ?_ _ | refine blk_drew ?_ | refine blk_alloc ?_ _ )); exact BK_W.out) hb); have n11_ := Aside0.mk (blk_below (g := gb_X) (o := .cells #[.slice Ao_XW x_0.length co_XW, .slice Ao_XM x_1.length co_XM, .slice Ao_XS x_2.length co_XS, .int .i64 x_3] 43 (0, 0)) (by (with_reducible repeat (first | refine blk_drewN ?_ _ | refine blk_drew ?_ | refine blk_alloc ?_ _ )); exact BK_X.out) hb); have n12_ := Aside0.mk (blk_below (g := gb_G) (o := .cells #[.slice Ao_GW g_0.length co_GW, .slice Ao_GM g_1.length co_GM, .slice Ao_GS g_2.length co_GS, .int .i64 g_3] 43 (0, 0)) (by (with_reducible repeat (first | refine blk_drewN ?_ _ | refine blk_drew ?_ | refine blk_alloc ?_ _ )); exact BK_G.out) hb); have n13_ := Aside0.mk (below_step (by repeat ((with_reducible exact HB.out))) hb); have n14_ := Aside0.mk (below_step (by repeat ((with_reducible exact HG.out))) hb); have n15_ := Aside0.mk (hbox); have n16_ := Aside0.mk ((by rw [hg]; exact (below_size (by repeat ((with_reducible exact HB.out)))) : w.heap.size ≤ gb_H)); have n17_ := Aside0.mk ((by rw [hg]; exact (below_size (by repeat ((with_reducible exact HG.out)))) : WG.heap.size ≤ gb_H)); have n18_ := Aside0.mk ((by rw [hg]; exact Nat.ne_of_lt (blk_lt (g := gb_aS) (o := .cells #[.slice A0_0 l0_0.length c0_0, .slice A0_1 l0_1.length c0_1, .slice A0_2 l0_2.length c0_2, .int .i64 a0_3] 49 (0, 0)) (by (with_reducible repeat (first | refine blk_drewN ?_ _ | refine blk_drew ?_ | refine blk_alloc ?_ _ )); exact BK_aS.out)) : gb_aS ≠ gb_H)); have n19_ := Aside0.mk ((by rw [hg]; exact Nat.ne_of_gt (blk_lt (g := gb_aS) (o := .cells #[.slice A0_0 l0_0.length c0_0, .slice A0_1 l0_1.length c0_1, .slice A0_2 l0_2.length c0_2, .int .i64 a0_3] 49 (0, 0)) (by (with_reducible repeat (first | refine blk_drewN ?_ _ | refine blk_drew ?_ | refine blk_alloc ?_ _ )); exact BK_aS.out)) : gb_H ≠ gb_aS)); have n20_ := Aside0.mk ((by rw [hg]; exact Nat.ne_of_lt (blk_lt (g := gb_W) (o := .cells #[.slice Ao_WW w_0.length co_WW, .slice Ao_WM w_1.length co_WM, .slice Ao_WS w_2.length co_WS, .int .i64 w_3] 43 (0, 0)) (by (with_reducible repeat (first | refine blk_drewN ?_ _ | refine blk_drew ?_ | refine blk_alloc ?_ _ )); exact BK_W.out)) : gb_W ≠ gb_H)); have n21_ := Aside0.mk ((by rw [hg]; exact Nat.ne_of_gt (blk_lt (g := gb_W) (o := .cells #[.slice Ao_WW w_0.length co_WW, .slice Ao_WM w_1.length co_WM, .slice Ao_WS w_2.length co_WS, .int .i64 w_3] 43 (0, 0)) (by (with_reducible repeat (first | refine blk_drewN ?_ _ | refine blk_drew ?_ | refine blk_alloc ?_ _ )); exact BK_W.out)) : gb_H ≠ gb_W)); have n22_ := Aside0.mk ((by rw [hg]; exact Nat.ne_of_lt (blk_lt (g := gb_X) (o := .cells #[.slice Ao_XW x_0.length co_XW, .slice Ao_XM x_1.length co_XM, .slice Ao_XS x_2.length co_XS, .int .i64 x_3] 43 (0, 0)) (by (with_reducible repeat (first | refine blk_drewN ?_ _ | refine blk_drew ?_ | refine blk_alloc ?_ _ )); exact BK_X.out)) : gb_X ≠ gb_H)); have n23_ := Aside0.mk ((by rw [hg]; exact Nat.ne_of_gt (blk_lt (g := gb_X) (o := .cells #[.slice Ao_XW x_0.length co_XW, .slice Ao_XM x_1.length co_XM, .slice Ao_XS x_2.length co_XS, .int .i64 x_3] 43 (0, 0)) (by (with_reducible repeat (first | refine blk_drewN ?_ _ | refine blk_drew ?_ | refine blk_alloc ?_ _ )); exact BK_X.out)) : gb_H ≠ gb_X)); have n24_ := Aside0.mk ((by rw [hg]; exact Nat.ne_of_lt (blk_lt (g := gb_G) (o := .cells #[.slice Ao_GW g_0.length co_GW, .slice Ao_GM g_1.length co_GM, .slice Ao_GS g_2.length co_GS, .int .i64 g_3] 43 (0, 0)) (by (with_reducible repeat (first | refine blk_drewN ?_ _ | refine blk_drew ?_ | refine blk_alloc ?_ _ )); exact BK_G.out)) : gb_G ≠ gb_H)); have n25_ := Aside0.mk ((by rw [hg]; exact Nat.ne_of_gt (blk_lt (g := gb_G) (o := .cells #[.slice Ao_GW g_0.length co_GW, .slice Ao_GM g_1.length co_GM, .slice Ao_GS g_2.length co_GS, .int .i64 g_3] 43 (0, 0)) (by (with_reducible repeat (first | refine blk_drewN ?_ _ | refine blk_drew ?_ | refine blk_alloc ?_ _ )); exact BK_G.out)) : gb_H ≠ gb_G)); (try clear HO_WW); (try clear HO_WM); (try clear HO_WS); (try clear HO_GW); (try clear HO_GM); (try clear HO_GS); (try clear HO_HW); (try clear HO_HM); (try clear HO_HS); (try clear BK_aS); (try clear BK_W); (try clear BK_X); (try clear BK_G); (try clear HB); (try clear HG); (try clear BK_H); (try clear GE_H); (try clear GG_H); (try clear NB_aS_H); (try clear NB_H_aS); (try clear NB_W_H); (try clear NB_H_W); (try clear NB_X_H); (try clear NB_H_X); (try clear NB_G_H); (try clear NB_H_G); have HO_WW := n0_; have HO_WM := n1_; have HO_WS := n2_; have HO_GW := n3_; have HO_GM := n4_; have HO_GS := n5_; have HO_HW := n6_; have HO_HM := n7_; have HO_HS := n8_; have BK_aS := n9_; have BK_W := n10_; have BK_X := n11_; have BK_G := n12_; have HB := n13_; have HG := n14_; have BK_H := n15_; have GE_H := n16_; have GG_H := n17_; have NB_aS_H := n18_; have NB_H_aS := n19_; have NB_W_H := n20_; have NB_H_W := n21_; have NB_X_H := n22_; have NB_H_X := n23_; have NB_G_H := n24_; have NB_H_G := n25_; clear n0_ n1_ n2_ n3_ n4_ n5_ n6_ n7_ n8_ n9_ n10_ n11_ n12_ n13_ n14_ n15_ n16_ n17_ n18_ n19_ n20_ n21_ n22_ n23_ n24_ n25_; clear hb hbox hg; have hnb_aS_H := NB_aS_H.out; have hnb_H_aS := NB_H_aS.out; have hnb_W_H := NB_W_H.out; have hnb_H_W := NB_H_W.out; have hnb_X_H := NB_X_H.out; have hnb_H_X := NB_H_X.out; have hnb_G_H := NB_G_H.out; have hnb_H_G := NB_H_G.out; have hcz15_0 : w67.cell? ⟨gb_H, 0, none⟩ = some (.slice none 0 0) := (blk_cell BK_H.out 0).trans rfl; have hfz15_0 := blk_frozen BK_H.out 0; have hcz15_1 : w67.cell? ⟨gb_H, 1, none⟩ = some (.slice none 0 0) := (blk_cell BK_H.out 1).trans rfl; have hfz15_1 := blk_frozen BK_H.out 1; have hcz15_2 : w67.cell? ⟨gb_H, 2, none⟩ = some (.slice none 0 0) := (blk_cell BK_H.out 2).trans rfl; have hfz15_2 := blk_frozen BK_H.out 2; have hcz15_3 : w67.cell? ⟨gb_H, 3, none⟩ = some (.int .i64 0) := (blk_cell BK_H.out 3).trans rfl; have hfz15_3 := blk_frozen BK_H.out 3; have hcz16_0 : w67.cell? ⟨gb_W, 0, none⟩ = some (.slice Ao_WW w_0.length co_WW) := (blk_cell BK_W.out 0).trans rfl; have hfz16_0 := blk_frozen BK_W.out 0; have hcz16_1 : w67.cell? ⟨gb_W, 1, none⟩ = some (.slice Ao_WM w_1.length co_WM) := (blk_cell BK_W.out 1).trans rfl; have hfz16_1 := blk_frozen BK_W.out 1; have hcz16_2 : w67.cell? ⟨gb_W, 2, none⟩ = some (.slice Ao_WS w_2.length co_WS) := (blk_cell BK_W.out 2).trans rfl; have hfz16_2 := blk_frozen BK_W.out 2; have hcz16_3 : w67.cell? ⟨gb_W, 3, none⟩ = some (.int .i64 w_3) := (blk_cell BK_W.out 3).trans rfl; have hfz16_3 := blk_frozen BK_W.out 3) | ((with_reducible refine gate_callee (f := 34) rfl ?_); refine goesL_ (some 67) rfl rfl Try.func34 (by kernel_rfl) rfl #[.agg #[.slice Ao_HW h_0.length co_HW, .slice Ao_HM h_1.length co_HM, .slice Ao_HS h_2.length co_HS, .int .i64 h_3], .agg #[.slice Ao_WW w_0.length co_WW, .slice Ao_WM w_1.length co_WM, .slice Ao_WS w_2.length co_WS, .int .i64 w_3]] rfl (by (try simp only [List.map_toArray, List.map_cons, List.map_nil]); rfl) ?_; (with_reducible refine (laws_eqPolicy.calls k _ _ h_0 _ _ h_1 _ _ h_2 h_3 _ _ w_0 _ _ w_1 _ _ w_2 w_3 true _ ?side1 ?side2 ?side3 ?side4 ?side5 ?side6 ?side7 ?side8 ?side9 ?side10 ?side11 ?side12 A20.out).mono ?_); (case side1 => refine (Kd.R_reads' (e := 9) (base := WG.heap.size) (ok := (fun k_ => some k_ ≠ (.slice Ao_HM h_1.length co_HM : Value).ownBlock)) (n := h_0.length) (c := co_HW) ?_).2.2; exact (by (with_reducible repeat (first | apply Kd.R_alloc | apply Kd.R_drewN | apply Kd.R_drew )); exact Kd.R_drop (Kd.R_far (p := ⟨gb_H, 3, none⟩) (Kd.R_far (p := ⟨gb_H, 2, none⟩) (Kd.R_far (p := ⟨gb_H, 1, none⟩) (Kd.R_far (p := ⟨gb_H, 0, none⟩) (Kd.R_types HO_HW.out BK_H.out (by decide)) (fun _ hk => hk.2) (.slice Ao_HW h_0.length co_HW)) (fun _ hk => hk.2) (.slice Ao_HM h_1.length co_HM)) (fun _ hk => hk.2) (.slice Ao_HS h_2.length co_HS)) (fun _ hk => hk.2) (.int .i64 h_3)))); (case side2 => exact (Kd.R_reads' HO_HW.out).2.1); (case side3 => refine (Kd.R_reads' (e := 9) (base := WG.heap.size) (ok := (fun k_ => some k_ ≠ (.slice Ao_HW h_0.length co_HW : Value).ownBlock)) (n := h_1.length) (c := co_HM) ?_).2.2; exact (by (with_reducible repeat (first | apply Kd.R_alloc | apply Kd.R_drewN | apply Kd.R_drew )); exact Kd.R_drop (Kd.R_far (p := ⟨gb_H, 3, none⟩) (Kd.R_far (p := ⟨gb_H, 2, none⟩) (Kd.R_far (p := ⟨gb_H, 1, none⟩) (Kd.R_far (p := ⟨gb_H, 0, none⟩) (Kd.R_types HO_HM.out BK_H.out (by decide)) (fun _ hk => hk.2) (.slice Ao_HW h_0.length co_HW)) (fun _ hk => hk.2) (.slice Ao_HM h_1.length co_HM)) (fun _ hk => hk.2) (.slice Ao_HS h_2.length co_HS)) (fun _ hk => hk.2) (.int .i64 h_3)))); (case side4 => exact (Kd.R_reads' HO_HM.out).2.1); (case side5 => refine (Kd.S_reads' (e := 58) (base := WG.heap.size) (ok := (fun _ => True)) (n := h_2.length) (c := co_HS) ?_).2.2; exact (by (with_reducible repeat (first | apply Kd.S_alloc | apply Kd.S_drewN | apply Kd.S_drew )); exact Kd.S_drop (Kd.S_far (p := ⟨gb_H, 3, none⟩) (Kd.S_far (p := ⟨gb_H, 2, none⟩) (Kd.S_far (p := ⟨gb_H, 1, none⟩) (Kd.S_far (p := ⟨gb_H, 0, none⟩) (Kd.S_types HO_HS.out BK_H.out (by decide)) (fun _ hk => hk.2) (.slice Ao_HW h_0.length co_HW)) (fun _ hk => hk.2) (.slice Ao_HM h_1.length co_HM)) (fun _ hk => hk.2) (.slice Ao_HS h_2.length co_HS)) (fun _ hk => hk.2) (.int .i64 h_3)))); (case side6 => exact (Kd.S_reads' HO_HS.out).2.1); (case side7 => refine (Kd.R_reads' (e := 9) (base := w.heap.size) (ok := (fun k_ => True ∧ k_ < WG.heap.size)) (n := w_0.length) (c := co_WW) ?_).2.2; exact (by (with_reducible repeat (first | apply Kd.R_alloc | apply Kd.R_drewN | apply Kd.R_drew )); exact Kd.R_drop (Kd.R_far (p := ⟨gb_H, 3, none⟩) (Kd.R_far (p := ⟨gb_H, 2, none⟩) (Kd.R_far (p := ⟨gb_H, 1, none⟩) (Kd.R_far (p := ⟨gb_H, 0, none⟩) (Kd.R_types HO_WW.out BK_H.out (by decide)) (fun _ hk => hk.2) (.slice Ao_HW h_0.length co_HW)) (fun _ hk => hk.2) (.slice Ao_HM h_1.length co_HM)) (fun _ hk => hk.2) (.slice Ao_HS h_2.length co_HS)) (fun _ hk => hk.2) (.int .i64 h_3)))); (case side8 => exact (Kd.R_reads' HO_WW.out).2.1); (case side9 => refine (Kd.R_reads' (e := 9) (base := w.heap.size) (ok := (fun k_ => True ∧ k_ < WG.heap.size)) (n := w_1.length) (c := co_WM) ?_).2.2; exact (by (with_reducible repeat (first | apply Kd.R_alloc | apply Kd.R_drewN | apply Kd.R_drew )); exact Kd.R_drop (Kd.R_far (p := ⟨gb_H, 3, none⟩) (Kd.R_far (p := ⟨gb_H, 2, none⟩) (Kd.R_far (p := ⟨gb_H, 1, none⟩) (Kd.R_far (p := ⟨gb_H, 0, none⟩) (Kd.R_types HO_WM.out BK_H.out (by decide)) (fun _ hk => hk.2) (.slice Ao_HW h_0.length co_HW)) (fun _ hk => hk.2) (.slice Ao_HM h_1.length co_HM)) (fun _ hk => hk.2) (.slice Ao_HS h_2.length co_HS)) (fun _ hk => hk.2) (.int .i64 h_3)))); (case side10 => exact (Kd.R_reads' HO_WM.out).2.1); (case side11 => refine (Kd.S_reads' (e := 58) (base := w.heap.size) (ok := (fun k_ => True ∧ k_ < WG.heap.size)) (n := w_2.length) (c := co_WS) ?_).2.2; exact (by (with_reducible repeat (first | apply Kd.S_alloc | apply Kd.S_drewN | apply Kd.S_drew )); exact Kd.S_drop (Kd.S_far (p := ⟨gb_H, 3, none⟩) (Kd.S_far (p := ⟨gb_H, 2, none⟩) (Kd.S_far (p := ⟨gb_H, 1, none⟩) (Kd.S_far (p := ⟨gb_H, 0, none⟩) (Kd.S_types HO_WS.out BK_H.out (by decide)) (fun _ hk => hk.2) (.slice Ao_HW h_0.length co_HW)) (fun _ hk => hk.2) (.slice Ao_HM h_1.length co_HM)) (fun _ hk => hk.2) (.slice Ao_HS h_2.length co_HS)) (fun _ hk => hk.2) (.int .i64 h_3)))); (case side12 => exact (Kd.S_reads' HO_WS.out).2.1); rintro e w68 ⟨rfl, hb⟩; refine ⟨_, rfl, ?_⟩; have n0_ := Aside0.mk (Kd.R_below (by (with_reducible repeat (first | apply Kd.R_alloc | apply Kd.R_drewN | apply Kd.R_drew )); exact Kd.R_drop (Kd.R_far (p := ⟨gb_H, 3, none⟩) (Kd.R_far (p := ⟨gb_H, 2, none⟩) (Kd.R_far (p := ⟨gb_H, 1, none⟩) (Kd.R_far (p := ⟨gb_H, 0, none⟩) (Kd.R_types HO_WW.out BK_H.out (by decide)) (fun _ hk => hk.2) (.slice Ao_HW h_0.length co_HW)) (fun _ hk => hk.2) (.slice Ao_HM h_1.length co_HM)) (fun _ hk => hk.2) (.slice Ao_HS h_2.length co_HS)) (fun _ hk => hk.2) (.int .i64 h_3))) hb); have n1_ := Aside0.mk (Kd.R_below (by (with_reducible repeat (first | apply Kd.R_alloc | apply Kd.R_drewN | apply Kd.R_drew )); exact Kd.R_drop (Kd.R_far (p := ⟨gb_H, 3, none⟩) (Kd.R_far (p := ⟨gb_H, 2, none⟩) (Kd.R_far (p := ⟨gb_H, 1, none⟩) (Kd.R_far (p := ⟨gb_H, 0, none⟩) (Kd.R_types HO_WM.out BK_H.out (by decide)) (fun _ hk => hk.2) (.slice Ao_HW h_0.length co_HW)) (fun _ hk => hk.2) (.slice Ao_HM h_1.length co_HM)) (fun _ hk => hk.2) (.slice Ao_HS h_2.length co_HS)) (fun _ hk => hk.2) (.int .i64 h_3))) hb); have n2_ := Aside0.mk (Kd.S_below (by (with_reducible repeat (first | apply Kd.S_alloc | apply Kd.S_drewN | apply Kd.S_drew )); exact Kd.S_drop (Kd.S_far (p := ⟨gb_H, 3, none⟩) (Kd.S_far (p := ⟨gb_H, 2, none⟩) (Kd.S_far (p := ⟨gb_H, 1, none⟩) (Kd.S_far (p := ⟨gb_H, 0, none⟩) (Kd.S_types HO_WS.out BK_H.out (by decide)) (fun _ hk => hk.2) (.slice Ao_HW h_0.length co_HW)) (fun _ hk => hk.2) (.slice Ao_HM h_1.length co_HM)) (fun _ hk => hk.2) (.slice Ao_HS h_2.length co_HS)) (fun _ hk => hk.2) (.int .i64 h_3))) hb); have n3_ := Aside0.mk (Kd.R_below (by (with_reducible repeat (first | apply Kd.R_alloc | apply Kd.R_drewN | apply Kd.R_drew )); exact Kd.R_drop (Kd.R_far (p := ⟨gb_H, 3, none⟩) (Kd.R_far (p := ⟨gb_H, 2, none⟩) (Kd.R_far (p := ⟨gb_H, 1, none⟩) (Kd.R_far (p := ⟨gb_H, 0, none⟩) (Kd.R_types HO_GW.out BK_H.out (by decide)) (fun _ hk => hk.2) (.slice Ao_HW h_0.length co_HW)) (fun _ hk => hk.2) (.slice Ao_HM h_1.length co_HM)) (fun _ hk => hk.2) (.slice Ao_HS h_2.length co_HS)) (fun _ hk => hk.2) (.int .i64 h_3))) hb); have n4_ := Aside0.mk (Kd.R_below (by (with_reducible repeat (first | apply Kd.R_alloc | apply Kd.R_drewN | apply Kd.R_drew )); exact Kd.R_drop (Kd.R_far (p := ⟨gb_H, 3, none⟩) (Kd.R_far (p := ⟨gb_H, 2, none⟩) (Kd.R_far (p := ⟨gb_H, 1, none⟩) (Kd.R_far (p := ⟨gb_H, 0, none⟩) (Kd.R_types HO_GM.out BK_H.out (by decide)) (fun _ hk => hk.2) (.slice Ao_HW h_0.length co_HW)) (fun _ hk => hk.2) (.slice Ao_HM h_1.length co_HM)) (fun _ hk => hk.2) (.slice Ao_HS h_2.length co_HS)) (fun _ hk => hk.2) (.int .i64 h_3))) hb); have n5_ := Aside0.mk (Kd.S_below (by (with_reducible repeat (first | apply Kd.S_alloc | apply Kd.S_drewN | apply Kd.S_drew )); exact Kd.S_drop (Kd.S_far (p := ⟨gb_H, 3, none⟩) (Kd.S_far (p := ⟨gb_H, 2, none⟩) (Kd.S_far (p := ⟨gb_H, 1, none⟩) (Kd.S_far (p := ⟨gb_H, 0, none⟩) (Kd.S_types HO_GS.out BK_H.out (by decide)) (fun _ hk => hk.2) (.slice Ao_HW h_0.length co_HW)) (fun _ hk => hk.2) (.slice Ao_HM h_1.length co_HM)) (fun _ hk => hk.2) (.slice Ao_HS h_2.length co_HS)) (fun _ hk => hk.2) (.int .i64 h_3))) hb); have n6_ := Aside0.mk (Kd.R_below (by (with_reducible repeat (first | apply Kd.R_alloc | apply Kd.R_drewN | apply Kd.R_drew )); exact Kd.R_drop (Kd.R_far (p := ⟨gb_H, 3, none⟩) (Kd.R_far (p := ⟨gb_H, 2, none⟩) (Kd.R_far (p := ⟨gb_H, 1, none⟩) (Kd.R_far (p := ⟨gb_H, 0, none⟩) (Kd.R_types HO_HW.out BK_H.out (by decide)) (fun _ hk => hk.2) (.slice Ao_HW h_0.length co_HW)) (fun _ hk => hk.2) (.slice Ao_HM h_1.length co_HM)) (fun _ hk => hk.2) (.slice Ao_HS h_2.length co_HS)) (fun _ hk => hk.2) (.int .i64 h_3))) hb); have n7_ := Aside0.mk (Kd.R_below (by (with_reducible repeat (first | apply Kd.R_alloc | apply Kd.R_drewN | apply Kd.R_drew )); exact Kd.R_drop (Kd.R_far (p := ⟨gb_H, 3, none⟩) (Kd.R_far (p := ⟨gb_H, 2, none⟩) (Kd.R_far (p := ⟨gb_H, 1, none⟩) (Kd.R_far (p := ⟨gb_H, 0, none⟩) (Kd.R_types HO_HM.out BK_H.out (by decide)) (fun _ hk => hk.2) (.slice Ao_HW h_0.length co_HW)) (fun _ hk => hk.2) (.slice Ao_HM h_1.length co_HM)) (fun _ hk => hk.2) (.slice Ao_HS h_2.length co_HS)) (fun _ hk => hk.2) (.int .i64 h_3))) hb); have n8_ := Aside0.mk (Kd.S_below (by (with_reducible repeat (first | apply Kd.S_alloc | apply Kd.S_drewN | apply Kd.S_drew )); exact Kd.S_drop (Kd.S_far (p := ⟨gb_H, 3, none⟩) (Kd.S_far (p := ⟨gb_H, 2, none⟩) (Kd.S_far (p := ⟨gb_H, 1, none⟩) (Kd.S_far (p := ⟨gb_H, 0, none⟩) (Kd.S_types HO_HS.out BK_H.out (by decide)) (fun _ hk => hk.2) (.slice Ao_HW h_0.length co_HW)) (fun _ hk => hk.2) (.slice Ao_HM h_1.length co_HM)) (fun _ hk => hk.2) (.slice Ao_HS h_2.length co_HS)) (fun _ hk => hk.2) (.int .i64 h_3))) hb); have n9_ := Aside0.mk (blk_below (g := gb_aS) (o := .cells #[.slice A0_0 l0_0.length c0_0, .slice A0_1 l0_1.length c0_1, .slice A0_2 l0_2.length c0_2, .int .i64 a0_3] 49 (0, 0)) (by (with_reducible repeat (first | refine blk_drewN ?_ _ | refine blk_drew ?_ | refine blk_alloc ?_ _ )); refine blk_far ?_ NB_aS_H.out _; (with_reducible repeat (first | refine blk_drewN ?_ _ | refine blk_drew ?_ | refine blk_alloc ?_ _ )); refine blk_far ?_ NB_aS_H.out _; (with_reducible repeat (first | refine blk_drewN ?_ _ | refine blk_drew ?_ | refine blk_alloc ?_ _ )); refine blk_far ?_ NB_aS_H.out _; (with_reducible repeat (first | refine blk_drewN ?_ _ | refine blk_drew ?_ | refine blk_alloc ?_ _ )); refine blk_far ?_ NB_aS_H.out _; (with_reducible repeat (first | refine blk_drewN ?_ _ | refine blk_drew ?_ | refine blk_alloc ?_ _ )); exact BK_aS.out) hb); have n10_ := Aside0.mk (blk_below (g := gb_W) (o := .cells #[.slice Ao_WW w_0.length co_WW, .slice Ao_WM w_1.length co_WM, .slice Ao_WS w_2.length co_WS, .int .i64 w_3] 43 (0, 0)) (by (with_reducible repeat (first | refine blk_drewN ?_ _ | refine blk_drew ?_ | refine blk_alloc ?_ _ )); refine blk_far ?_ NB_W_H.out _; (with_reducible repeat (first | refine blk_drewN ?_ _ | refine blk_drew ?_ | refine blk_alloc ?_ _ )); refine blk_far ?_ NB_W_H.out _; (with_reducible repeat (first | refine blk_drewN ?_ _ | refine blk_drew ?_ | refine blk_alloc ?_ _ )); refine blk_far ?_ NB_W_H.out _; (with_reducible repeat (first | refine blk_drewN ?_ _ | refine blk_drew ?_ | refine blk_alloc ?_ _ )); refine blk_far ?_ NB_W_H.out _; (with_reducible repeat (first | refine blk_drewN ?_ _ | refine blk_drew ?_ | refine blk_alloc ?_ _ )); exact BK_W.out) hb); have n11_ := Aside0.mk (blk_below (g := gb_X) (o := .cells #[.slice Ao_XW x_0.length co_XW, .slice Ao_XM x_1.length co_XM, .slice Ao_XS x_2.length co_XS, .int .i64 x_3] 43 (0, 0)) (by (with_reducible repeat (first | refine blk_drewN ?_ _ | refine blk_drew ?_ | refine blk_alloc ?_ _ )); refine blk_far ?_ NB_X_H.out _; (with_reducible repeat (first | refine blk_drewN ?_ _ | refine blk_drew ?_ | refine blk_alloc ?_ _ )); refine blk_far ?_ NB_X_H.out _; (with_reducible repeat (first | refine blk_drewN ?_ _ | refine blk_drew ?_ | refine blk_alloc ?_ _ )); refine blk_far ?_ NB_X_H.out _; (with_reducible repeat (first | refine blk_drewN ?_ _ | refine blk_drew ?_ | refine blk_alloc ?_ _ )); refine blk_far ?_ NB_X_H.out _; (with_reducible repeat (first | refine blk_drewN ?_ _ | refine blk_drew ?_ | refine blk_alloc ?_ _ )); exact BK_X.out) hb); have n12_ := Aside0.mk (blk_below (g := gb_G) (o := .cells #[.slice Ao_GW g_0.length co_GW, .slice Ao_GM g_1.length co_GM, .slice Ao_GS g_2.length co_GS, .int .i64 g_3] 43 (0, 0)) (by (with_reducible repeat (first | refine blk_drewN ?_ _ | refine blk_drew ?_ | refine blk_alloc ?_ _ )); refine blk_far ?_ NB_G_H.out _; (with_reducible repeat (first | refine blk_drewN ?_ _ | refine blk_drew ?_ | refine blk_alloc ?_ _ )); refine blk_far ?_ NB_G_H.out _; (with_reducible repeat (first | refine blk_drewN ?_ _ | refine blk_drew ?_ | refine blk_alloc ?_ _ )); refine blk_far ?_ NB_G_H.out _; (with_reducible repeat (first | refine blk_drewN ?_ _ | refine blk_drew ?_ | refine blk_alloc ?_ _ )); refine blk_far ?_ NB_G_H.out _; (with_reducible repeat (first | refine blk_drewN ?_ _ | refine blk_drew ?_ | refine blk_alloc ?_ _ )); exact BK_G.out) hb); have n13_ := Aside0.mk (blk_below (g := gb_H) (o := .cells #[.slice Ao_HW h_0.length co_HW, .slice Ao_HM h_1.length co_HM, .slice Ao_HS h_2.length co_HS, .int .i64 h_3] 43 (0, 0)) (by (with_reducible repeat (first | refine blk_drewN ?_ _ | refine blk_drew ?_ | refine blk_alloc ?_ _ )); refine blk_put (cs := #[.slice Ao_HW h_0.length co_HW, .slice Ao_HM h_1.length co_HM, .slice Ao_HS h_2.length co_HS, .int .i64 0]) ?_ 3 _ rfl; (with_reducible repeat (first | refine blk_drewN ?_ _ | refine blk_drew ?_ | refine blk_alloc ?_ _ )); refine blk_put (cs := #[.slice Ao_HW h_0.length co_HW, .slice Ao_HM h_1.length co_HM, .slice none 0 0, .int .i64 0]) ?_ 2 _ rfl; (with_reducible repeat (first | refine blk_drewN ?_ _ | refine blk_drew ?_ | refine blk_alloc ?_ _ )); refine blk_put (cs := #[.slice Ao_HW h_0.length co_HW, .slice none 0 0, .slice none 0 0, .int .i64 0]) ?_ 1 _ rfl; (with_reducible repeat (first | refine blk_drewN ?_ _ | refine blk_drew ?_ | refine blk_alloc ?_ _ )); refine blk_put (cs := #[.slice none 0 0, .slice none 0 0, .slice none 0 0, .int .i64 0]) ?_ 0 _ rfl; (with_reducible repeat (first | refine blk_drewN ?_ _ | refine blk_drew ?_ | refine blk_alloc ?_ _ )); exact BK_H.out) hb); have n14_ := Aside0.mk (below_step (by repeat ((with_reducible first | exact HB.out | refine below_set ?_ GE_H.out))) hb); have n15_ := Aside0.mk (below_step (by repeat ((with_reducible first | exact HG.out | refine below_set ?_ GG_H.out))) hb); (try clear HO_WW); (try clear HO_WM); (try clear HO_WS); (try clear HO_GW); (try clear HO_GM); (try clear HO_GS); (try clear HO_HW); (try clear HO_HM); (try clear HO_HS); (try clear BK_aS); (try clear BK_W); (try clear BK_X); (try clear BK_G); (try clear BK_H); (try clear HB); (try clear HG); have HO_WW := n0_; have HO_WM := n1_; have HO_WS := n2_; have HO_GW := n3_; have HO_GM := n4_; have HO_GS := n5_; have HO_HW := n6_; have HO_HM := n7_; have HO_HS := n8_; have BK_aS := n9_; have BK_W := n10_; have BK_X := n11_; have BK_G := n12_; have BK_H := n13_; have HB := n14_; have HG := n15_; clear n0_ n1_ n2_ n3_ n4_ n5_ n6_ n7_ n8_ n9_ n10_ n11_ n12_ n13_ n14_ n15_; (try clear hb); have hcz17_0 : w68.cell? ⟨gb_G, 0, none⟩ = some (.slice Ao_GW g_0.length co_GW) := (blk_cell BK_G.out 0).trans rfl; have hfz17_0 := blk_frozen BK_G.out 0; have hcz17_1 : w68.cell? ⟨gb_G, 1, none⟩ = some (.slice Ao_GM g_1.length co_GM) := (blk_cell BK_G.out 1).trans rfl; have hfz17_1 := blk_frozen BK_G.out 1; have hcz17_2 : w68.cell? ⟨gb_G, 2, none⟩ = some (.slice Ao_GS g_2.length co_GS) := (blk_cell BK_G.out 2).trans rfl; have hfz17_2 := blk_frozen BK_G.out 2; have hcz17_3 : w68.cell? ⟨gb_G, 3, none⟩ = some (.int .i64 g_3) := (blk_cell BK_G.out 3).trans rfl; have hfz17_3 := blk_frozen BK_G.out 3) | ((with_reducible refine gate_callee (f := 36) rfl ?_); refine goesL_ (some 71) rfl rfl Try.func36 (by kernel_rfl) rfl #[.agg #[.slice Ao_GW g_0.length co_GW, .slice Ao_GM g_1.length co_GM, .slice Ao_GS g_2.length co_GS, .int .i64 g_3], .int .i64 1] rfl (by (try simp only [List.map_toArray, List.map_cons, List.map_nil]); rfl) ?_; (with_reducible refine (laws_markPolicy.held k _ _ _ _ _ _ g_0.length g_1.length g_2.length gW gM gS g_3 1 q2 _ hlW_.out hlM_.out hlS_.out ?side1 ?side2 ?side3 ?side4 ?side5 ?side6 A22.out).mono ?_); (case side1 => repeat (exact (Kd.R_reads' HO_GW.out).2.2)); (case side2 => exact (Kd.R_reads' HO_GW.out).2.1); (case side3 => repeat (exact (Kd.R_reads' HO_GM.out).2.2)); (case side4 => exact (Kd.R_reads' HO_GM.out).2.1); (case side5 => repeat (exact (Kd.S_reads' HO_GS.out).2.2)); (case side6 => exact (Kd.S_reads' HO_GS.out).2.1); rintro e w69 ⟨rfl, hb⟩; refine ⟨_, rfl, ?_⟩; have n0_ := Aside0.mk (Kd.R_below (by (with_reducible repeat (first | apply Kd.R_alloc | apply Kd.R_drewN | apply Kd.R_drew )); exact HO_WW.out) hb); have n1_ := Aside0.mk (Kd.R_below (by (with_reducible repeat (first | apply Kd.R_alloc | apply Kd.R_drewN | apply Kd.R_drew )); exact HO_WM.out) hb); have n2_ := Aside0.mk (Kd.S_below (by (with_reducible repeat (first | apply Kd.S_alloc | apply Kd.S_drewN | apply Kd.S_drew )); exact HO_WS.out) hb); have n3_ := Aside0.mk (Kd.R_below (by (with_reducible repeat (first | apply Kd.R_alloc | apply Kd.R_drewN | apply Kd.R_drew )); exact HO_GW.out) hb); have n4_ := Aside0.mk (Kd.R_below (by (with_reducible repeat (first | apply Kd.R_alloc | apply Kd.R_drewN | apply Kd.R_drew )); exact HO_GM.out) hb); have n5_ := Aside0.mk (Kd.S_below (by (with_reducible repeat (first | apply Kd.S_alloc | apply Kd.S_drewN | apply Kd.S_drew )); exact HO_GS.out) hb); have n6_ := Aside0.mk (Kd.R_below (by (with_reducible repeat (first | apply Kd.R_alloc | apply Kd.R_drewN | apply Kd.R_drew )); exact HO_HW.out) hb); have n7_ := Aside0.mk (Kd.R_below (by (with_reducible repeat (first | apply Kd.R_alloc | apply Kd.R_drewN | apply Kd.R_drew )); exact HO_HM.out) hb); have n8_ := Aside0.mk (Kd.S_below (by (with_reducible repeat (first | apply Kd.S_alloc | apply Kd.S_drewN | apply Kd.S_drew )); exact HO_HS.out) hb); have n9_ := Aside0.mk (blk_below (g := gb_aS) (o := .cells #[.slice A0_0 l0_0.length c0_0, .slice A0_1 l0_1.length c0_1, .slice A0_2 l0_2.length c0_2, .int .i64 a0_3] 49 (0, 0)) (by (with_reducible repeat (first | refine blk_drewN ?_ _ | refine blk_drew ?_ | refine blk_alloc ?_ _ )); exact BK_aS.out) hb); have n10_ := Aside0.mk (blk_below (g := gb_W) (o := .cells #[.slice Ao_WW w_0.length co_WW, .slice Ao_WM w_1.length co_WM, .slice Ao_WS w_2.length co_WS, .int .i64 w_3] 43 (0, 0)) (by (with_reducible repeat (first | refine blk_drewN ?_ _ | refine blk_drew ?_ | refine blk_alloc ?_ _ )); exact BK_W.out) hb); have n11_ := Aside0.mk (blk_below (g := gb_X) (o := .cells #[.slice Ao_XW x_0.length co_XW, .slice Ao_XM x_1.length co_XM, .slice Ao_XS x_2.length co_XS, .int .i64 x_3] 43 (0, 0)) (by (with_reducible repeat (first | refine blk_drewN ?_ _ | refine blk_drew ?_ | refine blk_alloc ?_ _ )); exact BK_X.out) hb); have n12_ := Aside0.mk (blk_below (g := gb_G) (o := .cells #[.slice Ao_GW g_0.length co_GW, .slice Ao_GM g_1.length co_GM, .slice Ao_GS g_2.length co_GS, .int .i64 g_3] 43 (0, 0)) (by (with_reducible repeat (first | refine blk_drewN ?_ _ | refine blk_drew ?_ | refine blk_alloc ?_ _ )); exact BK_G.out) hb); have n13_ := Aside0.mk (blk_below (g := gb_H) (o := .cells #[.slice Ao_HW h_0.length co_HW, .slice Ao_HM h_1.length co_HM, .slice Ao_HS h_2.length co_HS, .int .i64 h_3] 43 (0, 0)) (by (with_reducible repeat (first | refine blk_drewN ?_ _ | refine blk_drew ?_ | refine blk_alloc ?_ _ )); exact BK_H.out) hb); have n14_ := Aside0.mk (below_step (by repeat ((with_reducible exact HB.out))) hb); have n15_ := Aside0.mk (below_step (by repeat ((with_reducible exact HG.out))) hb); (try clear HO_WW); (try clear HO_WM); (try clear HO_WS); (try clear HO_GW); (try clear HO_GM); (try clear HO_GS); (try clear HO_HW); (try clear HO_HM); (try clear HO_HS); (try clear BK_aS); (try clear BK_W); (try clear BK_X); (try clear BK_G); (try clear BK_H); (try clear HB); (try clear HG); have HO_WW := n0_; have HO_WM := n1_; have HO_WS := n2_; have HO_GW := n3_; have HO_GM := n4_; have HO_GS := n5_; have HO_HW := n6_; have HO_HM := n7_; have HO_HS := n8_; have BK_aS := n9_; have BK_W := n10_; have BK_X := n11_; have BK_G := n12_; have BK_H := n13_; have HB := n14_; have HG := n15_; clear n0_ n1_ n2_ n3_ n4_ n5_ n6_ n7_ n8_ n9_ n10_ n11_ n12_ n13_ n14_ n15_; (try clear hb)))
      go_ret
      exact ⟨rfl, (by repeat ((with_reducible exact HB.out)))⟩
end Go.Proofs.Ytoopdknphikgkaa.Q
