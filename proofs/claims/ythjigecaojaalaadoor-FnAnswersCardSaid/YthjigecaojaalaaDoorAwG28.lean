import Derived.Test.YthjigecaojaalaaDoorAwB0
import Derived.Test.YthjigecaojaalaaDoorAwG14
import Derived.Test.YthjigecaojaalaaDoorAwG17
import Derived.Test.YthjigecaojaalaaDoorAwG22
import Derived.Test.YthjigecaojaalaaDoorAwG43
import Derived.Test.YthjigecaojaalaaDoorAwG55
import Derived.Test.YthjigecaojaalaaDoorAwG82
import Derived.Test.YthjigecaojaalaaDoorAwWords
namespace Go.Proofs.YthjigecaojaalaaDoor.Q
open Go.RowKit Go.Proofs.YthjigecaojaalaaDoorW.PrintWords Go.Proofs.YthjigecaojaalaaDoorW.PrintLast Go.Proofs.YthjigecaojaalaaDoorW.PrintMore
attribute [local go_sem] max2_int min2_int max_two min_two max_three min_three max_four min_four   -- for this text's walks alone
set_option linter.unusedVariables false
set_option linter.unusedSimpArgs false
def spec_AnswerText.f (k : Nat) (a0_0 : ByteArray) (l0_1 : List (S41)) (a1 : ByteArray) : Option (ByteArray × Bool) := (spec_FieldOf.f k a0_0 l0_1 (⟨#[99, 111, 110, 116, 101, 110, 116, 45, 108, 101, 110, 103, 116, 104]⟩ : ByteArray)).bind fun bt630 => ((spec_FieldOf.f k a0_0 l0_1 (⟨#[116, 114, 97, 110, 115, 102, 101, 114, 45, 101, 110, 99, 111, 100, 105, 110, 103]⟩ : ByteArray)).bind fun bt632 => ((some (([] : List (S41)) : List (S41))).bind fun y634 => (if y634.length + l0_1.length < 4398046511104 then ((some (y634 ++ l0_1 : List (S41))).bind fun y637 => ((spec_Decimal.f k (a1.size : Int)).bind fun t640 => ((some (([(⟨(⟨#[99, 111, 110, 116, 101, 110, 116, 45, 108, 101, 110, 103, 116, 104]⟩ : ByteArray), t640⟩ : S41)] : List (S41)) : List (S41))).bind fun y641 => (if y637.length + y641.length < 4398046511104 then ((some (y637 ++ y641 : List (S41))).bind fun y644 => (if bt630.2 = true then (some ((⟨#[]⟩ : ByteArray), false)) else (if bt632.2 = true then (some ((⟨#[]⟩ : ByteArray), false)) else (if (a1.size : Int) > 400 then (some ((⟨#[]⟩ : ByteArray), false)) else ((spec_HeadOk.f k a0_0 y644).bind fun t648 => (if t648 = true then ((spec_l09Text.f k a0_0 y644).bind fun t649 => (if t649.size + a1.size ≤ 9223372036854775807 then (some (t649 ++ a1, true)) else (none))) else (some ((⟨#[]⟩ : ByteArray), false)))))))) else (none))))) else (none))))
def spec_AnswerText.T3 : Bool × List (List Nat × List Nat) := (true, [([], []), ([0], [0]), ([], []), ([], []), ([3], [3]), ([2, 4], [2, 4]), ([], []), ([6], [6]), ([7, 5], [7]), ([8], [8]), ([9], [9]), ([5, 10, 8], [5, 10]), ([1, 11], [1, 11]), ([], []), ([13, 12, 11, 0, 1, 2, 3, 4, 5, 6, 7, 8, 9, 10, 11, 12, 13], [12, 13])])
def spec_AnswerText.B3 : List Nat := [0, 1, 0, 0, 8, 28, 0, 64, 252, 508, 1020, 2044, 4095, 0, 16383]
theorem spec_AnswerText.tab3 : rtab .any (opsOf Tryd.f28 3) = spec_AnswerText.T3 := by kernel_rfl
theorem spec_AnswerText.bits3 : waitsOk spec_AnswerText.T3.2 spec_AnswerText.B3 = true := by kernel_rfl
set_option maxHeartbeats 8000000 in
set_option maxRecDepth 100000 in
theorem spec_AnswerText.calls (k : Nat) (a0_0 : ByteArray) (A0_1 : Option Addr) (c0_1 : Nat) (l0_1 : List (S41)) (a1 : ByteArray) (r1 : ByteArray) (r2 : Bool) (w : World) (hr0_1 : Kd.C k41 w A0_1 l0_1.length l0_1) (hc0_1 : l0_1.length ≤ c0_1) (h : spec_AnswerText.f k a0_0 l0_1 a1 = some (r1, r2)) :
    Calls Tryd.prog 28 #[.agg #[.string a0_0, .slice A0_1 l0_1.length c0_1], .string a1] w fun e w' => e = .returned (.tuple #[.string r1, .bool r2]) ∧ Below w.heap.size w w' := by
  have hu44 := Tryd.underlying44
  have hu41 := Tryd.underlying41
  have HR0_1 := Aside0.mk hr0_1
  have HC0_1 := Aside0.mk hc0_1
  clear hr0_1 hc0_1
  have HB := Aside0.mk (Below.refl w.heap.size w)
  have H : ((spec_FieldOf.f k a0_0 l0_1 (⟨#[99, 111, 110, 116, 101, 110, 116, 45, 108, 101, 110, 103, 116, 104]⟩ : ByteArray)).bind fun bt630 => ((spec_FieldOf.f k a0_0 l0_1 (⟨#[116, 114, 97, 110, 115, 102, 101, 114, 45, 101, 110, 99, 111, 100, 105, 110, 103]⟩ : ByteArray)).bind fun bt632 => ((some (([] : List (S41)) : List (S41))).bind fun y634 => (if y634.length + l0_1.length < 4398046511104 then ((some (y634 ++ l0_1 : List (S41))).bind fun y637 => ((spec_Decimal.f k (a1.size : Int)).bind fun t640 => ((some (([(⟨(⟨#[99, 111, 110, 116, 101, 110, 116, 45, 108, 101, 110, 103, 116, 104]⟩ : ByteArray), t640⟩ : S41)] : List (S41)) : List (S41))).bind fun y641 => (if y637.length + y641.length < 4398046511104 then ((some (y637 ++ y641 : List (S41))).bind fun y644 => (if bt630.2 = true then (some ((⟨#[]⟩ : ByteArray), false)) else (if bt632.2 = true then (some ((⟨#[]⟩ : ByteArray), false)) else (if (a1.size : Int) > 400 then (some ((⟨#[]⟩ : ByteArray), false)) else ((spec_HeadOk.f k a0_0 y644).bind fun t648 => (if t648 = true then ((spec_l09Text.f k a0_0 y644).bind fun t649 => (if t649.size + a1.size ≤ 9223372036854775807 then (some (t649 ++ a1, true)) else (none))) else (some ((⟨#[]⟩ : ByteArray), false)))))))) else (none))))) else (none))))) = some (r1, r2) := h
  clear h
  replace H := Option.bind_eq_some_iff.mp H
  obtain ⟨⟨t630, t631⟩, A30, H⟩ := H
  replace H : ((spec_FieldOf.f k a0_0 l0_1 (⟨#[116, 114, 97, 110, 115, 102, 101, 114, 45, 101, 110, 99, 111, 100, 105, 110, 103]⟩ : ByteArray)).bind fun bt632 => ((some (([] : List (S41)) : List (S41))).bind fun y634 => (if y634.length + l0_1.length < 4398046511104 then ((some (y634 ++ l0_1 : List (S41))).bind fun y637 => ((spec_Decimal.f k (a1.size : Int)).bind fun t640 => ((some (([(⟨(⟨#[99, 111, 110, 116, 101, 110, 116, 45, 108, 101, 110, 103, 116, 104]⟩ : ByteArray), t640⟩ : S41)] : List (S41)) : List (S41))).bind fun y641 => (if y637.length + y641.length < 4398046511104 then ((some (y637 ++ y641 : List (S41))).bind fun y644 => (if t631 = true then (some ((⟨#[]⟩ : ByteArray), false)) else (if bt632.2 = true then (some ((⟨#[]⟩ : ByteArray), false)) else (if (a1.size : Int) > 400 then (some ((⟨#[]⟩ : ByteArray), false)) else ((spec_HeadOk.f k a0_0 y644).bind fun t648 => (if t648 = true then ((spec_l09Text.f k a0_0 y644).bind fun t649 => (if t649.size + a1.size ≤ 9223372036854775807 then (some (t649 ++ a1, true)) else (none))) else (some ((⟨#[]⟩ : ByteArray), false)))))))) else (none))))) else (none)))) = some (r1, r2) := H
  have A3 := Aside0.mk A30
  clear A30
  replace H := Option.bind_eq_some_iff.mp H
  obtain ⟨⟨t632, t633⟩, A40, H⟩ := H
  replace H : ((some (([] : List (S41)) : List (S41))).bind fun y634 => (if y634.length + l0_1.length < 4398046511104 then ((some (y634 ++ l0_1 : List (S41))).bind fun y637 => ((spec_Decimal.f k (a1.size : Int)).bind fun t640 => ((some (([(⟨(⟨#[99, 111, 110, 116, 101, 110, 116, 45, 108, 101, 110, 103, 116, 104]⟩ : ByteArray), t640⟩ : S41)] : List (S41)) : List (S41))).bind fun y641 => (if y637.length + y641.length < 4398046511104 then ((some (y637 ++ y641 : List (S41))).bind fun y644 => (if t631 = true then (some ((⟨#[]⟩ : ByteArray), false)) else (if t633 = true then (some ((⟨#[]⟩ : ByteArray), false)) else (if (a1.size : Int) > 400 then (some ((⟨#[]⟩ : ByteArray), false)) else ((spec_HeadOk.f k a0_0 y644).bind fun t648 => (if t648 = true then ((spec_l09Text.f k a0_0 y644).bind fun t649 => (if t649.size + a1.size ≤ 9223372036854775807 then (some (t649 ++ a1, true)) else (none))) else (some ((⟨#[]⟩ : ByteArray), false)))))))) else (none))))) else (none))) = some (r1, r2) := H
  have A4 := Aside0.mk A40
  clear A40
  obtain ⟨y634, hy634⟩ : ∃ y_ : List (S41), y_ = (([] : List (S41))) := ⟨_, rfl⟩
  replace H : (if y634.length + l0_1.length < 4398046511104 then ((some (y634 ++ l0_1 : List (S41))).bind fun y637 => ((spec_Decimal.f k (a1.size : Int)).bind fun t640 => ((some (([(⟨(⟨#[99, 111, 110, 116, 101, 110, 116, 45, 108, 101, 110, 103, 116, 104]⟩ : ByteArray), t640⟩ : S41)] : List (S41)) : List (S41))).bind fun y641 => (if y637.length + y641.length < 4398046511104 then ((some (y637 ++ y641 : List (S41))).bind fun y644 => (if t631 = true then (some ((⟨#[]⟩ : ByteArray), false)) else (if t633 = true then (some ((⟨#[]⟩ : ByteArray), false)) else (if (a1.size : Int) > 400 then (some ((⟨#[]⟩ : ByteArray), false)) else ((spec_HeadOk.f k a0_0 y644).bind fun t648 => (if t648 = true then ((spec_l09Text.f k a0_0 y644).bind fun t649 => (if t649.size + a1.size ≤ 9223372036854775807 then (some (t649 ++ a1, true)) else (none))) else (some ((⟨#[]⟩ : ByteArray), false)))))))) else (none))))) else (none)) = some (r1, r2) := by (have H2_ := (Option.bind_some _ _).symm.trans H; rw [hy634]; with_reducible exact H2_)
  have Ny634 := Aside0.mk hy634
  clear hy634
  by_cases c5 : y634.length + l0_1.length < 4398046511104
  · rw [if_pos c5] at H
    have LMc5 := Aside0.mk c5
    clear c5
    obtain ⟨y637, hy637⟩ : ∃ y_ : List (S41), y_ = (y634 ++ l0_1) := ⟨_, rfl⟩
    replace H : ((spec_Decimal.f k (a1.size : Int)).bind fun t640 => ((some (([(⟨(⟨#[99, 111, 110, 116, 101, 110, 116, 45, 108, 101, 110, 103, 116, 104]⟩ : ByteArray), t640⟩ : S41)] : List (S41)) : List (S41))).bind fun y641 => (if y637.length + y641.length < 4398046511104 then ((some (y637 ++ y641 : List (S41))).bind fun y644 => (if t631 = true then (some ((⟨#[]⟩ : ByteArray), false)) else (if t633 = true then (some ((⟨#[]⟩ : ByteArray), false)) else (if (a1.size : Int) > 400 then (some ((⟨#[]⟩ : ByteArray), false)) else ((spec_HeadOk.f k a0_0 y644).bind fun t648 => (if t648 = true then ((spec_l09Text.f k a0_0 y644).bind fun t649 => (if t649.size + a1.size ≤ 9223372036854775807 then (some (t649 ++ a1, true)) else (none))) else (some ((⟨#[]⟩ : ByteArray), false)))))))) else (none)))) = some (r1, r2) := by (have H2_ := (Option.bind_some _ _).symm.trans H; rw [hy637]; with_reducible exact H2_)
    have Ny637 := Aside0.mk hy637
    clear hy637
    replace H := Option.bind_eq_some_iff.mp H
    obtain ⟨t640, A60, H⟩ := H
    replace H : ((some (([(⟨(⟨#[99, 111, 110, 116, 101, 110, 116, 45, 108, 101, 110, 103, 116, 104]⟩ : ByteArray), t640⟩ : S41)] : List (S41)) : List (S41))).bind fun y641 => (if y637.length + y641.length < 4398046511104 then ((some (y637 ++ y641 : List (S41))).bind fun y644 => (if t631 = true then (some ((⟨#[]⟩ : ByteArray), false)) else (if t633 = true then (some ((⟨#[]⟩ : ByteArray), false)) else (if (a1.size : Int) > 400 then (some ((⟨#[]⟩ : ByteArray), false)) else ((spec_HeadOk.f k a0_0 y644).bind fun t648 => (if t648 = true then ((spec_l09Text.f k a0_0 y644).bind fun t649 => (if t649.size + a1.size ≤ 9223372036854775807 then (some (t649 ++ a1, true)) else (none))) else (some ((⟨#[]⟩ : ByteArray), false)))))))) else (none))) = some (r1, r2) := H
    have A6 := Aside0.mk A60
    clear A60
    obtain ⟨y641, hy641⟩ : ∃ y_ : List (S41), y_ = (([(⟨(⟨#[99, 111, 110, 116, 101, 110, 116, 45, 108, 101, 110, 103, 116, 104]⟩ : ByteArray), t640⟩ : S41)] : List (S41))) := ⟨_, rfl⟩
    replace H : (if y637.length + y641.length < 4398046511104 then ((some (y637 ++ y641 : List (S41))).bind fun y644 => (if t631 = true then (some ((⟨#[]⟩ : ByteArray), false)) else (if t633 = true then (some ((⟨#[]⟩ : ByteArray), false)) else (if (a1.size : Int) > 400 then (some ((⟨#[]⟩ : ByteArray), false)) else ((spec_HeadOk.f k a0_0 y644).bind fun t648 => (if t648 = true then ((spec_l09Text.f k a0_0 y644).bind fun t649 => (if t649.size + a1.size ≤ 9223372036854775807 then (some (t649 ++ a1, true)) else (none))) else (some ((⟨#[]⟩ : ByteArray), false)))))))) else (none)) = some (r1, r2) := by (have H2_ := (Option.bind_some _ _).symm.trans H; rw [hy641]; with_reducible exact H2_)
    have Ny641 := Aside0.mk hy641
    clear hy641
    by_cases c7 : y637.length + y641.length < 4398046511104
    · rw [if_pos c7] at H
      have LMc7 := Aside0.mk c7
      clear c7
      obtain ⟨y644, hy644⟩ : ∃ y_ : List (S41), y_ = (y637 ++ y641) := ⟨_, rfl⟩
      replace H : (if t631 = true then (some ((⟨#[]⟩ : ByteArray), false)) else (if t633 = true then (some ((⟨#[]⟩ : ByteArray), false)) else (if (a1.size : Int) > 400 then (some ((⟨#[]⟩ : ByteArray), false)) else ((spec_HeadOk.f k a0_0 y644).bind fun t648 => (if t648 = true then ((spec_l09Text.f k a0_0 y644).bind fun t649 => (if t649.size + a1.size ≤ 9223372036854775807 then (some (t649 ++ a1, true)) else (none))) else (some ((⟨#[]⟩ : ByteArray), false))))))) = some (r1, r2) := by (have H2_ := (Option.bind_some _ _).symm.trans H; rw [hy644]; with_reducible exact H2_)
      have Ny644 := Aside0.mk hy644
      clear hy644
      have HS8 := Aside0.mk H
      clear H
      go_enter Tryd.func28, Tryd.ntmps28
      go_wp2_with (first | ((with_reducible refine gate_dst (N := 2) rfl ?_); (try (refine gate_guard (by rfl) ?_; dsimp only)); refine box_event ?hg (N := 2) ?hd (cs := #[.string a0_0, .slice A0_1 l0_1.length c0_1]) (t := 44) ?hr ?_; (case hd => rfl); (case hg => rfl); (case hr => (go_simp; done)); intro gb629 hg w9 hbox hb; have n0_ := Aside0.mk (below_step (by repeat ((with_reducible exact HB.out))) hb); have n1_ := Aside0.mk (hbox); have n2_ := Aside0.mk ((by rw [hg]; exact (below_size (by repeat ((with_reducible exact HB.out)))) : w.heap.size ≤ gb629)); have n3_ := Aside0.mk ((by rw [hg]; exact (below_size (by repeat ((with_reducible exact HB.out)))) : w.heap.size ≤ gb629)); clear HB; have HB := n0_; have BK629 := n1_; have GW629 := n2_; have GE629 := n3_; clear n0_ n1_ n2_ n3_; clear hb hbox hg; have hcz10_0 : w9.cell? ⟨gb629, 0, none⟩ = some (.string a0_0) := (blk_cell BK629.out 0).trans rfl; have hcz10_1 : w9.cell? ⟨gb629, 1, none⟩ = some (.slice A0_1 l0_1.length c0_1) := (blk_cell BK629.out 1).trans rfl; have hfz10_0 := blk_frozen BK629.out 0; have hfz10_1 := blk_frozen BK629.out 1) | ((with_reducible refine gate_callee (f := 57) rfl ?_); refine goesL_ (some 13) rfl rfl Tryd.func57 (by kernel_rfl) rfl #[.agg #[.string a0_0, .slice A0_1 l0_1.length c0_1], .string (⟨#[99, 111, 110, 116, 101, 110, 116, 45, 108, 101, 110, 103, 116, 104]⟩ : ByteArray)] rfl (by (try simp only [List.map_toArray, List.map_cons, List.map_nil]); rfl) ?_; (with_reducible refine (spec_FieldOf.calls k a0_0 _ _ l0_1 (⟨#[99, 111, 110, 116, 101, 110, 116, 45, 108, 101, 110, 103, 116, 104]⟩ : ByteArray) t630 t631 _ ?side1 ?side2 A3.out).mono ?_); (case side1 => repeat (exact (Kd.C_below HR0_1.out HB.out))); (case side2 => exact HC0_1.out); rintro e w11 ⟨rfl, hb⟩; refine ⟨_, rfl, ?_⟩; have n0_ := Aside0.mk (blk_below (g := gb629) (o := .cells #[.string a0_0, .slice A0_1 l0_1.length c0_1] 44 (0, 0)) (by (with_reducible repeat (first | refine blk_drewN ?_ _ | refine blk_drew ?_ | refine blk_alloc ?_ _ )); exact BK629.out) hb); have n1_ := Aside0.mk (below_step (by repeat ((with_reducible exact HB.out))) hb); clear BK629; clear HB; have BK629 := n0_; have HB := n1_; clear n0_ n1_; (try clear hb); (try clear hb2); (try clear hk); (try clear hi); have hcz12_0 : w11.cell? ⟨gb629, 0, none⟩ = some (.string a0_0) := (blk_cell BK629.out 0).trans rfl; have hcz12_1 : w11.cell? ⟨gb629, 1, none⟩ = some (.slice A0_1 l0_1.length c0_1) := (blk_cell BK629.out 1).trans rfl; have hfz12_0 := blk_frozen BK629.out 0; have hfz12_1 := blk_frozen BK629.out 1) | ((with_reducible refine gate_callee (f := 57) rfl ?_); refine goesL_ (some 18) rfl rfl Tryd.func57 (by kernel_rfl) rfl #[.agg #[.string a0_0, .slice A0_1 l0_1.length c0_1], .string (⟨#[116, 114, 97, 110, 115, 102, 101, 114, 45, 101, 110, 99, 111, 100, 105, 110, 103]⟩ : ByteArray)] rfl (by (try simp only [List.map_toArray, List.map_cons, List.map_nil]); rfl) ?_; (with_reducible refine (spec_FieldOf.calls k a0_0 _ _ l0_1 (⟨#[116, 114, 97, 110, 115, 102, 101, 114, 45, 101, 110, 99, 111, 100, 105, 110, 103]⟩ : ByteArray) t632 t633 _ ?side1 ?side2 A4.out).mono ?_); (case side1 => repeat (exact (Kd.C_below HR0_1.out HB.out))); (case side2 => exact HC0_1.out); rintro e w13 ⟨rfl, hb⟩; refine ⟨_, rfl, ?_⟩; have n0_ := Aside0.mk (blk_below (g := gb629) (o := .cells #[.string a0_0, .slice A0_1 l0_1.length c0_1] 44 (0, 0)) (by (with_reducible repeat (first | refine blk_drewN ?_ _ | refine blk_drew ?_ | refine blk_alloc ?_ _ )); exact BK629.out) hb); have n1_ := Aside0.mk (below_step (by repeat ((with_reducible exact HB.out))) hb); clear BK629; clear HB; have BK629 := n0_; have HB := n1_; clear n0_ n1_; (try clear hb); (try clear hb2); (try clear hk); (try clear hi)))
      have n0_ := Aside0.mk (blk_drew BK629.out)
      have n1_ := Aside0.mk (below_drew1 HB.out)
      clear BK629
      clear HB
      have BK629 := n0_
      have HB := n1_
      clear n0_ n1_
      refine start_ (n := 15) (S := fun w' => w'.cell? ⟨gb629, 0, none⟩ = some (.string a0_0) ∧ w'.cell? ⟨gb629, 1, none⟩ = some (.slice A0_1 l0_1.length c0_1)) (ds := []) #[false, false, false, false, false, false, false, false, false, false, false, false, false, false, false] (by kernel_rfl) rfl rfl ⟨(blk_cell BK629.out 0).trans rfl, (blk_cell BK629.out 1).trans rfl⟩ (fun hHeld => ?_); refine with_tabW spec_AnswerText.tab3 spec_AnswerText.bits3 (fun HT_ HW_ => ?_)
      generalize w13.drew = w14 at BK629 HB hHeld ⊢
      refine pure_ (i := 0) (N := some 21) (v := ?_) (a' := ?_) #[true, false, false, false, false, false, false, false, false, false, false, false, false, false, false] rfl rfl (any_of HT_.out (by kernel_rfl)) (fun _ _ _ h => h) (Or.inl ⟨by rfl, ?_⟩) ?_ ?_
      rotate_left
      · intro w'
        go_simp
        with_reducible rfl
      rotate_left
      · simp only [Act.put, List.setIfInBounds_toArray, List.set_cons_zero, List.set_cons_succ, i64_w, i32_w]
        rfl
      refine pure_ (i := 3) (N := some 24) (v := ?_) (a' := ?_) #[true, false, false, true, false, false, false, false, false, false, false, false, false, false, false] rfl rfl (any_of HT_.out (by kernel_rfl)) (fun _ _ _ h => h) (Or.inl ⟨by rfl, ?_⟩) ?_ ?_
      rotate_left
      · intro w'
        go_simp
        with_reducible rfl
      rotate_left
      · simp only [Act.put, List.setIfInBounds_toArray, List.set_cons_zero, List.set_cons_succ, i64_w, i32_w]
        rfl
      refine pure_ (i := 6) (N := some 27) (v := ?_) (a' := ?_) #[true, false, false, true, false, false, true, false, false, false, false, false, false, false, false] rfl rfl (any_of HT_.out (by kernel_rfl)) (fun _ _ _ h => h) (Or.inl ⟨by rfl, ?_⟩) ?_ ?_
      rotate_left
      · intro w'
        go_simp
        with_reducible rfl
      rotate_left
      · simp only [Act.put, List.setIfInBounds_toArray, List.set_cons_zero, List.set_cons_succ, i64_w, i32_w]
        rfl
      refine pure_ (i := 7) (N := some 28) (v := ?_) (a' := ?_) #[true, false, false, true, false, false, true, true, false, false, false, false, false, false, false] rfl rfl (any_of HT_.out (by kernel_rfl)) (fun _ _ _ h => h) (Or.inl ⟨by rfl, ?_⟩) ?_ ?_
      rotate_left
      · intro w'
        go_simp
        with_reducible rfl
      rotate_left
      · simp only [Act.put, List.setIfInBounds_toArray, List.set_cons_zero, List.set_cons_succ, i64_w, i32_w]
        rfl
      refine take_ (i := 1) (N := some 22) (v := ?_) (a' := ?_) #[true, true, false, true, false, false, true, true, false, false, false, false, false, false, false] rfl rfl (take_ofW HT_.out HW_.out (by kernel_rfl)) (fun _ _ _ h => h) (Or.inl ⟨by rfl, ?_⟩) hHeld ?_ ?_
      rotate_left
      · rintro w' ⟨s0, s1⟩
        go_simp
        with_reducible rfl
      rotate_left
      · simp only [Act.put, List.setIfInBounds_toArray, List.set_cons_zero, List.set_cons_succ, i64_w, i32_w]
        rfl
      refine take_ (i := 4) (N := some 25) (v := ?_) (a' := ?_) #[true, true, false, true, true, false, true, true, false, false, false, false, false, false, false] rfl rfl (take_ofW HT_.out HW_.out (by kernel_rfl)) (fun _ _ _ h => h) (Or.inl ⟨by rfl, ?_⟩) hHeld ?_ ?_
      rotate_left
      · rintro w' ⟨s0, s1⟩
        go_simp
        with_reducible rfl
      rotate_left
      · simp only [Act.put, List.setIfInBounds_toArray, List.set_cons_zero, List.set_cons_succ, i64_w, i32_w]
        rfl
      refine join_ (σ := Value × Value × Value × Value × Nat) 1 #[true, true, true, true, true, true, true, true, true, true, true, true, true, true, false] (fun s_ => [(23, s_.1), (26, s_.2.1), (29, .string t640), (31, s_.2.2.1), (32, s_.2.2.2.1), (10, .pointer (some ⟨s_.2.2.2.2, 0, none⟩)), (30, .agg #[.string (⟨#[99, 111, 110, 116, 101, 110, 116, 45, 108, 101, 110, 103, 116, 104]⟩ : ByteArray), .string t640]), (33, .agg #[.string a0_0, s_.2.2.2.1])]) (fun s_ w' => (w'.cell? ⟨gb629, 0, none⟩ = some (.string a0_0) ∧ w'.cell? ⟨gb629, 1, none⟩ = some (.slice A0_1 l0_1.length c0_1)) ∧ (Kd.R k41 41 w' w.heap.size (fun k_ => some k_ ≠ (s_.2.2.2.1 : Value).ownBlock) s_.2.2.1 y641) ∧ (Kd.R k41 41 w' w.heap.size (fun k_ => some k_ ≠ (s_.2.2.1 : Value).ownBlock) s_.2.2.2.1 y644) ∧ (w'.heap[gb629]? = some (.cells #[.string a0_0, .slice A0_1 l0_1.length c0_1] 44 (0, 0))) ∧ (w'.heap[s_.2.2.2.2]? = some (.cells #[.string (⟨#[]⟩ : ByteArray), .slice none 0 0] 44 (0, 0))) ∧ (w.heap.size ≤ s_.2.2.2.2) ∧ (w.heap.size ≤ s_.2.2.2.2) ∧ (gb629 ≠ s_.2.2.2.2) ∧ (s_.2.2.2.2 ≠ gb629) ∧ (Below w.heap.size w w')) ?_ ?_
      rotate_left
      · intro hJ2_5_8_10_11_13
        refine join_ (σ := Value × Value × Value × Value) 2 #[true, true, true, true, true, true, true, true, true, true, true, true, true, false, false] (fun s_ => [(23, s_.1), (26, s_.2.1), (29, .string t640), (31, s_.2.2.1), (32, s_.2.2.2), (30, .agg #[.string (⟨#[99, 111, 110, 116, 101, 110, 116, 45, 108, 101, 110, 103, 116, 104]⟩ : ByteArray), .string t640]), (33, .agg #[.string a0_0, s_.2.2.2])]) (fun s_ w' => (w'.cell? ⟨gb629, 0, none⟩ = some (.string a0_0) ∧ w'.cell? ⟨gb629, 1, none⟩ = some (.slice A0_1 l0_1.length c0_1)) ∧ (Kd.R k41 41 w' w.heap.size (fun k_ => some k_ ≠ (s_.2.2.2 : Value).ownBlock) s_.2.2.1 y641) ∧ (Kd.R k41 41 w' w.heap.size (fun k_ => some k_ ≠ (s_.2.2.1 : Value).ownBlock) s_.2.2.2 y644) ∧ (w'.heap[gb629]? = some (.cells #[.string a0_0, .slice A0_1 l0_1.length c0_1] 44 (0, 0))) ∧ (Below w.heap.size w w')) ?_ ?_
        rotate_left
        · intro hJ2_5_8_10_11
          refine join_ (σ := Value × Value × Value × Nat) 3 #[true, true, true, true, true, true, true, true, true, true, true, false, false, true, false] (fun s_ => [(23, s_.1), (26, s_.2.1), (29, .string t640), (31, s_.2.2.1), (10, .pointer (some ⟨s_.2.2.2, 0, none⟩)), (30, .agg #[.string (⟨#[99, 111, 110, 116, 101, 110, 116, 45, 108, 101, 110, 103, 116, 104]⟩ : ByteArray), .string t640])]) (fun s_ w' => (w'.cell? ⟨gb629, 0, none⟩ = some (.string a0_0) ∧ w'.cell? ⟨gb629, 1, none⟩ = some (.slice A0_1 l0_1.length c0_1)) ∧ (Kd.R k41 41 w' w.heap.size (fun k_ => some k_ ≠ (s_.2.2.1 : Value).ownBlock) s_.2.1 y637) ∧ (Kd.R k41 41 w' w.heap.size (fun k_ => some k_ ≠ (s_.2.1 : Value).ownBlock) s_.2.2.1 y641) ∧ (w'.heap[gb629]? = some (.cells #[.string a0_0, .slice A0_1 l0_1.length c0_1] 44 (0, 0))) ∧ (w'.heap[s_.2.2.2]? = some (.cells #[.string (⟨#[]⟩ : ByteArray), .slice none 0 0] 44 (0, 0))) ∧ (w.heap.size ≤ s_.2.2.2) ∧ (w.heap.size ≤ s_.2.2.2) ∧ (gb629 ≠ s_.2.2.2) ∧ (s_.2.2.2 ≠ gb629) ∧ (Below w.heap.size w w')) ?_ ?_
          rotate_left
          · intro hJ2_5_8_10_13
            refine join_ (σ := Value × Value × Value) 4 #[true, true, true, true, true, true, true, true, true, true, true, false, false, false, false] (fun s_ => [(23, s_.1), (26, s_.2.1), (29, .string t640), (31, s_.2.2), (30, .agg #[.string (⟨#[99, 111, 110, 116, 101, 110, 116, 45, 108, 101, 110, 103, 116, 104]⟩ : ByteArray), .string t640])]) (fun s_ w' => (w'.cell? ⟨gb629, 0, none⟩ = some (.string a0_0) ∧ w'.cell? ⟨gb629, 1, none⟩ = some (.slice A0_1 l0_1.length c0_1)) ∧ (Kd.R k41 41 w' w.heap.size (fun k_ => some k_ ≠ (s_.2.2 : Value).ownBlock) s_.2.1 y637) ∧ (Kd.R k41 41 w' w.heap.size (fun k_ => some k_ ≠ (s_.2.1 : Value).ownBlock) s_.2.2 y641) ∧ (w'.heap[gb629]? = some (.cells #[.string a0_0, .slice A0_1 l0_1.length c0_1] 44 (0, 0))) ∧ (Below w.heap.size w w')) ?_ ?_
            rotate_left
            · intro hJ2_5_8_10
              refine join_ (σ := Value × Value × Nat) 4 #[true, true, true, true, true, true, true, true, true, true, false, false, false, true, false] (fun s_ => [(23, s_.1), (26, s_.2.1), (29, .string t640), (10, .pointer (some ⟨s_.2.2, 0, none⟩)), (30, .agg #[.string (⟨#[99, 111, 110, 116, 101, 110, 116, 45, 108, 101, 110, 103, 116, 104]⟩ : ByteArray), .string t640])]) (fun s_ w' => (w'.cell? ⟨gb629, 0, none⟩ = some (.string a0_0) ∧ w'.cell? ⟨gb629, 1, none⟩ = some (.slice A0_1 l0_1.length c0_1)) ∧ (Kd.R k41 41 w' w.heap.size (fun _ => True) s_.2.1 y637) ∧ (w'.heap[gb629]? = some (.cells #[.string a0_0, .slice A0_1 l0_1.length c0_1] 44 (0, 0))) ∧ (w'.heap[s_.2.2]? = some (.cells #[.string (⟨#[]⟩ : ByteArray), .slice none 0 0] 44 (0, 0))) ∧ (w.heap.size ≤ s_.2.2) ∧ (w.heap.size ≤ s_.2.2) ∧ (gb629 ≠ s_.2.2) ∧ (s_.2.2 ≠ gb629) ∧ (Below w.heap.size w w')) ?_ ?_
              rotate_left
              · intro hJ2_5_8_13
                refine join_ (σ := Value × Value) 5 #[true, true, true, true, true, true, true, true, true, true, false, false, false, false, false] (fun s_ => [(23, s_.1), (26, s_.2), (29, .string t640), (30, .agg #[.string (⟨#[99, 111, 110, 116, 101, 110, 116, 45, 108, 101, 110, 103, 116, 104]⟩ : ByteArray), .string t640])]) (fun s_ w' => (w'.cell? ⟨gb629, 0, none⟩ = some (.string a0_0) ∧ w'.cell? ⟨gb629, 1, none⟩ = some (.slice A0_1 l0_1.length c0_1)) ∧ (Kd.R k41 41 w' w.heap.size (fun _ => True) s_.2 y637) ∧ (w'.heap[gb629]? = some (.cells #[.string a0_0, .slice A0_1 l0_1.length c0_1] 44 (0, 0))) ∧ (Below w.heap.size w w')) ?_ ?_
                rotate_left
                · intro hJ2_5_8
                  refine join_ (σ := Value × Value × Nat) 6 #[true, true, true, true, true, true, true, true, false, false, false, false, false, true, false] (fun s_ => [(23, s_.1), (26, s_.2.1), (10, .pointer (some ⟨s_.2.2, 0, none⟩))]) (fun s_ w' => (w'.cell? ⟨gb629, 0, none⟩ = some (.string a0_0) ∧ w'.cell? ⟨gb629, 1, none⟩ = some (.slice A0_1 l0_1.length c0_1)) ∧ (Kd.R k41 41 w' w.heap.size (fun _ => True) s_.2.1 y637) ∧ (w'.heap[gb629]? = some (.cells #[.string a0_0, .slice A0_1 l0_1.length c0_1] 44 (0, 0))) ∧ (w'.heap[s_.2.2]? = some (.cells #[.string (⟨#[]⟩ : ByteArray), .slice none 0 0] 44 (0, 0))) ∧ (w.heap.size ≤ s_.2.2) ∧ (w.heap.size ≤ s_.2.2) ∧ (gb629 ≠ s_.2.2) ∧ (s_.2.2 ≠ gb629) ∧ (Below w.heap.size w w')) ?_ ?_
                  rotate_left
                  · intro hJ2_5_13
                    refine join_ (σ := Value × Value) 7 #[true, true, true, true, true, true, true, true, false, false, false, false, false, false, false] (fun s_ => [(23, s_.1), (26, s_.2)]) (fun s_ w' => (w'.cell? ⟨gb629, 0, none⟩ = some (.string a0_0) ∧ w'.cell? ⟨gb629, 1, none⟩ = some (.slice A0_1 l0_1.length c0_1)) ∧ (Kd.R k41 41 w' w.heap.size (fun _ => True) s_.2 y637) ∧ (w'.heap[gb629]? = some (.cells #[.string a0_0, .slice A0_1 l0_1.length c0_1] 44 (0, 0))) ∧ (Below w.heap.size w w')) ?_ ?_
                    rotate_left
                    · intro hJ2_5
                      refine join_ (σ := Value × Nat) 7 #[true, true, true, true, true, false, true, true, false, false, false, false, false, true, false] (fun s_ => [(23, s_.1), (10, .pointer (some ⟨s_.2, 0, none⟩))]) (fun s_ w' => (w'.cell? ⟨gb629, 0, none⟩ = some (.string a0_0) ∧ w'.cell? ⟨gb629, 1, none⟩ = some (.slice A0_1 l0_1.length c0_1)) ∧ (Kd.R k41 41 w' w.heap.size (fun _ => True) s_.1 y634) ∧ (w'.heap[gb629]? = some (.cells #[.string a0_0, .slice A0_1 l0_1.length c0_1] 44 (0, 0))) ∧ (w'.heap[s_.2]? = some (.cells #[.string (⟨#[]⟩ : ByteArray), .slice none 0 0] 44 (0, 0))) ∧ (w.heap.size ≤ s_.2) ∧ (w.heap.size ≤ s_.2) ∧ (gb629 ≠ s_.2) ∧ (s_.2 ≠ gb629) ∧ (Below w.heap.size w w')) ?_ ?_
                      rotate_left
                      · intro hJ2_13
                        refine join_ (σ := Value) 8 #[true, true, true, true, true, false, true, true, false, false, false, false, false, false, false] (fun s_ => [(23, s_)]) (fun s_ w' => (w'.cell? ⟨gb629, 0, none⟩ = some (.string a0_0) ∧ w'.cell? ⟨gb629, 1, none⟩ = some (.slice A0_1 l0_1.length c0_1)) ∧ (Kd.R k41 41 w' w.heap.size (fun _ => True) s_ y634) ∧ (w'.heap[gb629]? = some (.cells #[.string a0_0, .slice A0_1 l0_1.length c0_1] 44 (0, 0))) ∧ (Below w.heap.size w w')) ?_ ?_
                        rotate_left
                        · intro hJ2
                          refine join_ (σ := Nat) 8 #[true, true, false, true, true, false, true, true, false, false, false, false, false, true, false] (fun s_ => [(10, .pointer (some ⟨s_, 0, none⟩))]) (fun s_ w' => (w'.cell? ⟨gb629, 0, none⟩ = some (.string a0_0) ∧ w'.cell? ⟨gb629, 1, none⟩ = some (.slice A0_1 l0_1.length c0_1)) ∧ (w'.heap[gb629]? = some (.cells #[.string a0_0, .slice A0_1 l0_1.length c0_1] 44 (0, 0))) ∧ (w'.heap[s_]? = some (.cells #[.string (⟨#[]⟩ : ByteArray), .slice none 0 0] 44 (0, 0))) ∧ (w.heap.size ≤ s_) ∧ (w.heap.size ≤ s_) ∧ (gb629 ≠ s_) ∧ (s_ ≠ gb629) ∧ (Below w.heap.size w w')) ?_ ?_
                          rotate_left
                          · intro hJ13
                            refine two_ (i := 2) (j := 13) (Ni := some 23) (Nj := some 10) #[true, true, true, true, true, false, true, true, false, false, false, false, false, false, false] #[true, true, false, true, true, false, true, true, false, false, false, false, false, true, false] rfl rfl rfl rfl (two_of HT_.out (by kernel_rfl)) (by decide) (by decide) (fun K hK => ?_) (fun K hK => ?_)
                            · skip
                              refine Kd.R_lit_step k41 _ 41 ?hg (N := 23) ?hd (xs := ([] : List (S41))) (inner := []) (ok := fun _ => True) (okp := fun _ => True) ?hr ?hp (fun _ hk => hk) trivial (Below.refl _ _) (Nat.le_refl _) (by simp) ?_; (case hd => rfl); (case hg => rfl); (case hr => (go_simp; done)); (case hp => exact (Reps.none _ _))
                              intro v635 w15 ho16 hb hg_ hnew_
                              clear hg_ hnew_
                              (rw [← Ny634.out] at ho16)
                              have n0_ := Aside0.mk (Kd.R_lower ho16 (below_size (by repeat ((with_reducible exact HB.out)))))
                              have n1_ := Aside0.mk (blk_below (g := gb629) (o := .cells #[.string a0_0, .slice A0_1 l0_1.length c0_1] 44 (0, 0)) (by (with_reducible repeat (first | refine blk_drewN ?_ _ | refine blk_drew ?_ | refine blk_alloc ?_ _ )); exact BK629.out) hb)
                              have n2_ := Aside0.mk (below_step (by repeat ((with_reducible exact HB.out))) hb)
                              clear BK629
                              clear HB
                              have HO636 := n0_
                              have BK629 := n1_
                              have HB := n2_
                              clear n0_ n1_ n2_
                              clear hb ho16
                              refine hK.out _ _ ⟨(blk_cell BK629.out 0).trans rfl, (blk_cell BK629.out 1).trans rfl⟩ (fun hHeld => ?_)
                              clear hK K
                              refine norm_ (a' := ?_) ?_ ?_
                              rotate_left
                              · show Act.put _ (some 23) _ = _
                                simp only [Act.put, List.setIfInBounds_toArray, List.set_cons_zero, List.set_cons_succ, i64_w, i32_w]
                                rfl
                              exact norm_ (by (simp only [putAll, Act.put, List.setIfInBounds_toArray, List.set_cons_zero, List.set_cons_succ]; done)) (hJ2 (v635) _ ⟨hHeld, (by (with_reducible repeat (first | apply Kd.R_alloc | apply Kd.R_drewN | apply Kd.R_drew )); exact HO636.out), (by (with_reducible repeat (first | refine blk_drewN ?_ _ | refine blk_drew ?_ | refine blk_alloc ?_ _ )); exact BK629.out), (by repeat ((with_reducible exact HB.out)))⟩)
                            · skip
                              refine box_step ?hg (N := 10) ?hd (cs := #[.string (⟨#[]⟩ : ByteArray), .slice none 0 0]) (t := 44) ?hr ?_; (case hd => rfl); (case hg => rfl); (case hr => (go_simp; done))
                              intro gb647 hg w15 hbox hb
                              have n0_ := Aside0.mk (blk_below (g := gb629) (o := .cells #[.string a0_0, .slice A0_1 l0_1.length c0_1] 44 (0, 0)) (by (with_reducible repeat (first | refine blk_drewN ?_ _ | refine blk_drew ?_ | refine blk_alloc ?_ _ )); exact BK629.out) hb)
                              have n1_ := Aside0.mk (below_step (by repeat ((with_reducible exact HB.out))) hb)
                              have n2_ := Aside0.mk (hbox)
                              have n3_ := Aside0.mk ((by rw [hg]; exact (below_size (by repeat ((with_reducible exact HB.out)))) : w.heap.size ≤ gb647))
                              have n4_ := Aside0.mk ((by rw [hg]; exact (below_size (by repeat ((with_reducible exact HB.out)))) : w.heap.size ≤ gb647))
                              have n5_ := Aside0.mk ((by rw [hg]; exact Nat.ne_of_lt (blk_lt (g := gb629) (o := .cells #[.string a0_0, .slice A0_1 l0_1.length c0_1] 44 (0, 0)) (by (with_reducible repeat (first | refine blk_drewN ?_ _ | refine blk_drew ?_ | refine blk_alloc ?_ _ )); exact BK629.out)) : gb629 ≠ gb647))
                              have n6_ := Aside0.mk ((by rw [hg]; exact Nat.ne_of_gt (blk_lt (g := gb629) (o := .cells #[.string a0_0, .slice A0_1 l0_1.length c0_1] 44 (0, 0)) (by (with_reducible repeat (first | refine blk_drewN ?_ _ | refine blk_drew ?_ | refine blk_alloc ?_ _ )); exact BK629.out)) : gb647 ≠ gb629))
                              clear BK629
                              clear HB
                              have BK629 := n0_
                              have HB := n1_
                              have BK647 := n2_
                              have GW647 := n3_
                              have GE647 := n4_
                              have NB629_647 := n5_
                              have NB647_629 := n6_
                              clear n0_ n1_ n2_ n3_ n4_ n5_ n6_
                              clear hb hbox hg
                              refine hK.out _ _ ⟨(blk_cell BK629.out 0).trans rfl, (blk_cell BK629.out 1).trans rfl⟩ (fun hHeld => ?_)
                              clear hK K
                              refine norm_ (a' := ?_) ?_ ?_
                              rotate_left
                              · show Act.put _ (some 10) _ = _
                                simp only [Act.put, List.setIfInBounds_toArray, List.set_cons_zero, List.set_cons_succ, i64_w, i32_w]
                                rfl
                              exact norm_ (by (simp only [putAll, Act.put, List.setIfInBounds_toArray, List.set_cons_zero, List.set_cons_succ]; done)) (hJ13 (gb647) _ ⟨hHeld, (by (with_reducible repeat (first | refine blk_drewN ?_ _ | refine blk_drew ?_ | refine blk_alloc ?_ _ )); exact BK629.out), (by (with_reducible repeat (first | refine blk_drewN ?_ _ | refine blk_drew ?_ | refine blk_alloc ?_ _ )); exact BK647.out), GW647.out, GE647.out, NB629_647.out, NB647_629.out, (by repeat ((with_reducible exact HB.out)))⟩)
                          · skip
                            rintro gb647 w16 ⟨hS_, h0_, h1_, h2_, h3_, h4_, h5_, h6_⟩
                            have n0_ : Aside0 (w16.heap[gb629]? = some (.cells #[.string a0_0, .slice A0_1 l0_1.length c0_1] 44 (0, 0))) := ⟨h0_⟩
                            have n1_ : Aside0 (w16.heap[gb647]? = some (.cells #[.string (⟨#[]⟩ : ByteArray), .slice none 0 0] 44 (0, 0))) := ⟨h1_⟩
                            have n2_ : Aside0 (w.heap.size ≤ gb647) := ⟨h2_⟩
                            have n3_ : Aside0 (w.heap.size ≤ gb647) := ⟨h3_⟩
                            have n4_ : Aside0 (gb629 ≠ gb647) := ⟨h4_⟩
                            have n5_ : Aside0 (gb647 ≠ gb629) := ⟨h5_⟩
                            have n6_ : Aside0 (Below w.heap.size w w16) := ⟨h6_⟩
                            clear BK629
                            clear HB
                            clear h0_ h1_ h2_ h3_ h4_ h5_ h6_
                            have BK629 := n0_
                            have BK647 := n1_
                            have GW647 := n2_
                            have GE647 := n3_
                            have NB629_647 := n4_
                            have NB647_629 := n5_
                            have HB := n6_
                            clear n0_ n1_ n2_ n3_ n4_ n5_ n6_
                            have hHeld : w16.cell? ⟨gb629, 0, none⟩ = some (.string a0_0) ∧ w16.cell? ⟨gb629, 1, none⟩ = some (.slice A0_1 l0_1.length c0_1) := hS_
                            refine norm_ (a' := ?_) ?_ ?_
                            rotate_left
                            · simp only [putAll, Act.put, List.setIfInBounds_toArray, List.set_cons_zero, List.set_cons_succ]
                              rfl
                            refine one_ (i := 2) (N := some 23) #[true, true, true, true, true, false, true, true, false, false, false, false, false, true, false] rfl rfl (one_of HT_.out (by kernel_rfl)) (by decide) (fun K hK => ?_)
                            refine Kd.R_lit_step k41 _ 41 ?hg (N := 23) ?hd (xs := ([] : List (S41))) (inner := []) (ok := fun _ => True) (okp := fun _ => True) ?hr ?hp (fun _ hk => hk) trivial (Below.refl _ _) (Nat.le_refl _) (by simp) ?_; (case hd => rfl); (case hg => rfl); (case hr => (go_simp; done)); (case hp => exact (Reps.none _ _))
                            intro v635 w17 ho18 hb hg_ hnew_
                            clear hg_ hnew_
                            (rw [← Ny634.out] at ho18)
                            have n0_ := Aside0.mk (Kd.R_lower ho18 (below_size (by repeat ((with_reducible exact HB.out)))))
                            have n1_ := Aside0.mk (blk_below (g := gb629) (o := .cells #[.string a0_0, .slice A0_1 l0_1.length c0_1] 44 (0, 0)) (by (with_reducible repeat (first | refine blk_drewN ?_ _ | refine blk_drew ?_ | refine blk_alloc ?_ _ )); exact BK629.out) hb)
                            have n2_ := Aside0.mk (blk_below (g := gb647) (o := .cells #[.string (⟨#[]⟩ : ByteArray), .slice none 0 0] 44 (0, 0)) (by (with_reducible repeat (first | refine blk_drewN ?_ _ | refine blk_drew ?_ | refine blk_alloc ?_ _ )); exact BK647.out) hb)
                            have n3_ := Aside0.mk (below_step (by repeat ((with_reducible exact HB.out))) hb)
                            clear BK629
                            clear BK647
                            clear HB
                            have HO636 := n0_
                            have BK629 := n1_
                            have BK647 := n2_
                            have HB := n3_
                            clear n0_ n1_ n2_ n3_
                            clear hb ho18
                            refine hK.out _ _ ⟨(blk_cell BK629.out 0).trans rfl, (blk_cell BK629.out 1).trans rfl⟩ (fun hHeld => ?_)
                            clear hK K
                            refine norm_ (a' := ?_) ?_ ?_
                            rotate_left
                            · show Act.put _ (some 23) _ = _
                              simp only [Act.put, List.setIfInBounds_toArray, List.set_cons_zero, List.set_cons_succ, i64_w, i32_w]
                              rfl
                            exact norm_ (by (simp only [putAll, Act.put, List.setIfInBounds_toArray, List.set_cons_zero, List.set_cons_succ]; done)) (hJ2_13 (v635, gb647) _ ⟨hHeld, (by (with_reducible repeat (first | apply Kd.R_alloc | apply Kd.R_drewN | apply Kd.R_drew )); exact HO636.out), (by (with_reducible repeat (first | refine blk_drewN ?_ _ | refine blk_drew ?_ | refine blk_alloc ?_ _ )); exact BK629.out), (by (with_reducible repeat (first | refine blk_drewN ?_ _ | refine blk_drew ?_ | refine blk_alloc ?_ _ )); exact BK647.out), GW647.out, GE647.out, NB629_647.out, NB647_629.out, (by repeat ((with_reducible exact HB.out)))⟩)
                        · skip
                          rintro v635 w17 ⟨hS_, h0_, h1_, h2_⟩
                          have n0_ : Aside0 (Kd.R k41 41 w17 w.heap.size (fun _ => True) v635 y634) := ⟨h0_⟩
                          have n1_ : Aside0 (w17.heap[gb629]? = some (.cells #[.string a0_0, .slice A0_1 l0_1.length c0_1] 44 (0, 0))) := ⟨h1_⟩
                          have n2_ : Aside0 (Below w.heap.size w w17) := ⟨h2_⟩
                          clear BK629
                          clear HB
                          clear h0_ h1_ h2_
                          have HO636 := n0_
                          have BK629 := n1_
                          have HB := n2_
                          clear n0_ n1_ n2_
                          have hHeld : w17.cell? ⟨gb629, 0, none⟩ = some (.string a0_0) ∧ w17.cell? ⟨gb629, 1, none⟩ = some (.slice A0_1 l0_1.length c0_1) := hS_
                          refine norm_ (a' := ?_) ?_ ?_
                          rotate_left
                          · simp only [putAll, Act.put, List.setIfInBounds_toArray, List.set_cons_zero, List.set_cons_succ]
                            rfl
                          refine two_ (i := 5) (j := 13) (Ni := some 26) (Nj := some 10) #[true, true, true, true, true, true, true, true, false, false, false, false, false, false, false] #[true, true, true, true, true, false, true, true, false, false, false, false, false, true, false] rfl rfl rfl rfl (two_of HT_.out (by kernel_rfl)) (by decide) (by decide) (fun K hK => ?_) (fun K hK => ?_)
                          · skip
                            refine Kd.R_append_rows_step k41 (w0 := w) w.heap.size (by rfl) (.tmp 23) (.tmp 25) 42 41 (.agg #[(.string ⟨#[]⟩), (.string ⟨#[]⟩)]) 32 rfl Tryd.underlying42 info41 rfl (by decide) (by omega) v635 y634 l0_1 _ _ _ (fun _ => True) (fun _ => False) rfl rfl ?aO ?aR (fun _ _ h => h) (fun _ h => h.elim) ?aF ?aB ?aS ?aL ?_
                            (case aR => repeat (exact (Kd.C_below HR0_1.out HB.out)))
                            (case aB => exact (by repeat ((with_reducible exact HB.out))))
                            (case aF => exact (fun _ _ => trivial))
                            (case aO => exact (by (with_reducible repeat (first | apply Kd.R_alloc | apply Kd.R_drewN | apply Kd.R_drew )); exact HO636.out))
                            (case aS => exact (below_size (by repeat ((with_reducible exact HB.out)))))
                            (case aL => have := LMc5.out; omega)
                            intro v638 w18 ho hb hg hat
                            rw [← Ny637.out] at ho
                            have n0_ := Aside0.mk (blk_grown (g := gb629) (o := .cells #[.string a0_0, .slice A0_1 l0_1.length c0_1] 44 (0, 0)) (by (with_reducible repeat (first | refine blk_drewN ?_ _ | refine blk_drew ?_ | refine blk_alloc ?_ _ )); exact BK629.out) hg (Kd.R_ne HO636.out BK629.out (by decide)))
                            have n1_ := Aside0.mk (hb)
                            have n2_ := Aside0.mk (ho)
                            clear BK629
                            clear HB
                            clear HO636
                            have BK629 := n0_
                            have HB := n1_
                            have HO639 := n2_
                            clear n0_ n1_ n2_
                            clear ho hb hg hat
                            refine hK.out _ _ ⟨(blk_cell BK629.out 0).trans rfl, (blk_cell BK629.out 1).trans rfl⟩ (fun hHeld => ?_)
                            clear hK K
                            refine norm_ (a' := ?_) ?_ ?_
                            rotate_left
                            · show Act.put _ (some 26) _ = _
                              simp only [Act.put, List.setIfInBounds_toArray, List.set_cons_zero, List.set_cons_succ, i64_w, i32_w]
                              rfl
                            exact norm_ (by (simp only [putAll, Act.put, List.setIfInBounds_toArray, List.set_cons_zero, List.set_cons_succ]; done)) (hJ2_5 (v635, v638) _ ⟨hHeld, (by (with_reducible repeat (first | apply Kd.R_alloc | apply Kd.R_drewN | apply Kd.R_drew )); exact HO639.out), (by (with_reducible repeat (first | refine blk_drewN ?_ _ | refine blk_drew ?_ | refine blk_alloc ?_ _ )); exact BK629.out), (by repeat ((with_reducible exact HB.out)))⟩)
                          · skip
                            refine box_step ?hg (N := 10) ?hd (cs := #[.string (⟨#[]⟩ : ByteArray), .slice none 0 0]) (t := 44) ?hr ?_; (case hd => rfl); (case hg => rfl); (case hr => (go_simp; done))
                            intro gb647 hg w18 hbox hb
                            have n0_ := Aside0.mk (Kd.R_below (by (with_reducible repeat (first | apply Kd.R_alloc | apply Kd.R_drewN | apply Kd.R_drew )); exact HO636.out) hb)
                            have n1_ := Aside0.mk (blk_below (g := gb629) (o := .cells #[.string a0_0, .slice A0_1 l0_1.length c0_1] 44 (0, 0)) (by (with_reducible repeat (first | refine blk_drewN ?_ _ | refine blk_drew ?_ | refine blk_alloc ?_ _ )); exact BK629.out) hb)
                            have n2_ := Aside0.mk (below_step (by repeat ((with_reducible exact HB.out))) hb)
                            have n3_ := Aside0.mk (hbox)
                            have n4_ := Aside0.mk ((by rw [hg]; exact (below_size (by repeat ((with_reducible exact HB.out)))) : w.heap.size ≤ gb647))
                            have n5_ := Aside0.mk ((by rw [hg]; exact (below_size (by repeat ((with_reducible exact HB.out)))) : w.heap.size ≤ gb647))
                            have n6_ := Aside0.mk ((by rw [hg]; exact Nat.ne_of_lt (blk_lt (g := gb629) (o := .cells #[.string a0_0, .slice A0_1 l0_1.length c0_1] 44 (0, 0)) (by (with_reducible repeat (first | refine blk_drewN ?_ _ | refine blk_drew ?_ | refine blk_alloc ?_ _ )); exact BK629.out)) : gb629 ≠ gb647))
                            have n7_ := Aside0.mk ((by rw [hg]; exact Nat.ne_of_gt (blk_lt (g := gb629) (o := .cells #[.string a0_0, .slice A0_1 l0_1.length c0_1] 44 (0, 0)) (by (with_reducible repeat (first | refine blk_drewN ?_ _ | refine blk_drew ?_ | refine blk_alloc ?_ _ )); exact BK629.out)) : gb647 ≠ gb629))
                            clear HO636
                            clear BK629
                            clear HB
                            have HO636 := n0_
                            have BK629 := n1_
                            have HB := n2_
                            have BK647 := n3_
                            have GW647 := n4_
                            have GE647 := n5_
                            have NB629_647 := n6_
                            have NB647_629 := n7_
                            clear n0_ n1_ n2_ n3_ n4_ n5_ n6_ n7_
                            clear hb hbox hg
                            refine hK.out _ _ ⟨(blk_cell BK629.out 0).trans rfl, (blk_cell BK629.out 1).trans rfl⟩ (fun hHeld => ?_)
                            clear hK K
                            refine norm_ (a' := ?_) ?_ ?_
                            rotate_left
                            · show Act.put _ (some 10) _ = _
                              simp only [Act.put, List.setIfInBounds_toArray, List.set_cons_zero, List.set_cons_succ, i64_w, i32_w]
                              rfl
                            exact norm_ (by (simp only [putAll, Act.put, List.setIfInBounds_toArray, List.set_cons_zero, List.set_cons_succ]; done)) (hJ2_13 (v635, gb647) _ ⟨hHeld, (by (with_reducible repeat (first | apply Kd.R_alloc | apply Kd.R_drewN | apply Kd.R_drew )); exact HO636.out), (by (with_reducible repeat (first | refine blk_drewN ?_ _ | refine blk_drew ?_ | refine blk_alloc ?_ _ )); exact BK629.out), (by (with_reducible repeat (first | refine blk_drewN ?_ _ | refine blk_drew ?_ | refine blk_alloc ?_ _ )); exact BK647.out), GW647.out, GE647.out, NB629_647.out, NB647_629.out, (by repeat ((with_reducible exact HB.out)))⟩)
                      · skip
                        rintro ⟨v635, gb647⟩ w18 ⟨hS_, h0_, h1_, h2_, h3_, h4_, h5_, h6_, h7_⟩
                        have n0_ : Aside0 (Kd.R k41 41 w18 w.heap.size (fun _ => True) v635 y634) := ⟨h0_⟩
                        have n1_ : Aside0 (w18.heap[gb629]? = some (.cells #[.string a0_0, .slice A0_1 l0_1.length c0_1] 44 (0, 0))) := ⟨h1_⟩
                        have n2_ : Aside0 (w18.heap[gb647]? = some (.cells #[.string (⟨#[]⟩ : ByteArray), .slice none 0 0] 44 (0, 0))) := ⟨h2_⟩
                        have n3_ : Aside0 (w.heap.size ≤ gb647) := ⟨h3_⟩
                        have n4_ : Aside0 (w.heap.size ≤ gb647) := ⟨h4_⟩
                        have n5_ : Aside0 (gb629 ≠ gb647) := ⟨h5_⟩
                        have n6_ : Aside0 (gb647 ≠ gb629) := ⟨h6_⟩
                        have n7_ : Aside0 (Below w.heap.size w w18) := ⟨h7_⟩
                        clear BK629
                        clear HB
                        clear h0_ h1_ h2_ h3_ h4_ h5_ h6_ h7_
                        have HO636 := n0_
                        have BK629 := n1_
                        have BK647 := n2_
                        have GW647 := n3_
                        have GE647 := n4_
                        have NB629_647 := n5_
                        have NB647_629 := n6_
                        have HB := n7_
                        clear n0_ n1_ n2_ n3_ n4_ n5_ n6_ n7_
                        have hHeld : w18.cell? ⟨gb629, 0, none⟩ = some (.string a0_0) ∧ w18.cell? ⟨gb629, 1, none⟩ = some (.slice A0_1 l0_1.length c0_1) := hS_
                        refine norm_ (a' := ?_) ?_ ?_
                        rotate_left
                        · simp only [putAll, Act.put, List.setIfInBounds_toArray, List.set_cons_zero, List.set_cons_succ]
                          rfl
                        refine one_ (i := 5) (N := some 26) #[true, true, true, true, true, true, true, true, false, false, false, false, false, true, false] rfl rfl (one_of HT_.out (by kernel_rfl)) (by decide) (fun K hK => ?_)
                        refine Kd.R_append_rows_step k41 (w0 := w) w.heap.size (by rfl) (.tmp 23) (.tmp 25) 42 41 (.agg #[(.string ⟨#[]⟩), (.string ⟨#[]⟩)]) 32 rfl Tryd.underlying42 info41 rfl (by decide) (by omega) v635 y634 l0_1 _ _ _ (fun _ => True) (fun _ => False) rfl rfl ?aO ?aR (fun _ _ h => h) (fun _ h => h.elim) ?aF ?aB ?aS ?aL ?_
                        (case aR => repeat (exact (Kd.C_below HR0_1.out HB.out)))
                        (case aB => exact (by repeat ((with_reducible exact HB.out))))
                        (case aF => exact (fun _ _ => trivial))
                        (case aO => exact (by (with_reducible repeat (first | apply Kd.R_alloc | apply Kd.R_drewN | apply Kd.R_drew )); exact HO636.out))
                        (case aS => exact (below_size (by repeat ((with_reducible exact HB.out)))))
                        (case aL => have := LMc5.out; omega)
                        intro v638 w19 ho hb hg hat
                        rw [← Ny637.out] at ho
                        have n0_ := Aside0.mk (blk_grown (g := gb629) (o := .cells #[.string a0_0, .slice A0_1 l0_1.length c0_1] 44 (0, 0)) (by (with_reducible repeat (first | refine blk_drewN ?_ _ | refine blk_drew ?_ | refine blk_alloc ?_ _ )); exact BK629.out) hg (Kd.R_ne HO636.out BK629.out (by decide)))
                        have n1_ := Aside0.mk (blk_grown (g := gb647) (o := .cells #[.string (⟨#[]⟩ : ByteArray), .slice none 0 0] 44 (0, 0)) (by (with_reducible repeat (first | refine blk_drewN ?_ _ | refine blk_drew ?_ | refine blk_alloc ?_ _ )); exact BK647.out) hg (Kd.R_ne HO636.out BK647.out (by decide)))
                        have n2_ := Aside0.mk (hb)
                        have n3_ := Aside0.mk (ho)
                        clear BK629
                        clear BK647
                        clear HB
                        clear HO636
                        have BK629 := n0_
                        have BK647 := n1_
                        have HB := n2_
                        have HO639 := n3_
                        clear n0_ n1_ n2_ n3_
                        clear ho hb hg hat
                        refine hK.out _ _ ⟨(blk_cell BK629.out 0).trans rfl, (blk_cell BK629.out 1).trans rfl⟩ (fun hHeld => ?_)
                        clear hK K
                        refine norm_ (a' := ?_) ?_ ?_
                        rotate_left
                        · show Act.put _ (some 26) _ = _
                          simp only [Act.put, List.setIfInBounds_toArray, List.set_cons_zero, List.set_cons_succ, i64_w, i32_w]
                          rfl
                        exact norm_ (by (simp only [putAll, Act.put, List.setIfInBounds_toArray, List.set_cons_zero, List.set_cons_succ]; done)) (hJ2_5_13 (v635, v638, gb647) _ ⟨hHeld, (by (with_reducible repeat (first | apply Kd.R_alloc | apply Kd.R_drewN | apply Kd.R_drew )); exact HO639.out), (by (with_reducible repeat (first | refine blk_drewN ?_ _ | refine blk_drew ?_ | refine blk_alloc ?_ _ )); exact BK629.out), (by (with_reducible repeat (first | refine blk_drewN ?_ _ | refine blk_drew ?_ | refine blk_alloc ?_ _ )); exact BK647.out), GW647.out, GE647.out, NB629_647.out, NB647_629.out, (by repeat ((with_reducible exact HB.out)))⟩)
                    · skip
                      rintro ⟨v635, v638⟩ w18 ⟨hS_, h0_, h1_, h2_⟩
                      have n0_ : Aside0 (Kd.R k41 41 w18 w.heap.size (fun _ => True) v638 y637) := ⟨h0_⟩
                      have n1_ : Aside0 (w18.heap[gb629]? = some (.cells #[.string a0_0, .slice A0_1 l0_1.length c0_1] 44 (0, 0))) := ⟨h1_⟩
                      have n2_ : Aside0 (Below w.heap.size w w18) := ⟨h2_⟩
                      clear BK629
                      clear HB
                      clear h0_ h1_ h2_
                      have HO639 := n0_
                      have BK629 := n1_
                      have HB := n2_
                      clear n0_ n1_ n2_
                      have hHeld : w18.cell? ⟨gb629, 0, none⟩ = some (.string a0_0) ∧ w18.cell? ⟨gb629, 1, none⟩ = some (.slice A0_1 l0_1.length c0_1) := hS_
                      refine norm_ (a' := ?_) ?_ ?_
                      rotate_left
                      · simp only [putAll, Act.put, List.setIfInBounds_toArray, List.set_cons_zero, List.set_cons_succ]
                        rfl
                      refine two_ (i := 8) (j := 13) (Ni := some 29) (Nj := some 10) #[true, true, true, true, true, true, true, true, true, false, false, false, false, false, false] #[true, true, true, true, true, true, true, true, false, false, false, false, false, true, false] rfl rfl rfl rfl (two_of HT_.out (by kernel_rfl)) (by decide) (by decide) (fun K hK => ?_) (fun K hK => ?_)
                      · skip
                        refine goes_ Tryd.func18 (by kernel_rfl) rfl #[.int .i64 (a1.size : Int)] (by rfl) rfl rfl (by (try simp only [List.map_toArray, List.map_cons, List.map_nil]); rfl) ?_
                        with_reducible refine (spec_Decimal.calls k (a1.size : Int) t640 _ A6.out).mono ?_
                        rintro e w19 ⟨rfl, hb⟩
                        refine ⟨_, rfl, ?_⟩
                        have n0_ := Aside0.mk (Kd.R_below (by (with_reducible repeat (first | apply Kd.R_alloc | apply Kd.R_drewN | apply Kd.R_drew )); exact HO639.out) hb)
                        have n1_ := Aside0.mk (blk_below (g := gb629) (o := .cells #[.string a0_0, .slice A0_1 l0_1.length c0_1] 44 (0, 0)) (by (with_reducible repeat (first | refine blk_drewN ?_ _ | refine blk_drew ?_ | refine blk_alloc ?_ _ )); exact BK629.out) hb)
                        have n2_ := Aside0.mk (below_step (by repeat ((with_reducible exact HB.out))) hb)
                        clear HO639
                        clear BK629
                        clear HB
                        have HO639 := n0_
                        have BK629 := n1_
                        have HB := n2_
                        clear n0_ n1_ n2_
                        (try clear hb)
                        (try clear hb2)
                        (try clear hk)
                        (try clear hi)
                        refine hK.out _ _ ⟨(blk_cell BK629.out 0).trans rfl, (blk_cell BK629.out 1).trans rfl⟩ (fun hHeld => ?_)
                        clear hK K
                        refine norm_ (a' := ?_) ?_ ?_
                        rotate_left
                        · show Act.put _ (some 29) _ = _
                          simp only [Act.put, List.setIfInBounds_toArray, List.set_cons_zero, List.set_cons_succ, i64_w, i32_w]
                          rfl
                        refine pure_ (i := 9) (N := some 30) (v := ?_) (a' := ?_) #[true, true, true, true, true, true, true, true, true, true, false, false, false, false, false] rfl rfl (any_of HT_.out (by kernel_rfl)) (fun _ _ _ h => h) (Or.inl ⟨by rfl, ?_⟩) ?_ ?_
                        rotate_left
                        · intro w'
                          go_simp
                          with_reducible rfl
                        rotate_left
                        · simp only [Act.put, List.setIfInBounds_toArray, List.set_cons_zero, List.set_cons_succ, i64_w, i32_w]
                          rfl
                        exact norm_ (by (simp only [putAll, Act.put, List.setIfInBounds_toArray, List.set_cons_zero, List.set_cons_succ]; done)) (hJ2_5_8 (v635, v638) _ ⟨hHeld, (by (with_reducible repeat (first | apply Kd.R_alloc | apply Kd.R_drewN | apply Kd.R_drew )); exact HO639.out), (by (with_reducible repeat (first | refine blk_drewN ?_ _ | refine blk_drew ?_ | refine blk_alloc ?_ _ )); exact BK629.out), (by repeat ((with_reducible exact HB.out)))⟩)
                      · skip
                        refine box_step ?hg (N := 10) ?hd (cs := #[.string (⟨#[]⟩ : ByteArray), .slice none 0 0]) (t := 44) ?hr ?_; (case hd => rfl); (case hg => rfl); (case hr => (go_simp; done))
                        intro gb647 hg w19 hbox hb
                        have n0_ := Aside0.mk (Kd.R_below (by (with_reducible repeat (first | apply Kd.R_alloc | apply Kd.R_drewN | apply Kd.R_drew )); exact HO639.out) hb)
                        have n1_ := Aside0.mk (blk_below (g := gb629) (o := .cells #[.string a0_0, .slice A0_1 l0_1.length c0_1] 44 (0, 0)) (by (with_reducible repeat (first | refine blk_drewN ?_ _ | refine blk_drew ?_ | refine blk_alloc ?_ _ )); exact BK629.out) hb)
                        have n2_ := Aside0.mk (below_step (by repeat ((with_reducible exact HB.out))) hb)
                        have n3_ := Aside0.mk (hbox)
                        have n4_ := Aside0.mk ((by rw [hg]; exact (below_size (by repeat ((with_reducible exact HB.out)))) : w.heap.size ≤ gb647))
                        have n5_ := Aside0.mk ((by rw [hg]; exact (below_size (by repeat ((with_reducible exact HB.out)))) : w.heap.size ≤ gb647))
                        have n6_ := Aside0.mk ((by rw [hg]; exact Nat.ne_of_lt (blk_lt (g := gb629) (o := .cells #[.string a0_0, .slice A0_1 l0_1.length c0_1] 44 (0, 0)) (by (with_reducible repeat (first | refine blk_drewN ?_ _ | refine blk_drew ?_ | refine blk_alloc ?_ _ )); exact BK629.out)) : gb629 ≠ gb647))
                        have n7_ := Aside0.mk ((by rw [hg]; exact Nat.ne_of_gt (blk_lt (g := gb629) (o := .cells #[.string a0_0, .slice A0_1 l0_1.length c0_1] 44 (0, 0)) (by (with_reducible repeat (first | refine blk_drewN ?_ _ | refine blk_drew ?_ | refine blk_alloc ?_ _ )); exact BK629.out)) : gb647 ≠ gb629))
                        clear HO639
                        clear BK629
                        clear HB
                        have HO639 := n0_
                        have BK629 := n1_
                        have HB := n2_
                        have BK647 := n3_
                        have GW647 := n4_
                        have GE647 := n5_
                        have NB629_647 := n6_
                        have NB647_629 := n7_
                        clear n0_ n1_ n2_ n3_ n4_ n5_ n6_ n7_
                        clear hb hbox hg
                        refine hK.out _ _ ⟨(blk_cell BK629.out 0).trans rfl, (blk_cell BK629.out 1).trans rfl⟩ (fun hHeld => ?_)
                        clear hK K
                        refine norm_ (a' := ?_) ?_ ?_
                        rotate_left
                        · show Act.put _ (some 10) _ = _
                          simp only [Act.put, List.setIfInBounds_toArray, List.set_cons_zero, List.set_cons_succ, i64_w, i32_w]
                          rfl
                        exact norm_ (by (simp only [putAll, Act.put, List.setIfInBounds_toArray, List.set_cons_zero, List.set_cons_succ]; done)) (hJ2_5_13 (v635, v638, gb647) _ ⟨hHeld, (by (with_reducible repeat (first | apply Kd.R_alloc | apply Kd.R_drewN | apply Kd.R_drew )); exact HO639.out), (by (with_reducible repeat (first | refine blk_drewN ?_ _ | refine blk_drew ?_ | refine blk_alloc ?_ _ )); exact BK629.out), (by (with_reducible repeat (first | refine blk_drewN ?_ _ | refine blk_drew ?_ | refine blk_alloc ?_ _ )); exact BK647.out), GW647.out, GE647.out, NB629_647.out, NB647_629.out, (by repeat ((with_reducible exact HB.out)))⟩)
                  · skip
                    rintro ⟨v635, v638, gb647⟩ w19 ⟨hS_, h0_, h1_, h2_, h3_, h4_, h5_, h6_, h7_⟩
                    have n0_ : Aside0 (Kd.R k41 41 w19 w.heap.size (fun _ => True) v638 y637) := ⟨h0_⟩
                    have n1_ : Aside0 (w19.heap[gb629]? = some (.cells #[.string a0_0, .slice A0_1 l0_1.length c0_1] 44 (0, 0))) := ⟨h1_⟩
                    have n2_ : Aside0 (w19.heap[gb647]? = some (.cells #[.string (⟨#[]⟩ : ByteArray), .slice none 0 0] 44 (0, 0))) := ⟨h2_⟩
                    have n3_ : Aside0 (w.heap.size ≤ gb647) := ⟨h3_⟩
                    have n4_ : Aside0 (w.heap.size ≤ gb647) := ⟨h4_⟩
                    have n5_ : Aside0 (gb629 ≠ gb647) := ⟨h5_⟩
                    have n6_ : Aside0 (gb647 ≠ gb629) := ⟨h6_⟩
                    have n7_ : Aside0 (Below w.heap.size w w19) := ⟨h7_⟩
                    clear BK629
                    clear HB
                    clear h0_ h1_ h2_ h3_ h4_ h5_ h6_ h7_
                    have HO639 := n0_
                    have BK629 := n1_
                    have BK647 := n2_
                    have GW647 := n3_
                    have GE647 := n4_
                    have NB629_647 := n5_
                    have NB647_629 := n6_
                    have HB := n7_
                    clear n0_ n1_ n2_ n3_ n4_ n5_ n6_ n7_
                    have hHeld : w19.cell? ⟨gb629, 0, none⟩ = some (.string a0_0) ∧ w19.cell? ⟨gb629, 1, none⟩ = some (.slice A0_1 l0_1.length c0_1) := hS_
                    refine norm_ (a' := ?_) ?_ ?_
                    rotate_left
                    · simp only [putAll, Act.put, List.setIfInBounds_toArray, List.set_cons_zero, List.set_cons_succ]
                      rfl
                    refine one_ (i := 8) (N := some 29) #[true, true, true, true, true, true, true, true, true, false, false, false, false, true, false] rfl rfl (one_of HT_.out (by kernel_rfl)) (by decide) (fun K hK => ?_)
                    refine goes_ Tryd.func18 (by kernel_rfl) rfl #[.int .i64 (a1.size : Int)] (by rfl) rfl rfl (by (try simp only [List.map_toArray, List.map_cons, List.map_nil]); rfl) ?_
                    with_reducible refine (spec_Decimal.calls k (a1.size : Int) t640 _ A6.out).mono ?_
                    rintro e w20 ⟨rfl, hb⟩
                    refine ⟨_, rfl, ?_⟩
                    have n0_ := Aside0.mk (Kd.R_below (by (with_reducible repeat (first | apply Kd.R_alloc | apply Kd.R_drewN | apply Kd.R_drew )); exact HO639.out) hb)
                    have n1_ := Aside0.mk (blk_below (g := gb629) (o := .cells #[.string a0_0, .slice A0_1 l0_1.length c0_1] 44 (0, 0)) (by (with_reducible repeat (first | refine blk_drewN ?_ _ | refine blk_drew ?_ | refine blk_alloc ?_ _ )); exact BK629.out) hb)
                    have n2_ := Aside0.mk (blk_below (g := gb647) (o := .cells #[.string (⟨#[]⟩ : ByteArray), .slice none 0 0] 44 (0, 0)) (by (with_reducible repeat (first | refine blk_drewN ?_ _ | refine blk_drew ?_ | refine blk_alloc ?_ _ )); exact BK647.out) hb)
                    have n3_ := Aside0.mk (below_step (by repeat ((with_reducible exact HB.out))) hb)
                    clear HO639
                    clear BK629
                    clear BK647
                    clear HB
                    have HO639 := n0_
                    have BK629 := n1_
                    have BK647 := n2_
                    have HB := n3_
                    clear n0_ n1_ n2_ n3_
                    (try clear hb)
                    (try clear hb2)
                    (try clear hk)
                    (try clear hi)
                    refine hK.out _ _ ⟨(blk_cell BK629.out 0).trans rfl, (blk_cell BK629.out 1).trans rfl⟩ (fun hHeld => ?_)
                    clear hK K
                    refine norm_ (a' := ?_) ?_ ?_
                    rotate_left
                    · show Act.put _ (some 29) _ = _
                      simp only [Act.put, List.setIfInBounds_toArray, List.set_cons_zero, List.set_cons_succ, i64_w, i32_w]
                      rfl
                    refine pure_ (i := 9) (N := some 30) (v := ?_) (a' := ?_) #[true, true, true, true, true, true, true, true, true, true, false, false, false, true, false] rfl rfl (any_of HT_.out (by kernel_rfl)) (fun _ _ _ h => h) (Or.inl ⟨by rfl, ?_⟩) ?_ ?_
                    rotate_left
                    · intro w'
                      go_simp
                      with_reducible rfl
                    rotate_left
                    · simp only [Act.put, List.setIfInBounds_toArray, List.set_cons_zero, List.set_cons_succ, i64_w, i32_w]
                      rfl
                    exact norm_ (by (simp only [putAll, Act.put, List.setIfInBounds_toArray, List.set_cons_zero, List.set_cons_succ]; done)) (hJ2_5_8_13 (v635, v638, gb647) _ ⟨hHeld, (by (with_reducible repeat (first | apply Kd.R_alloc | apply Kd.R_drewN | apply Kd.R_drew )); exact HO639.out), (by (with_reducible repeat (first | refine blk_drewN ?_ _ | refine blk_drew ?_ | refine blk_alloc ?_ _ )); exact BK629.out), (by (with_reducible repeat (first | refine blk_drewN ?_ _ | refine blk_drew ?_ | refine blk_alloc ?_ _ )); exact BK647.out), GW647.out, GE647.out, NB629_647.out, NB647_629.out, (by repeat ((with_reducible exact HB.out)))⟩)
                · skip
                  rintro ⟨v635, v638⟩ w19 ⟨hS_, h0_, h1_, h2_⟩
                  have n0_ : Aside0 (Kd.R k41 41 w19 w.heap.size (fun _ => True) v638 y637) := ⟨h0_⟩
                  have n1_ : Aside0 (w19.heap[gb629]? = some (.cells #[.string a0_0, .slice A0_1 l0_1.length c0_1] 44 (0, 0))) := ⟨h1_⟩
                  have n2_ : Aside0 (Below w.heap.size w w19) := ⟨h2_⟩
                  clear BK629
                  clear HB
                  clear h0_ h1_ h2_
                  have HO639 := n0_
                  have BK629 := n1_
                  have HB := n2_
                  clear n0_ n1_ n2_
                  have hHeld : w19.cell? ⟨gb629, 0, none⟩ = some (.string a0_0) ∧ w19.cell? ⟨gb629, 1, none⟩ = some (.slice A0_1 l0_1.length c0_1) := hS_
                  refine norm_ (a' := ?_) ?_ ?_
                  rotate_left
                  · simp only [putAll, Act.put, List.setIfInBounds_toArray, List.set_cons_zero, List.set_cons_succ]
                    rfl
                  refine two_ (i := 10) (j := 13) (Ni := some 31) (Nj := some 10) #[true, true, true, true, true, true, true, true, true, true, true, false, false, false, false] #[true, true, true, true, true, true, true, true, true, true, false, false, false, true, false] rfl rfl rfl rfl (two_of HT_.out (by kernel_rfl)) (by decide) (by decide) (fun K hK => ?_) (fun K hK => ?_)
                  · skip
                    refine Kd.R_lit_step k41 _ 41 ?hg (N := 31) ?hd (xs := ([(⟨(⟨#[99, 111, 110, 116, 101, 110, 116, 45, 108, 101, 110, 103, 116, 104]⟩ : ByteArray), t640⟩ : S41)] : List (S41))) (inner := [.string (⟨#[99, 111, 110, 116, 101, 110, 116, 45, 108, 101, 110, 103, 116, 104]⟩ : ByteArray), .string t640]) (ok := fun _ => True) (okp := fun _ => True) ?hr ?hp (fun _ hk => hk) trivial (Below.refl _ _) (Nat.le_refl _) (by simp) ?_; (case hd => rfl); (case hg => rfl); (case hr => (go_simp; done)); (case hp => exact (Reps.c2 (show Kd.M k41 _ _ _ (⟨(⟨#[99, 111, 110, 116, 101, 110, 116, 45, 108, 101, 110, 103, 116, 104]⟩ : ByteArray), t640⟩ : S41) [.string (⟨#[99, 111, 110, 116, 101, 110, 116, 45, 108, 101, 110, 103, 116, 104]⟩ : ByteArray), .string t640] from (k41_mkM _ _ _ (⟨(⟨#[99, 111, 110, 116, 101, 110, 116, 45, 108, 101, 110, 103, 116, 104]⟩ : ByteArray), t640⟩ : S41) )) (Reps.none _ _)))
                    intro v642 w20 ho21 hb hg_ hnew_
                    clear hg_ hnew_
                    (rw [← Ny641.out] at ho21)
                    have n0_ := Aside0.mk (Kd.R_elder' (by (with_reducible repeat (first | apply Kd.R_alloc | apply Kd.R_drewN | apply Kd.R_drew )); exact HO639.out) (Kd.R_base ho21) hb)
                    have n1_ := Aside0.mk (Kd.R_lower (Kd.R_new' ho21 (Kd.R_lt (by (with_reducible repeat (first | apply Kd.R_alloc | apply Kd.R_drewN | apply Kd.R_drew )); exact HO639.out))) (below_size (by repeat ((with_reducible exact HB.out)))))
                    have n2_ := Aside0.mk (blk_below (g := gb629) (o := .cells #[.string a0_0, .slice A0_1 l0_1.length c0_1] 44 (0, 0)) (by (with_reducible repeat (first | refine blk_drewN ?_ _ | refine blk_drew ?_ | refine blk_alloc ?_ _ )); exact BK629.out) hb)
                    have n3_ := Aside0.mk (below_step (by repeat ((with_reducible exact HB.out))) hb)
                    clear HO639
                    clear BK629
                    clear HB
                    have HO639 := n0_
                    have HO643 := n1_
                    have BK629 := n2_
                    have HB := n3_
                    clear n0_ n1_ n2_ n3_
                    clear hb ho21
                    refine hK.out _ _ ⟨(blk_cell BK629.out 0).trans rfl, (blk_cell BK629.out 1).trans rfl⟩ (fun hHeld => ?_)
                    clear hK K
                    refine norm_ (a' := ?_) ?_ ?_
                    rotate_left
                    · show Act.put _ (some 31) _ = _
                      simp only [Act.put, List.setIfInBounds_toArray, List.set_cons_zero, List.set_cons_succ, i64_w, i32_w]
                      rfl
                    exact norm_ (by (simp only [putAll, Act.put, List.setIfInBounds_toArray, List.set_cons_zero, List.set_cons_succ]; done)) (hJ2_5_8_10 (v635, v638, v642) _ ⟨hHeld, (by (with_reducible repeat (first | apply Kd.R_alloc | apply Kd.R_drewN | apply Kd.R_drew )); exact Kd.R_mono HO639.out (fun _ hk => hk.2)), (by (with_reducible repeat (first | apply Kd.R_alloc | apply Kd.R_drewN | apply Kd.R_drew )); exact Kd.R_mono HO643.out (fun _ hk => hk.2)), (by (with_reducible repeat (first | refine blk_drewN ?_ _ | refine blk_drew ?_ | refine blk_alloc ?_ _ )); exact BK629.out), (by repeat ((with_reducible exact HB.out)))⟩)
                  · skip
                    refine box_step ?hg (N := 10) ?hd (cs := #[.string (⟨#[]⟩ : ByteArray), .slice none 0 0]) (t := 44) ?hr ?_; (case hd => rfl); (case hg => rfl); (case hr => (go_simp; done))
                    intro gb647 hg w20 hbox hb
                    have n0_ := Aside0.mk (Kd.R_below (by (with_reducible repeat (first | apply Kd.R_alloc | apply Kd.R_drewN | apply Kd.R_drew )); exact HO639.out) hb)
                    have n1_ := Aside0.mk (blk_below (g := gb629) (o := .cells #[.string a0_0, .slice A0_1 l0_1.length c0_1] 44 (0, 0)) (by (with_reducible repeat (first | refine blk_drewN ?_ _ | refine blk_drew ?_ | refine blk_alloc ?_ _ )); exact BK629.out) hb)
                    have n2_ := Aside0.mk (below_step (by repeat ((with_reducible exact HB.out))) hb)
                    have n3_ := Aside0.mk (hbox)
                    have n4_ := Aside0.mk ((by rw [hg]; exact (below_size (by repeat ((with_reducible exact HB.out)))) : w.heap.size ≤ gb647))
                    have n5_ := Aside0.mk ((by rw [hg]; exact (below_size (by repeat ((with_reducible exact HB.out)))) : w.heap.size ≤ gb647))
                    have n6_ := Aside0.mk ((by rw [hg]; exact Nat.ne_of_lt (blk_lt (g := gb629) (o := .cells #[.string a0_0, .slice A0_1 l0_1.length c0_1] 44 (0, 0)) (by (with_reducible repeat (first | refine blk_drewN ?_ _ | refine blk_drew ?_ | refine blk_alloc ?_ _ )); exact BK629.out)) : gb629 ≠ gb647))
                    have n7_ := Aside0.mk ((by rw [hg]; exact Nat.ne_of_gt (blk_lt (g := gb629) (o := .cells #[.string a0_0, .slice A0_1 l0_1.length c0_1] 44 (0, 0)) (by (with_reducible repeat (first | refine blk_drewN ?_ _ | refine blk_drew ?_ | refine blk_alloc ?_ _ )); exact BK629.out)) : gb647 ≠ gb629))
                    clear HO639
                    clear BK629
                    clear HB
                    have HO639 := n0_
                    have BK629 := n1_
                    have HB := n2_
                    have BK647 := n3_
                    have GW647 := n4_
                    have GE647 := n5_
                    have NB629_647 := n6_
                    have NB647_629 := n7_
                    clear n0_ n1_ n2_ n3_ n4_ n5_ n6_ n7_
                    clear hb hbox hg
                    refine hK.out _ _ ⟨(blk_cell BK629.out 0).trans rfl, (blk_cell BK629.out 1).trans rfl⟩ (fun hHeld => ?_)
                    clear hK K
                    refine norm_ (a' := ?_) ?_ ?_
                    rotate_left
                    · show Act.put _ (some 10) _ = _
                      simp only [Act.put, List.setIfInBounds_toArray, List.set_cons_zero, List.set_cons_succ, i64_w, i32_w]
                      rfl
                    exact norm_ (by (simp only [putAll, Act.put, List.setIfInBounds_toArray, List.set_cons_zero, List.set_cons_succ]; done)) (hJ2_5_8_13 (v635, v638, gb647) _ ⟨hHeld, (by (with_reducible repeat (first | apply Kd.R_alloc | apply Kd.R_drewN | apply Kd.R_drew )); exact HO639.out), (by (with_reducible repeat (first | refine blk_drewN ?_ _ | refine blk_drew ?_ | refine blk_alloc ?_ _ )); exact BK629.out), (by (with_reducible repeat (first | refine blk_drewN ?_ _ | refine blk_drew ?_ | refine blk_alloc ?_ _ )); exact BK647.out), GW647.out, GE647.out, NB629_647.out, NB647_629.out, (by repeat ((with_reducible exact HB.out)))⟩)
              · skip
                rintro ⟨v635, v638, gb647⟩ w20 ⟨hS_, h0_, h1_, h2_, h3_, h4_, h5_, h6_, h7_⟩
                have n0_ : Aside0 (Kd.R k41 41 w20 w.heap.size (fun _ => True) v638 y637) := ⟨h0_⟩
                have n1_ : Aside0 (w20.heap[gb629]? = some (.cells #[.string a0_0, .slice A0_1 l0_1.length c0_1] 44 (0, 0))) := ⟨h1_⟩
                have n2_ : Aside0 (w20.heap[gb647]? = some (.cells #[.string (⟨#[]⟩ : ByteArray), .slice none 0 0] 44 (0, 0))) := ⟨h2_⟩
                have n3_ : Aside0 (w.heap.size ≤ gb647) := ⟨h3_⟩
                have n4_ : Aside0 (w.heap.size ≤ gb647) := ⟨h4_⟩
                have n5_ : Aside0 (gb629 ≠ gb647) := ⟨h5_⟩
                have n6_ : Aside0 (gb647 ≠ gb629) := ⟨h6_⟩
                have n7_ : Aside0 (Below w.heap.size w w20) := ⟨h7_⟩
                clear BK629
                clear HB
                clear h0_ h1_ h2_ h3_ h4_ h5_ h6_ h7_
                have HO639 := n0_
                have BK629 := n1_
                have BK647 := n2_
                have GW647 := n3_
                have GE647 := n4_
                have NB629_647 := n5_
                have NB647_629 := n6_
                have HB := n7_
                clear n0_ n1_ n2_ n3_ n4_ n5_ n6_ n7_
                have hHeld : w20.cell? ⟨gb629, 0, none⟩ = some (.string a0_0) ∧ w20.cell? ⟨gb629, 1, none⟩ = some (.slice A0_1 l0_1.length c0_1) := hS_
                refine norm_ (a' := ?_) ?_ ?_
                rotate_left
                · simp only [putAll, Act.put, List.setIfInBounds_toArray, List.set_cons_zero, List.set_cons_succ]
                  rfl
                refine one_ (i := 10) (N := some 31) #[true, true, true, true, true, true, true, true, true, true, true, false, false, true, false] rfl rfl (one_of HT_.out (by kernel_rfl)) (by decide) (fun K hK => ?_)
                refine Kd.R_lit_step k41 _ 41 ?hg (N := 31) ?hd (xs := ([(⟨(⟨#[99, 111, 110, 116, 101, 110, 116, 45, 108, 101, 110, 103, 116, 104]⟩ : ByteArray), t640⟩ : S41)] : List (S41))) (inner := [.string (⟨#[99, 111, 110, 116, 101, 110, 116, 45, 108, 101, 110, 103, 116, 104]⟩ : ByteArray), .string t640]) (ok := fun _ => True) (okp := fun _ => True) ?hr ?hp (fun _ hk => hk) trivial (Below.refl _ _) (Nat.le_refl _) (by simp) ?_; (case hd => rfl); (case hg => rfl); (case hr => (go_simp; done)); (case hp => exact (Reps.c2 (show Kd.M k41 _ _ _ (⟨(⟨#[99, 111, 110, 116, 101, 110, 116, 45, 108, 101, 110, 103, 116, 104]⟩ : ByteArray), t640⟩ : S41) [.string (⟨#[99, 111, 110, 116, 101, 110, 116, 45, 108, 101, 110, 103, 116, 104]⟩ : ByteArray), .string t640] from (k41_mkM _ _ _ (⟨(⟨#[99, 111, 110, 116, 101, 110, 116, 45, 108, 101, 110, 103, 116, 104]⟩ : ByteArray), t640⟩ : S41) )) (Reps.none _ _)))
                intro v642 w21 ho22 hb hg_ hnew_
                clear hg_ hnew_
                (rw [← Ny641.out] at ho22)
                have n0_ := Aside0.mk (Kd.R_elder' (by (with_reducible repeat (first | apply Kd.R_alloc | apply Kd.R_drewN | apply Kd.R_drew )); exact HO639.out) (Kd.R_base ho22) hb)
                have n1_ := Aside0.mk (Kd.R_lower (Kd.R_new' ho22 (Kd.R_lt (by (with_reducible repeat (first | apply Kd.R_alloc | apply Kd.R_drewN | apply Kd.R_drew )); exact HO639.out))) (below_size (by repeat ((with_reducible exact HB.out)))))
                have n2_ := Aside0.mk (blk_below (g := gb629) (o := .cells #[.string a0_0, .slice A0_1 l0_1.length c0_1] 44 (0, 0)) (by (with_reducible repeat (first | refine blk_drewN ?_ _ | refine blk_drew ?_ | refine blk_alloc ?_ _ )); exact BK629.out) hb)
                have n3_ := Aside0.mk (blk_below (g := gb647) (o := .cells #[.string (⟨#[]⟩ : ByteArray), .slice none 0 0] 44 (0, 0)) (by (with_reducible repeat (first | refine blk_drewN ?_ _ | refine blk_drew ?_ | refine blk_alloc ?_ _ )); exact BK647.out) hb)
                have n4_ := Aside0.mk (below_step (by repeat ((with_reducible exact HB.out))) hb)
                clear HO639
                clear BK629
                clear BK647
                clear HB
                have HO639 := n0_
                have HO643 := n1_
                have BK629 := n2_
                have BK647 := n3_
                have HB := n4_
                clear n0_ n1_ n2_ n3_ n4_
                clear hb ho22
                refine hK.out _ _ ⟨(blk_cell BK629.out 0).trans rfl, (blk_cell BK629.out 1).trans rfl⟩ (fun hHeld => ?_)
                clear hK K
                refine norm_ (a' := ?_) ?_ ?_
                rotate_left
                · show Act.put _ (some 31) _ = _
                  simp only [Act.put, List.setIfInBounds_toArray, List.set_cons_zero, List.set_cons_succ, i64_w, i32_w]
                  rfl
                exact norm_ (by (simp only [putAll, Act.put, List.setIfInBounds_toArray, List.set_cons_zero, List.set_cons_succ]; done)) (hJ2_5_8_10_13 (v635, v638, v642, gb647) _ ⟨hHeld, (by (with_reducible repeat (first | apply Kd.R_alloc | apply Kd.R_drewN | apply Kd.R_drew )); exact Kd.R_mono HO639.out (fun _ hk => hk.2)), (by (with_reducible repeat (first | apply Kd.R_alloc | apply Kd.R_drewN | apply Kd.R_drew )); exact Kd.R_mono HO643.out (fun _ hk => hk.2)), (by (with_reducible repeat (first | refine blk_drewN ?_ _ | refine blk_drew ?_ | refine blk_alloc ?_ _ )); exact BK629.out), (by (with_reducible repeat (first | refine blk_drewN ?_ _ | refine blk_drew ?_ | refine blk_alloc ?_ _ )); exact BK647.out), GW647.out, GE647.out, NB629_647.out, NB647_629.out, (by repeat ((with_reducible exact HB.out)))⟩)
            · skip
              rintro ⟨v635, v638, v642⟩ w21 ⟨hS_, h0_, h1_, h2_, h3_⟩
              have n0_ : Aside0 (Kd.R k41 41 w21 w.heap.size (fun k_ => some k_ ≠ (v642 : Value).ownBlock) v638 y637) := ⟨h0_⟩
              have n1_ : Aside0 (Kd.R k41 41 w21 w.heap.size (fun k_ => some k_ ≠ (v638 : Value).ownBlock) v642 y641) := ⟨h1_⟩
              have n2_ : Aside0 (w21.heap[gb629]? = some (.cells #[.string a0_0, .slice A0_1 l0_1.length c0_1] 44 (0, 0))) := ⟨h2_⟩
              have n3_ : Aside0 (Below w.heap.size w w21) := ⟨h3_⟩
              clear BK629
              clear HB
              clear h0_ h1_ h2_ h3_
              have HO639 := n0_
              have HO643 := n1_
              have BK629 := n2_
              have HB := n3_
              clear n0_ n1_ n2_ n3_
              have hHeld : w21.cell? ⟨gb629, 0, none⟩ = some (.string a0_0) ∧ w21.cell? ⟨gb629, 1, none⟩ = some (.slice A0_1 l0_1.length c0_1) := hS_
              obtain ⟨Ao23, co23, eo23⟩ := Kd.R_slice HO643.out
              (subst eo23)
              refine norm_ (a' := ?_) ?_ ?_
              rotate_left
              · simp only [putAll, Act.put, List.setIfInBounds_toArray, List.set_cons_zero, List.set_cons_succ]
                rfl
              refine two_ (i := 11) (j := 13) (Ni := some 32) (Nj := some 10) #[true, true, true, true, true, true, true, true, true, true, true, true, false, false, false] #[true, true, true, true, true, true, true, true, true, true, true, false, false, true, false] rfl rfl rfl rfl (two_of HT_.out (by kernel_rfl)) (by decide) (by decide) (fun K hK => ?_) (fun K hK => ?_)
              · skip
                refine Kd.R_append_rows_step k41 (w0 := w) w.heap.size (by rfl) (.tmp 26) (.tmp 31) 42 41 (.agg #[(.string ⟨#[]⟩), (.string ⟨#[]⟩)]) 32 rfl Tryd.underlying42 info41 rfl (by decide) (by omega) v638 y637 y641 _ _ _ (fun k_ => some k_ ≠ (.slice Ao23 y641.length co23 : Value).ownBlock) (fun _ => False) rfl rfl ?aO ?aR (fun _ _ h => h) (fun _ h => h.elim) ?aF ?aB ?aS ?aL ?_
                (case aR => repeat (exact (Kd.R_reads' HO643.out).2.2))
                (case aB => exact (by repeat ((with_reducible exact HB.out))))
                (case aF => exact (fun k_ hk => Kd.fresh' (Kd.R_lt (by (with_reducible repeat (first | apply Kd.R_alloc | apply Kd.R_drewN | apply Kd.R_drew )); exact HO643.out)) k_ hk))
                (case aO => exact (by (with_reducible repeat (first | apply Kd.R_alloc | apply Kd.R_drewN | apply Kd.R_drew )); exact HO639.out))
                (case aS => exact (below_size (by repeat ((with_reducible exact HB.out)))))
                (case aL => have := LMc7.out; omega)
                intro v645 w22 ho hb hg hat
                rw [← Ny644.out] at ho
                have n0_ := Aside0.mk (blk_grown (g := gb629) (o := .cells #[.string a0_0, .slice A0_1 l0_1.length c0_1] 44 (0, 0)) (by (with_reducible repeat (first | refine blk_drewN ?_ _ | refine blk_drew ?_ | refine blk_alloc ?_ _ )); exact BK629.out) hg (Kd.R_ne HO639.out BK629.out (by decide)))
                have n1_ := Aside0.mk (Kd.R_after (ok := (fun _ => True)) (by (with_reducible repeat (first | apply Kd.R_alloc | apply Kd.R_drewN | apply Kd.R_drew )); exact Kd.R_mono HO643.out (fun _ hk => ⟨trivial, hk⟩)) hg hat)
                have n2_ := Aside0.mk (hb)
                have n3_ := Aside0.mk (ho)
                clear BK629
                clear HO643
                clear HB
                clear HO639
                have BK629 := n0_
                have HO643 := n1_
                have HB := n2_
                have HO646 := n3_
                clear n0_ n1_ n2_ n3_
                clear ho hb hg hat
                obtain ⟨Ao24, co24, eo24⟩ := Kd.R_slice HO646.out
                (subst eo24)
                refine hK.out _ _ ⟨(blk_cell BK629.out 0).trans rfl, (blk_cell BK629.out 1).trans rfl⟩ (fun hHeld => ?_)
                clear hK K
                refine norm_ (a' := ?_) ?_ ?_
                rotate_left
                · show Act.put _ (some 32) _ = _
                  simp only [Act.put, List.setIfInBounds_toArray, List.set_cons_zero, List.set_cons_succ, i64_w, i32_w]
                  rfl
                refine pure_ (i := 12) (N := some 33) (v := ?_) (a' := ?_) #[true, true, true, true, true, true, true, true, true, true, true, true, true, false, false] rfl rfl (any_of HT_.out (by kernel_rfl)) (fun _ _ _ h => h) (Or.inl ⟨by rfl, ?_⟩) ?_ ?_
                rotate_left
                · intro w'
                  go_simp
                  with_reducible rfl
                rotate_left
                · simp only [Act.put, List.setIfInBounds_toArray, List.set_cons_zero, List.set_cons_succ, i64_w, i32_w]
                  rfl
                exact norm_ (by (simp only [putAll, Act.put, List.setIfInBounds_toArray, List.set_cons_zero, List.set_cons_succ]; done)) (hJ2_5_8_10_11 (v635, v638, .slice Ao23 y641.length co23, .slice Ao24 y644.length co24) _ ⟨hHeld, (by (with_reducible repeat (first | apply Kd.R_alloc | apply Kd.R_drewN | apply Kd.R_drew )); exact Kd.R_mono HO643.out (fun _ hk => hk.2)), (by (with_reducible repeat (first | apply Kd.R_alloc | apply Kd.R_drewN | apply Kd.R_drew )); exact HO646.out), (by (with_reducible repeat (first | refine blk_drewN ?_ _ | refine blk_drew ?_ | refine blk_alloc ?_ _ )); exact BK629.out), (by repeat ((with_reducible exact HB.out)))⟩)
              · skip
                refine box_step ?hg (N := 10) ?hd (cs := #[.string (⟨#[]⟩ : ByteArray), .slice none 0 0]) (t := 44) ?hr ?_; (case hd => rfl); (case hg => rfl); (case hr => (go_simp; done))
                intro gb647 hg w22 hbox hb
                have n0_ := Aside0.mk (Kd.R_below (by (with_reducible repeat (first | apply Kd.R_alloc | apply Kd.R_drewN | apply Kd.R_drew )); exact HO639.out) hb)
                have n1_ := Aside0.mk (Kd.R_below (by (with_reducible repeat (first | apply Kd.R_alloc | apply Kd.R_drewN | apply Kd.R_drew )); exact HO643.out) hb)
                have n2_ := Aside0.mk (blk_below (g := gb629) (o := .cells #[.string a0_0, .slice A0_1 l0_1.length c0_1] 44 (0, 0)) (by (with_reducible repeat (first | refine blk_drewN ?_ _ | refine blk_drew ?_ | refine blk_alloc ?_ _ )); exact BK629.out) hb)
                have n3_ := Aside0.mk (below_step (by repeat ((with_reducible exact HB.out))) hb)
                have n4_ := Aside0.mk (hbox)
                have n5_ := Aside0.mk ((by rw [hg]; exact (below_size (by repeat ((with_reducible exact HB.out)))) : w.heap.size ≤ gb647))
                have n6_ := Aside0.mk ((by rw [hg]; exact (below_size (by repeat ((with_reducible exact HB.out)))) : w.heap.size ≤ gb647))
                have n7_ := Aside0.mk ((by rw [hg]; exact Nat.ne_of_lt (blk_lt (g := gb629) (o := .cells #[.string a0_0, .slice A0_1 l0_1.length c0_1] 44 (0, 0)) (by (with_reducible repeat (first | refine blk_drewN ?_ _ | refine blk_drew ?_ | refine blk_alloc ?_ _ )); exact BK629.out)) : gb629 ≠ gb647))
                have n8_ := Aside0.mk ((by rw [hg]; exact Nat.ne_of_gt (blk_lt (g := gb629) (o := .cells #[.string a0_0, .slice A0_1 l0_1.length c0_1] 44 (0, 0)) (by (with_reducible repeat (first | refine blk_drewN ?_ _ | refine blk_drew ?_ | refine blk_alloc ?_ _ )); exact BK629.out)) : gb647 ≠ gb629))
                clear HO639
                clear HO643
                clear BK629
                clear HB
                have HO639 := n0_
                have HO643 := n1_
                have BK629 := n2_
                have HB := n3_
                have BK647 := n4_
                have GW647 := n5_
                have GE647 := n6_
                have NB629_647 := n7_
                have NB647_629 := n8_
                clear n0_ n1_ n2_ n3_ n4_ n5_ n6_ n7_ n8_
                clear hb hbox hg
                refine hK.out _ _ ⟨(blk_cell BK629.out 0).trans rfl, (blk_cell BK629.out 1).trans rfl⟩ (fun hHeld => ?_)
                clear hK K
                refine norm_ (a' := ?_) ?_ ?_
                rotate_left
                · show Act.put _ (some 10) _ = _
                  simp only [Act.put, List.setIfInBounds_toArray, List.set_cons_zero, List.set_cons_succ, i64_w, i32_w]
                  rfl
                exact norm_ (by (simp only [putAll, Act.put, List.setIfInBounds_toArray, List.set_cons_zero, List.set_cons_succ]; done)) (hJ2_5_8_10_13 (v635, v638, .slice Ao23 y641.length co23, gb647) _ ⟨hHeld, (by (with_reducible repeat (first | apply Kd.R_alloc | apply Kd.R_drewN | apply Kd.R_drew )); exact HO639.out), (by (with_reducible repeat (first | apply Kd.R_alloc | apply Kd.R_drewN | apply Kd.R_drew )); exact HO643.out), (by (with_reducible repeat (first | refine blk_drewN ?_ _ | refine blk_drew ?_ | refine blk_alloc ?_ _ )); exact BK629.out), (by (with_reducible repeat (first | refine blk_drewN ?_ _ | refine blk_drew ?_ | refine blk_alloc ?_ _ )); exact BK647.out), GW647.out, GE647.out, NB629_647.out, NB647_629.out, (by repeat ((with_reducible exact HB.out)))⟩)
          · skip
            rintro ⟨v635, v638, v642, gb647⟩ w22 ⟨hS_, h0_, h1_, h2_, h3_, h4_, h5_, h6_, h7_, h8_⟩
            have n0_ : Aside0 (Kd.R k41 41 w22 w.heap.size (fun k_ => some k_ ≠ (v642 : Value).ownBlock) v638 y637) := ⟨h0_⟩
            have n1_ : Aside0 (Kd.R k41 41 w22 w.heap.size (fun k_ => some k_ ≠ (v638 : Value).ownBlock) v642 y641) := ⟨h1_⟩
            have n2_ : Aside0 (w22.heap[gb629]? = some (.cells #[.string a0_0, .slice A0_1 l0_1.length c0_1] 44 (0, 0))) := ⟨h2_⟩
            have n3_ : Aside0 (w22.heap[gb647]? = some (.cells #[.string (⟨#[]⟩ : ByteArray), .slice none 0 0] 44 (0, 0))) := ⟨h3_⟩
            have n4_ : Aside0 (w.heap.size ≤ gb647) := ⟨h4_⟩
            have n5_ : Aside0 (w.heap.size ≤ gb647) := ⟨h5_⟩
            have n6_ : Aside0 (gb629 ≠ gb647) := ⟨h6_⟩
            have n7_ : Aside0 (gb647 ≠ gb629) := ⟨h7_⟩
            have n8_ : Aside0 (Below w.heap.size w w22) := ⟨h8_⟩
            clear BK629
            clear HB
            clear h0_ h1_ h2_ h3_ h4_ h5_ h6_ h7_ h8_
            have HO639 := n0_
            have HO643 := n1_
            have BK629 := n2_
            have BK647 := n3_
            have GW647 := n4_
            have GE647 := n5_
            have NB629_647 := n6_
            have NB647_629 := n7_
            have HB := n8_
            clear n0_ n1_ n2_ n3_ n4_ n5_ n6_ n7_ n8_
            have hHeld : w22.cell? ⟨gb629, 0, none⟩ = some (.string a0_0) ∧ w22.cell? ⟨gb629, 1, none⟩ = some (.slice A0_1 l0_1.length c0_1) := hS_
            obtain ⟨Ao24, co24, eo24⟩ := Kd.R_slice HO643.out
            (subst eo24)
            refine norm_ (a' := ?_) ?_ ?_
            rotate_left
            · simp only [putAll, Act.put, List.setIfInBounds_toArray, List.set_cons_zero, List.set_cons_succ]
              rfl
            refine one_ (i := 11) (N := some 32) #[true, true, true, true, true, true, true, true, true, true, true, true, false, true, false] rfl rfl (one_of HT_.out (by kernel_rfl)) (by decide) (fun K hK => ?_)
            refine Kd.R_append_rows_step k41 (w0 := w) w.heap.size (by rfl) (.tmp 26) (.tmp 31) 42 41 (.agg #[(.string ⟨#[]⟩), (.string ⟨#[]⟩)]) 32 rfl Tryd.underlying42 info41 rfl (by decide) (by omega) v638 y637 y641 _ _ _ (fun k_ => some k_ ≠ (.slice Ao24 y641.length co24 : Value).ownBlock) (fun _ => False) rfl rfl ?aO ?aR (fun _ _ h => h) (fun _ h => h.elim) ?aF ?aB ?aS ?aL ?_
            (case aR => repeat (exact (Kd.R_reads' HO643.out).2.2))
            (case aB => exact (by repeat ((with_reducible exact HB.out))))
            (case aF => exact (fun k_ hk => Kd.fresh' (Kd.R_lt (by (with_reducible repeat (first | apply Kd.R_alloc | apply Kd.R_drewN | apply Kd.R_drew )); exact HO643.out)) k_ hk))
            (case aO => exact (by (with_reducible repeat (first | apply Kd.R_alloc | apply Kd.R_drewN | apply Kd.R_drew )); exact HO639.out))
            (case aS => exact (below_size (by repeat ((with_reducible exact HB.out)))))
            (case aL => have := LMc7.out; omega)
            intro v645 w23 ho hb hg hat
            rw [← Ny644.out] at ho
            have n0_ := Aside0.mk (blk_grown (g := gb629) (o := .cells #[.string a0_0, .slice A0_1 l0_1.length c0_1] 44 (0, 0)) (by (with_reducible repeat (first | refine blk_drewN ?_ _ | refine blk_drew ?_ | refine blk_alloc ?_ _ )); exact BK629.out) hg (Kd.R_ne HO639.out BK629.out (by decide)))
            have n1_ := Aside0.mk (Kd.R_after (ok := (fun _ => True)) (by (with_reducible repeat (first | apply Kd.R_alloc | apply Kd.R_drewN | apply Kd.R_drew )); exact Kd.R_mono HO643.out (fun _ hk => ⟨trivial, hk⟩)) hg hat)
            have n2_ := Aside0.mk (blk_grown (g := gb647) (o := .cells #[.string (⟨#[]⟩ : ByteArray), .slice none 0 0] 44 (0, 0)) (by (with_reducible repeat (first | refine blk_drewN ?_ _ | refine blk_drew ?_ | refine blk_alloc ?_ _ )); exact BK647.out) hg (Kd.R_ne HO639.out BK647.out (by decide)))
            have n3_ := Aside0.mk (hb)
            have n4_ := Aside0.mk (ho)
            clear BK629
            clear HO643
            clear BK647
            clear HB
            clear HO639
            have BK629 := n0_
            have HO643 := n1_
            have BK647 := n2_
            have HB := n3_
            have HO646 := n4_
            clear n0_ n1_ n2_ n3_ n4_
            clear ho hb hg hat
            obtain ⟨Ao25, co25, eo25⟩ := Kd.R_slice HO646.out
            (subst eo25)
            refine hK.out _ _ ⟨(blk_cell BK629.out 0).trans rfl, (blk_cell BK629.out 1).trans rfl⟩ (fun hHeld => ?_)
            clear hK K
            refine norm_ (a' := ?_) ?_ ?_
            rotate_left
            · show Act.put _ (some 32) _ = _
              simp only [Act.put, List.setIfInBounds_toArray, List.set_cons_zero, List.set_cons_succ, i64_w, i32_w]
              rfl
            refine pure_ (i := 12) (N := some 33) (v := ?_) (a' := ?_) #[true, true, true, true, true, true, true, true, true, true, true, true, true, true, false] rfl rfl (any_of HT_.out (by kernel_rfl)) (fun _ _ _ h => h) (Or.inl ⟨by rfl, ?_⟩) ?_ ?_
            rotate_left
            · intro w'
              go_simp
              with_reducible rfl
            rotate_left
            · simp only [Act.put, List.setIfInBounds_toArray, List.set_cons_zero, List.set_cons_succ, i64_w, i32_w]
              rfl
            exact norm_ (by (simp only [putAll, Act.put, List.setIfInBounds_toArray, List.set_cons_zero, List.set_cons_succ]; done)) (hJ2_5_8_10_11_13 (v635, v638, .slice Ao24 y641.length co24, .slice Ao25 y644.length co25, gb647) _ ⟨hHeld, (by (with_reducible repeat (first | apply Kd.R_alloc | apply Kd.R_drewN | apply Kd.R_drew )); exact Kd.R_mono HO643.out (fun _ hk => hk.2)), (by (with_reducible repeat (first | apply Kd.R_alloc | apply Kd.R_drewN | apply Kd.R_drew )); exact HO646.out), (by (with_reducible repeat (first | refine blk_drewN ?_ _ | refine blk_drew ?_ | refine blk_alloc ?_ _ )); exact BK629.out), (by (with_reducible repeat (first | refine blk_drewN ?_ _ | refine blk_drew ?_ | refine blk_alloc ?_ _ )); exact BK647.out), GW647.out, GE647.out, NB629_647.out, NB647_629.out, (by repeat ((with_reducible exact HB.out)))⟩)
        · skip
          rintro ⟨v635, v638, v642, v645⟩ w24 ⟨hS_, h0_, h1_, h2_, h3_⟩
          have n0_ : Aside0 (Kd.R k41 41 w24 w.heap.size (fun k_ => some k_ ≠ (v645 : Value).ownBlock) v642 y641) := ⟨h0_⟩
          have n1_ : Aside0 (Kd.R k41 41 w24 w.heap.size (fun k_ => some k_ ≠ (v642 : Value).ownBlock) v645 y644) := ⟨h1_⟩
          have n2_ : Aside0 (w24.heap[gb629]? = some (.cells #[.string a0_0, .slice A0_1 l0_1.length c0_1] 44 (0, 0))) := ⟨h2_⟩
          have n3_ : Aside0 (Below w.heap.size w w24) := ⟨h3_⟩
          clear BK629
          clear HB
          clear h0_ h1_ h2_ h3_
          have HO643 := n0_
          have HO646 := n1_
          have BK629 := n2_
          have HB := n3_
          clear n0_ n1_ n2_ n3_
          have hHeld : w24.cell? ⟨gb629, 0, none⟩ = some (.string a0_0) ∧ w24.cell? ⟨gb629, 1, none⟩ = some (.slice A0_1 l0_1.length c0_1) := hS_
          obtain ⟨Ao25, co25, eo25⟩ := Kd.R_slice HO646.out
          (subst eo25)
          refine norm_ (a' := ?_) ?_ ?_
          rotate_left
          · simp only [putAll, Act.put, List.setIfInBounds_toArray, List.set_cons_zero, List.set_cons_succ]
            rfl
          refine one_ (i := 13) (N := some 10) #[true, true, true, true, true, true, true, true, true, true, true, true, true, true, false] rfl rfl (one_of HT_.out (by kernel_rfl)) (by decide) (fun K hK => ?_)
          refine box_step ?hg (N := 10) ?hd (cs := #[.string (⟨#[]⟩ : ByteArray), .slice none 0 0]) (t := 44) ?hr ?_; (case hd => rfl); (case hg => rfl); (case hr => (go_simp; done))
          intro gb647 hg w26 hbox hb
          have n0_ := Aside0.mk (Kd.R_below (by (with_reducible repeat (first | apply Kd.R_alloc | apply Kd.R_drewN | apply Kd.R_drew )); exact HO643.out) hb)
          have n1_ := Aside0.mk (Kd.R_below (by (with_reducible repeat (first | apply Kd.R_alloc | apply Kd.R_drewN | apply Kd.R_drew )); exact HO646.out) hb)
          have n2_ := Aside0.mk (blk_below (g := gb629) (o := .cells #[.string a0_0, .slice A0_1 l0_1.length c0_1] 44 (0, 0)) (by (with_reducible repeat (first | refine blk_drewN ?_ _ | refine blk_drew ?_ | refine blk_alloc ?_ _ )); exact BK629.out) hb)
          have n3_ := Aside0.mk (below_step (by repeat ((with_reducible exact HB.out))) hb)
          have n4_ := Aside0.mk (hbox)
          have n5_ := Aside0.mk ((by rw [hg]; exact (below_size (by repeat ((with_reducible exact HB.out)))) : w.heap.size ≤ gb647))
          have n6_ := Aside0.mk ((by rw [hg]; exact (below_size (by repeat ((with_reducible exact HB.out)))) : w.heap.size ≤ gb647))
          have n7_ := Aside0.mk ((by rw [hg]; exact Nat.ne_of_lt (blk_lt (g := gb629) (o := .cells #[.string a0_0, .slice A0_1 l0_1.length c0_1] 44 (0, 0)) (by (with_reducible repeat (first | refine blk_drewN ?_ _ | refine blk_drew ?_ | refine blk_alloc ?_ _ )); exact BK629.out)) : gb629 ≠ gb647))
          have n8_ := Aside0.mk ((by rw [hg]; exact Nat.ne_of_gt (blk_lt (g := gb629) (o := .cells #[.string a0_0, .slice A0_1 l0_1.length c0_1] 44 (0, 0)) (by (with_reducible repeat (first | refine blk_drewN ?_ _ | refine blk_drew ?_ | refine blk_alloc ?_ _ )); exact BK629.out)) : gb647 ≠ gb629))
          clear HO643
          clear HO646
          clear BK629
          clear HB
          have HO643 := n0_
          have HO646 := n1_
          have BK629 := n2_
          have HB := n3_
          have BK647 := n4_
          have GW647 := n5_
          have GE647 := n6_
          have NB629_647 := n7_
          have NB647_629 := n8_
          clear n0_ n1_ n2_ n3_ n4_ n5_ n6_ n7_ n8_
          clear hb hbox hg
          refine hK.out _ _ ⟨(blk_cell BK629.out 0).trans rfl, (blk_cell BK629.out 1).trans rfl⟩ (fun hHeld => ?_)
          clear hK K
          refine norm_ (a' := ?_) ?_ ?_
          rotate_left
          · show Act.put _ (some 10) _ = _
            simp only [Act.put, List.setIfInBounds_toArray, List.set_cons_zero, List.set_cons_succ, i64_w, i32_w]
            rfl
          exact norm_ (by (simp only [putAll, Act.put, List.setIfInBounds_toArray, List.set_cons_zero, List.set_cons_succ]; done)) (hJ2_5_8_10_11_13 (v635, v638, v642, .slice Ao25 y644.length co25, gb647) _ ⟨hHeld, (by (with_reducible repeat (first | apply Kd.R_alloc | apply Kd.R_drewN | apply Kd.R_drew )); exact HO643.out), (by (with_reducible repeat (first | apply Kd.R_alloc | apply Kd.R_drewN | apply Kd.R_drew )); exact HO646.out), (by (with_reducible repeat (first | refine blk_drewN ?_ _ | refine blk_drew ?_ | refine blk_alloc ?_ _ )); exact BK629.out), (by (with_reducible repeat (first | refine blk_drewN ?_ _ | refine blk_drew ?_ | refine blk_alloc ?_ _ )); exact BK647.out), GW647.out, GE647.out, NB629_647.out, NB647_629.out, (by repeat ((with_reducible exact HB.out)))⟩)
      rintro ⟨v635, v638, v642, v645, gb647⟩ w25 ⟨hS_, h0_, h1_, h2_, h3_, h4_, h5_, h6_, h7_, h8_⟩
      have n0_ : Aside0 (Kd.R k41 41 w25 w.heap.size (fun k_ => some k_ ≠ (v645 : Value).ownBlock) v642 y641) := ⟨h0_⟩
      have n1_ : Aside0 (Kd.R k41 41 w25 w.heap.size (fun k_ => some k_ ≠ (v642 : Value).ownBlock) v645 y644) := ⟨h1_⟩
      have n2_ : Aside0 (w25.heap[gb629]? = some (.cells #[.string a0_0, .slice A0_1 l0_1.length c0_1] 44 (0, 0))) := ⟨h2_⟩
      have n3_ : Aside0 (w25.heap[gb647]? = some (.cells #[.string (⟨#[]⟩ : ByteArray), .slice none 0 0] 44 (0, 0))) := ⟨h3_⟩
      have n4_ : Aside0 (w.heap.size ≤ gb647) := ⟨h4_⟩
      have n5_ : Aside0 (w.heap.size ≤ gb647) := ⟨h5_⟩
      have n6_ : Aside0 (gb629 ≠ gb647) := ⟨h6_⟩
      have n7_ : Aside0 (gb647 ≠ gb629) := ⟨h7_⟩
      have n8_ : Aside0 (Below w.heap.size w w25) := ⟨h8_⟩
      clear BK629
      clear HB
      clear h0_ h1_ h2_ h3_ h4_ h5_ h6_ h7_ h8_
      have HO643 := n0_
      have HO646 := n1_
      have BK629 := n2_
      have BK647 := n3_
      have GW647 := n4_
      have GE647 := n5_
      have NB629_647 := n6_
      have NB647_629 := n7_
      have HB := n8_
      clear n0_ n1_ n2_ n3_ n4_ n5_ n6_ n7_ n8_
      have hHeld : w25.cell? ⟨gb629, 0, none⟩ = some (.string a0_0) ∧ w25.cell? ⟨gb629, 1, none⟩ = some (.slice A0_1 l0_1.length c0_1) := hS_
      obtain ⟨Ao26, co26, eo26⟩ := Kd.R_slice HO646.out
      (subst eo26)
      refine norm_ (a' := ?_) ?_ ?_
      rotate_left
      · simp only [putAll, Act.put, List.setIfInBounds_toArray, List.set_cons_zero, List.set_cons_succ]
        rfl
      refine one_ (i := 14) (N := none) #[true, true, true, true, true, true, true, true, true, true, true, true, true, true, true] rfl rfl (one_of HT_.out (by kernel_rfl)) (by decide) (fun K hK => ?_)
      have hs27 : w25.cell? ⟨gb647, 0, none⟩ = some (.string (⟨#[]⟩ : ByteArray)) := (blk_cell BK647.out 0).trans rfl
      have hfs27 := blk_frozen BK647.out 0
      have hns27_0 := NB629_647.out
      have hms27_0 := NB647_629.out
      have hs28 : w25.cell? ⟨gb647, 1, none⟩ = some (.slice none 0 0) := (blk_cell BK647.out 1).trans rfl
      have hfs28 := blk_frozen BK647.out 1
      have hns28_0 := NB629_647.out
      have hms28_0 := NB647_629.out
      refine skip_ (w1 := ?_) (by rfl) rfl ?_ ?_
      rotate_left
      · go_simp
        rfl
      refine hK.out _ _ ⟨((cell_far (p := ⟨gb647, _, none⟩) NB629_647.out _).trans (((cell_far (p := ⟨gb647, _, none⟩) NB629_647.out _).trans (hHeld.1)))), ((cell_far (p := ⟨gb647, _, none⟩) NB629_647.out _).trans (((cell_far (p := ⟨gb647, _, none⟩) NB629_647.out _).trans (hHeld.2))))⟩ (fun hHeld => ?_)
      clear hK K
      refine done_ (done_of HT_.out (by kernel_rfl)) ?_
      go_upto_region 4 with (fail)
      have H := HS8.out
      clear HS8
      by_cases c29 : t631 = true
      · subst c29
        have H1 : (some ((⟨#[]⟩ : ByteArray), false)) = some (r1, r2) := by rw [if_pos rfl] at H; exact H
        clear H
        have H := H1
        clear H1
        simp only [Option.some.injEq, Prod.mk.injEq] at H
        obtain ⟨rfl, rfl⟩ := H
        go_wp2
        go_ret2
        exact ⟨by rfl, by repeat ((with_reducible first | exact HB.out | refine below_set ?_ GE647.out))⟩
      · replace c29 := Bool.eq_false_iff.mpr c29
        subst c29
        have H1 : (if t633 = true then (some ((⟨#[]⟩ : ByteArray), false)) else (if (a1.size : Int) > 400 then (some ((⟨#[]⟩ : ByteArray), false)) else ((spec_HeadOk.f k a0_0 y644).bind fun t648 => (if t648 = true then ((spec_l09Text.f k a0_0 y644).bind fun t649 => (if t649.size + a1.size ≤ 9223372036854775807 then (some (t649 ++ a1, true)) else (none))) else (some ((⟨#[]⟩ : ByteArray), false)))))) = some (r1, r2) := by rw [if_neg (show ¬ (false = true) by decide)] at H; exact H
        clear H
        have H := H1
        clear H1
        by_cases c30 : t633 = true
        · subst c30
          have H1 : (some ((⟨#[]⟩ : ByteArray), false)) = some (r1, r2) := by rw [if_pos rfl] at H; exact H
          clear H
          have H := H1
          clear H1
          simp only [Option.some.injEq, Prod.mk.injEq] at H
          obtain ⟨rfl, rfl⟩ := H
          go_wp2
          go_ret2
          exact ⟨by rfl, by repeat ((with_reducible first | exact HB.out | refine below_set ?_ GE647.out))⟩
        · replace c30 := Bool.eq_false_iff.mpr c30
          subst c30
          have H1 : (if (a1.size : Int) > 400 then (some ((⟨#[]⟩ : ByteArray), false)) else ((spec_HeadOk.f k a0_0 y644).bind fun t648 => (if t648 = true then ((spec_l09Text.f k a0_0 y644).bind fun t649 => (if t649.size + a1.size ≤ 9223372036854775807 then (some (t649 ++ a1, true)) else (none))) else (some ((⟨#[]⟩ : ByteArray), false))))) = some (r1, r2) := by rw [if_neg (show ¬ (false = true) by decide)] at H; exact H
          clear H
          have H := H1
          clear H1
          by_cases c31 : (a1.size : Int) > 400
          · rw [if_pos c31] at H
            have c31b0 : decide (400 < (a1.size : Int)) = true := decide_eq_true c31
            have c31b1 : decide (400 < a1.size) = true := decide_eq_true (by omega)
            clear c31
            simp only [Option.some.injEq, Prod.mk.injEq] at H
            obtain ⟨rfl, rfl⟩ := H
            go_wp2
            go_ret2
            exact ⟨by rfl, by repeat ((with_reducible first | exact HB.out | refine below_set ?_ GE647.out))⟩
          · rw [if_neg c31] at H
            have c31b0 : decide (400 < (a1.size : Int)) = false := decide_eq_false c31
            have c31b1 : decide (400 < a1.size) = false := decide_eq_false (by omega)
            clear c31
            replace H := Option.bind_eq_some_iff.mp H
            obtain ⟨t648, A320, H⟩ := H
            replace H : (if t648 = true then ((spec_l09Text.f k a0_0 y644).bind fun t649 => (if t649.size + a1.size ≤ 9223372036854775807 then (some (t649 ++ a1, true)) else (none))) else (some ((⟨#[]⟩ : ByteArray), false))) = some (r1, r2) := H
            have A32 := Aside0.mk A320
            clear A320
            have HS33 := Aside0.mk H
            clear H
            have hnb34 := NB647_629.out
            have hnc34 := NB629_647.out
            have hcz35_0 : w25.cell? ⟨gb647, 0, none⟩ = some (.string (⟨#[]⟩ : ByteArray)) := (blk_cell BK647.out 0).trans rfl
            have hcz35_1 : w25.cell? ⟨gb647, 1, none⟩ = some (.slice none 0 0) := (blk_cell BK647.out 1).trans rfl
            have hfz35_0 := blk_frozen BK647.out 0
            have hfz35_1 := blk_frozen BK647.out 1
            go_upto_if 47 with ((go_at_call 58; (with_reducible refine (spec_HeadOk.calls k a0_0 _ _ y644 t648 _ ?side1 ?side2 A32.out).mono ?_); (case side1 => refine (Kd.R_reads' (e := 41) (base := w.heap.size) (ok := fun k_ => some k_ ≠ (v642 : Value).ownBlock) (n := y644.length) (c := co26) ?_).2.2; exact (by (with_reducible repeat (first | apply Kd.R_alloc | apply Kd.R_drewN | apply Kd.R_drew )); exact (Kd.R_mono (Kd.R_far (p := ⟨gb647, 1, none⟩) (Kd.R_far (p := ⟨gb647, 0, none⟩) (Kd.R_types HO646.out BK647.out (by decide)) (fun _ hk => hk.2) (.string a0_0)) (fun _ hk => hk.2) (.slice Ao26 y644.length co26)) (fun _ h_ => by exact h_.1)))); (case side2 => exact (Kd.R_reads' HO646.out).2.1); rintro e w36 ⟨rfl, hb⟩; have n0_ := Aside0.mk (Kd.R_below (by (with_reducible repeat (first | apply Kd.R_alloc | apply Kd.R_drewN | apply Kd.R_drew )); exact (Kd.R_mono (Kd.R_far (p := ⟨gb647, 1, none⟩) (Kd.R_far (p := ⟨gb647, 0, none⟩) (Kd.R_types HO643.out BK647.out (by decide)) (fun _ hk => hk.2) (.string a0_0)) (fun _ hk => hk.2) (.slice Ao26 y644.length co26)) (fun _ h_ => by exact h_.1))) hb); have n1_ := Aside0.mk (Kd.R_below (by (with_reducible repeat (first | apply Kd.R_alloc | apply Kd.R_drewN | apply Kd.R_drew )); exact (Kd.R_mono (Kd.R_far (p := ⟨gb647, 1, none⟩) (Kd.R_far (p := ⟨gb647, 0, none⟩) (Kd.R_types HO646.out BK647.out (by decide)) (fun _ hk => hk.2) (.string a0_0)) (fun _ hk => hk.2) (.slice Ao26 y644.length co26)) (fun _ h_ => by exact h_.1))) hb); have n2_ := Aside0.mk (blk_below (g := gb629) (o := .cells #[.string a0_0, .slice A0_1 l0_1.length c0_1] 44 (0, 0)) (by (with_reducible repeat (first | refine blk_drewN ?_ _ | refine blk_drew ?_ | refine blk_alloc ?_ _ )); refine blk_far ?_ NB629_647.out _; (with_reducible repeat (first | refine blk_drewN ?_ _ | refine blk_drew ?_ | refine blk_alloc ?_ _ )); refine blk_far ?_ NB629_647.out _; (with_reducible repeat (first | refine blk_drewN ?_ _ | refine blk_drew ?_ | refine blk_alloc ?_ _ )); exact BK629.out) hb); have n3_ := Aside0.mk (blk_below (g := gb647) (o := .cells #[.string a0_0, .slice Ao26 y644.length co26] 44 (0, 0)) (by (with_reducible repeat (first | refine blk_drewN ?_ _ | refine blk_drew ?_ | refine blk_alloc ?_ _ )); refine blk_put (cs := #[.string a0_0, .slice none 0 0]) ?_ 1 _ rfl; (with_reducible repeat (first | refine blk_drewN ?_ _ | refine blk_drew ?_ | refine blk_alloc ?_ _ )); refine blk_put (cs := #[.string (⟨#[]⟩ : ByteArray), .slice none 0 0]) ?_ 0 _ rfl; (with_reducible repeat (first | refine blk_drewN ?_ _ | refine blk_drew ?_ | refine blk_alloc ?_ _ )); exact BK647.out) hb); have n4_ := Aside0.mk (below_step (by repeat ((with_reducible first | exact HB.out | refine below_set ?_ GE647.out))) hb); clear HO643; clear HO646; clear BK629; clear BK647; clear HB; have HO643 := n0_; have HO646 := n1_; have BK629 := n2_; have BK647 := n3_; have HB := n4_; clear n0_ n1_ n2_ n3_ n4_; (try clear hb); (try clear hb2); (try clear hk); (try clear hi)))
            (try simp only [Act.put, List.setIfInBounds_toArray, List.set_cons_zero, List.set_cons_succ])
            have H := HS33.out
            clear HS33
            by_cases c37 : t648 = true
            · subst c37
              have H1 : ((spec_l09Text.f k a0_0 y644).bind fun t649 => (if t649.size + a1.size ≤ 9223372036854775807 then (some (t649 ++ a1, true)) else (none))) = some (r1, r2) := by rw [if_pos rfl] at H; exact H
              clear H
              have H := H1
              clear H1
              replace H := Option.bind_eq_some_iff.mp H
              obtain ⟨t649, A380, H⟩ := H
              replace H : (if t649.size + a1.size ≤ 9223372036854775807 then (some (t649 ++ a1, true)) else (none)) = some (r1, r2) := H
              have A38 := Aside0.mk A380
              clear A380
              by_cases c39 : t649.size + a1.size ≤ 9223372036854775807
              · rw [if_pos c39] at H
                have c39b0 := eq_true c39
                have c39b1 : decide (t649.size + a1.size ≤ 9223372036854775807) = true := decide_eq_true c39
                have c39b2 : (9223372036854775807 < t649.size + a1.size) = False := eq_false (Nat.not_lt.2 c39)
                simp only [Option.some.injEq, Prod.mk.injEq] at H
                obtain ⟨rfl, rfl⟩ := H
                have hnb40 := NB647_629.out
                have hnc40 := NB629_647.out
                have hcz41_0 : w36.cell? ⟨gb647, 0, none⟩ = some (.string a0_0) := (blk_cell BK647.out 0).trans rfl
                have hcz41_1 : w36.cell? ⟨gb647, 1, none⟩ = some (.slice Ao26 y644.length co26) := (blk_cell BK647.out 1).trans rfl
                have hfz41_0 := blk_frozen BK647.out 0
                have hfz41_1 := blk_frozen BK647.out 1
                go_wp2_with (((with_reducible refine gate_callee (f := 59) rfl ?_); refine goesL_ (some 49) rfl rfl Tryd.func59 (by kernel_rfl) rfl #[.agg #[.string a0_0, .slice Ao26 y644.length co26]] rfl (by (try simp only [List.map_toArray, List.map_cons, List.map_nil]); rfl) ?_; (with_reducible refine (spec_l09Text.calls k a0_0 _ _ y644 t649 _ ?side1 ?side2 A38.out).mono ?_); (case side1 => repeat (exact (Kd.R_reads' HO646.out).2.2)); (case side2 => exact (Kd.R_reads' HO646.out).2.1); rintro e w42 ⟨rfl, hb⟩; refine ⟨_, rfl, ?_⟩; have n0_ := Aside0.mk (Kd.R_below (by (with_reducible repeat (first | apply Kd.R_alloc | apply Kd.R_drewN | apply Kd.R_drew )); exact HO643.out) hb); have n1_ := Aside0.mk (Kd.R_below (by (with_reducible repeat (first | apply Kd.R_alloc | apply Kd.R_drewN | apply Kd.R_drew )); exact HO646.out) hb); have n2_ := Aside0.mk (blk_below (g := gb629) (o := .cells #[.string a0_0, .slice A0_1 l0_1.length c0_1] 44 (0, 0)) (by (with_reducible repeat (first | refine blk_drewN ?_ _ | refine blk_drew ?_ | refine blk_alloc ?_ _ )); exact BK629.out) hb); have n3_ := Aside0.mk (blk_below (g := gb647) (o := .cells #[.string a0_0, .slice Ao26 y644.length co26] 44 (0, 0)) (by (with_reducible repeat (first | refine blk_drewN ?_ _ | refine blk_drew ?_ | refine blk_alloc ?_ _ )); exact BK647.out) hb); have n4_ := Aside0.mk (below_step (by repeat ((with_reducible exact HB.out))) hb); clear HO643; clear HO646; clear BK629; clear BK647; clear HB; have HO643 := n0_; have HO646 := n1_; have BK629 := n2_; have BK647 := n3_; have HB := n4_; clear n0_ n1_ n2_ n3_ n4_; (try clear hb); (try clear hb2); (try clear hk); (try clear hi)))
                go_ret2
                exact ⟨by rfl, by repeat ((with_reducible exact HB.out))⟩
              · rw [if_neg c39] at H
                exact absurd H (by simp)
            · replace c37 := Bool.eq_false_iff.mpr c37
              subst c37
              have H1 : (some ((⟨#[]⟩ : ByteArray), false)) = some (r1, r2) := by rw [if_neg (show ¬ (false = true) by decide)] at H; exact H
              clear H
              have H := H1
              clear H1
              simp only [Option.some.injEq, Prod.mk.injEq] at H
              obtain ⟨rfl, rfl⟩ := H
              go_wp2
              go_ret2
              exact ⟨by rfl, by repeat ((with_reducible exact HB.out))⟩
    · rw [if_neg c7] at H
      exact absurd H (by simp)
  · rw [if_neg c5] at H
    exact absurd H (by simp)
def laws_FnAnswers.j0 : Nat → List Int → ByteArray → ByteArray → Int → Bool → ByteArray → List (S41) → Option (Bool)
  | 0, _, _, _, _, _, _, _ => none
  | k + 1, x0, x4, x6, x9, x56, x671000, x671001 => if x56 = true then (none) else (if 0 ≤ x9 then (if x9 ≤ (x6.size : Int) then (if (x6.extract (x9 : Int).toNat x6.size).size + 6 ≤ 9223372036854775807 then ((impl_BodyOf.f k x671000 x671001 ((x6.extract (x9 : Int).toNat x6.size) ++ (⟨#[98, 101, 104, 105, 110, 100]⟩ : ByteArray))).bind fun bt671 => ((laws_flag.f (decide ((x4.size : Int) > 0))).bind fun t674 => (if x9 ≤ (wrap64 ((x6.size : Int) - t674)) then (if (wrap64 ((x6.size : Int) - t674)) ≤ (x6.size : Int) then ((impl_BodyOf.f k x671000 x671001 (x6.extract (x9 : Int).toNat ((wrap64 ((x6.size : Int) - t674)) : Int).toNat)).bind fun bt675 => ((spec_DrawAnswerText.f k x0).bind fun bt678 => ((impl_AnswerText.f k bt678.1 bt678.2.1 bt678.2.2).bind fun bt684 => ((spec_AnswerText.f k bt678.1 bt678.2.1 bt678.2.2).bind fun bt686 => (if bt671.2.2 = 0 then (if bt671.1.toList = x4.toList then (if bt671.2.1 = (x4.size : Int) then (if ((bt675.2.2 == 1) == (decide ((x4.size : Int) > 0))) = true then (if (bt684.2 == bt686.2) = true then (some (bt684.1.toList == bt686.1.toList)) else (none)) else (none)) else (none)) else (none)) else (none)))))) else (none)) else (none)))) else (none)) else (none)) else (none))
def laws_FnAnswers.f (k : Nat) (l0 : List Int) : Option (Bool) := (laws_big.f l0).bind fun t650 => (if t650 = true then (some true) else ((spec_DrawPlaces.f k l0).bind fun t651 => (if 0 < (t651.length : Int) then ((laws_row.f k (Int.tmod (rd t651 0) 401) (⟨#[98]⟩ : ByteArray)).bind fun t655 => (if 1 < (t651.length : Int) then ((spec_Decimal.f k (rd t651 1)).bind fun t657 => ((impl_AnswerText.f k (⟨#[72, 84, 84, 80, 47, 49, 46, 49, 32, 50, 48, 48, 32, 111, 107]⟩ : ByteArray) (([(⟨(⟨#[120]⟩ : ByteArray), t657⟩ : S41)] : List (S41))) t655).bind fun bt662 => ((impl_ReadHead.f k bt662.1).bind fun bt664 => (if bt662.2 = true then (laws_FnAnswers.j0 k l0 t655 bt662.1 bt664.2.2.1 (bt664.2.2.2 != 0) bt664.1 bt664.2.1) else (laws_FnAnswers.j0 k l0 t655 bt662.1 bt664.2.2.1 true bt664.1 bt664.2.1))))) else (none))) else (none))))
def laws_FnAnswers.T10 : Bool × List (List Nat × List Nat) := (true, [([], []), ([], []), ([], []), ([1, 2], [1, 2]), ([3], [3]), ([0, 4], [0, 4]), ([5], [5]), ([6], [6]), ([6], [6]), ([6], [6]), ([7, 5, 0, 1, 2, 3, 4, 5, 6, 7], [7]), ([8, 10, 0, 1, 2, 3, 4, 5, 6, 7, 8, 10], [8]), ([9, 11, 0, 1, 2, 3, 4, 5, 6, 7, 8, 9, 10, 11], [9])])
def laws_FnAnswers.B10 : List Nat := [0, 0, 0, 6, 14, 31, 63, 127, 127, 127, 255, 1535, 4095]
theorem laws_FnAnswers.tab10 : rtab .any (opsOf Tryd.f7 10) = laws_FnAnswers.T10 := by kernel_rfl
theorem laws_FnAnswers.bits10 : waitsOk laws_FnAnswers.T10.2 laws_FnAnswers.B10 = true := by kernel_rfl
def laws_FnAnswers.T11 : Bool × List (List Nat × List Nat) := (true, [([], []), ([], []), ([], []), ([], []), ([3], [3]), ([], []), ([5], [5]), ([6], [6]), ([7], [7]), ([4, 8], [4, 8]), ([1, 2, 9], [1, 2, 9]), ([0, 10, 8], [0, 10]), ([11], [11]), ([12], [12]), ([12], [12]), ([12], [12]), ([13, 11, 0, 1, 2, 3, 4, 5, 6, 7, 8, 9, 10, 11, 12, 13], [13]), ([14, 16, 0, 1, 2, 3, 4, 5, 6, 7, 8, 9, 10, 11, 12, 13, 14, 16], [14]), ([15, 17, 0, 1, 2, 3, 4, 5, 6, 7, 8, 9, 10, 11, 12, 13, 14, 15, 16, 17], [15])])
def laws_FnAnswers.B11 : List Nat := [0, 0, 0, 0, 8, 0, 32, 96, 224, 504, 1022, 2047, 4095, 8191, 8191, 8191, 16383, 98303, 262143]
theorem laws_FnAnswers.tab11 : rtab .any (opsOf Tryd.f7 11) = laws_FnAnswers.T11 := by kernel_rfl
theorem laws_FnAnswers.bits11 : waitsOk laws_FnAnswers.T11.2 laws_FnAnswers.B11 = true := by kernel_rfl
set_option maxHeartbeats 8000000 in
set_option maxRecDepth 100000 in
theorem laws_FnAnswers.calls (k : Nat) (A0 : Option Addr) (c0 : Nat) (l0 : List Int) (r : Bool) (w : World) (hr0 : Kd.C (Kd.int .u8) w A0 l0.length l0) (hc0 : l0.length ≤ c0) (hsh : Shp w) (htb : Tab w) (h : laws_FnAnswers.f k l0 = some r) :
    Calls Tryd.prog 7 #[.slice A0 l0.length c0] w fun e w' => e = .returned (.bool r) ∧ Below w.heap.size w w' := by
  have hu41 := Tryd.underlying41
  have hu44 := Tryd.underlying44
  have HSH := Aside0.mk hsh
  clear hsh
  have HTB := Aside0.mk htb
  clear htb
  have HR0 := Aside0.mk hr0
  have HC0 := Aside0.mk hc0
  clear hr0 hc0
  have HB := Aside0.mk (Below.refl w.heap.size w)
  have H : ((laws_big.f l0).bind fun t650 => (if t650 = true then (some true) else ((spec_DrawPlaces.f k l0).bind fun t651 => (if 0 < (t651.length : Int) then ((laws_row.f k (Int.tmod (rd t651 0) 401) (⟨#[98]⟩ : ByteArray)).bind fun t655 => (if 1 < (t651.length : Int) then ((spec_Decimal.f k (rd t651 1)).bind fun t657 => ((impl_AnswerText.f k (⟨#[72, 84, 84, 80, 47, 49, 46, 49, 32, 50, 48, 48, 32, 111, 107]⟩ : ByteArray) (([(⟨(⟨#[120]⟩ : ByteArray), t657⟩ : S41)] : List (S41))) t655).bind fun bt662 => ((impl_ReadHead.f k bt662.1).bind fun bt664 => (if bt662.2 = true then (laws_FnAnswers.j0 k l0 t655 bt662.1 bt664.2.2.1 (bt664.2.2.2 != 0) bt664.1 bt664.2.1) else (laws_FnAnswers.j0 k l0 t655 bt662.1 bt664.2.2.1 true bt664.1 bt664.2.1))))) else (none))) else (none))))) = some r := h
  clear h
  replace H := Option.bind_eq_some_iff.mp H
  obtain ⟨t650, A20, H⟩ := H
  replace H : (if t650 = true then (some true) else ((spec_DrawPlaces.f k l0).bind fun t651 => (if 0 < (t651.length : Int) then ((laws_row.f k (Int.tmod (rd t651 0) 401) (⟨#[98]⟩ : ByteArray)).bind fun t655 => (if 1 < (t651.length : Int) then ((spec_Decimal.f k (rd t651 1)).bind fun t657 => ((impl_AnswerText.f k (⟨#[72, 84, 84, 80, 47, 49, 46, 49, 32, 50, 48, 48, 32, 111, 107]⟩ : ByteArray) (([(⟨(⟨#[120]⟩ : ByteArray), t657⟩ : S41)] : List (S41))) t655).bind fun bt662 => ((impl_ReadHead.f k bt662.1).bind fun bt664 => (if bt662.2 = true then (laws_FnAnswers.j0 k l0 t655 bt662.1 bt664.2.2.1 (bt664.2.2.2 != 0) bt664.1 bt664.2.1) else (laws_FnAnswers.j0 k l0 t655 bt662.1 bt664.2.2.1 true bt664.1 bt664.2.1))))) else (none))) else (none)))) = some r := H
  have A2 := Aside0.mk A20
  clear A20
  have HS3 := Aside0.mk H
  clear H
  go_enter Tryd.func7, Tryd.ntmps7
  go_upto_if 24 with (((with_reducible refine gate_callee (f := 14) rfl ?_); refine goesL_ (some 24) rfl rfl Tryd.func14 (by kernel_rfl) rfl #[.slice A0 l0.length c0] rfl (by (try simp only [List.map_toArray, List.map_cons, List.map_nil]); rfl) ?_; (with_reducible refine (laws_big.calls _ _ l0 t650 _ ?side1 ?side2 A2.out).mono ?_); (case side1 => repeat (exact HR0.out)); (case side2 => exact HC0.out); rintro e w' ⟨rfl, rfl⟩; refine ⟨_, rfl, ?_⟩))
  (try simp only [Act.put, List.setIfInBounds_toArray, List.set_cons_zero, List.set_cons_succ])
  have H := HS3.out
  clear HS3
  by_cases c4 : t650 = true
  · subst c4
    have H1 : (some true) = some r := by rw [if_pos rfl] at H; exact H
    clear H
    have H := H1
    clear H1
    obtain rfl := Option.some.inj H
    go_wp2
    go_ret
    exact ⟨by rfl, by repeat ((with_reducible exact HB.out))⟩
  · replace c4 := Bool.eq_false_iff.mpr c4
    subst c4
    have H1 : ((spec_DrawPlaces.f k l0).bind fun t651 => (if 0 < (t651.length : Int) then ((laws_row.f k (Int.tmod (rd t651 0) 401) (⟨#[98]⟩ : ByteArray)).bind fun t655 => (if 1 < (t651.length : Int) then ((spec_Decimal.f k (rd t651 1)).bind fun t657 => ((impl_AnswerText.f k (⟨#[72, 84, 84, 80, 47, 49, 46, 49, 32, 50, 48, 48, 32, 111, 107]⟩ : ByteArray) (([(⟨(⟨#[120]⟩ : ByteArray), t657⟩ : S41)] : List (S41))) t655).bind fun bt662 => ((impl_ReadHead.f k bt662.1).bind fun bt664 => (if bt662.2 = true then (laws_FnAnswers.j0 k l0 t655 bt662.1 bt664.2.2.1 (bt664.2.2.2 != 0) bt664.1 bt664.2.1) else (laws_FnAnswers.j0 k l0 t655 bt662.1 bt664.2.2.1 true bt664.1 bt664.2.1))))) else (none))) else (none))) = some r := by rw [if_neg (show ¬ (false = true) by decide)] at H; exact H
    clear H
    have H := H1
    clear H1
    replace H := Option.bind_eq_some_iff.mp H
    obtain ⟨t651, A50, H⟩ := H
    replace H : (if 0 < (t651.length : Int) then ((laws_row.f k (Int.tmod (rd t651 0) 401) (⟨#[98]⟩ : ByteArray)).bind fun t655 => (if 1 < (t651.length : Int) then ((spec_Decimal.f k (rd t651 1)).bind fun t657 => ((impl_AnswerText.f k (⟨#[72, 84, 84, 80, 47, 49, 46, 49, 32, 50, 48, 48, 32, 111, 107]⟩ : ByteArray) (([(⟨(⟨#[120]⟩ : ByteArray), t657⟩ : S41)] : List (S41))) t655).bind fun bt662 => ((impl_ReadHead.f k bt662.1).bind fun bt664 => (if bt662.2 = true then (laws_FnAnswers.j0 k l0 t655 bt662.1 bt664.2.2.1 (bt664.2.2.2 != 0) bt664.1 bt664.2.1) else (laws_FnAnswers.j0 k l0 t655 bt662.1 bt664.2.2.1 true bt664.1 bt664.2.1))))) else (none))) else (none)) = some r := H
    have A5 := Aside0.mk A50
    clear A50
    by_cases c6 : 0 < (t651.length : Int)
    · rw [if_pos c6] at H
      have c6b0 : decide (0 < (t651.length : Int)) = true := decide_eq_true c6
      have c6b1 : decide (0 < t651.length) = true := decide_eq_true (by omega)
      clear c6
      (skip)
      replace H := Option.bind_eq_some_iff.mp H
      obtain ⟨t655, A70, H⟩ := H
      replace H : (if 1 < (t651.length : Int) then ((spec_Decimal.f k (rd t651 1)).bind fun t657 => ((impl_AnswerText.f k (⟨#[72, 84, 84, 80, 47, 49, 46, 49, 32, 50, 48, 48, 32, 111, 107]⟩ : ByteArray) (([(⟨(⟨#[120]⟩ : ByteArray), t657⟩ : S41)] : List (S41))) t655).bind fun bt662 => ((impl_ReadHead.f k bt662.1).bind fun bt664 => (if bt662.2 = true then (laws_FnAnswers.j0 k l0 t655 bt662.1 bt664.2.2.1 (bt664.2.2.2 != 0) bt664.1 bt664.2.1) else (laws_FnAnswers.j0 k l0 t655 bt662.1 bt664.2.2.1 true bt664.1 bt664.2.1))))) else (none)) = some r := H
      have A7 := Aside0.mk A70
      clear A70
      by_cases c8 : 1 < (t651.length : Int)
      · rw [if_pos c8] at H
        have c8b0 : decide (1 < (t651.length : Int)) = true := decide_eq_true c8
        have c8b1 : decide (1 < t651.length) = true := decide_eq_true (by omega)
        clear c8
        replace H := Option.bind_eq_some_iff.mp H
        obtain ⟨t657, A90, H⟩ := H
        replace H : ((impl_AnswerText.f k (⟨#[72, 84, 84, 80, 47, 49, 46, 49, 32, 50, 48, 48, 32, 111, 107]⟩ : ByteArray) (([(⟨(⟨#[120]⟩ : ByteArray), t657⟩ : S41)] : List (S41))) t655).bind fun bt662 => ((impl_ReadHead.f k bt662.1).bind fun bt664 => (if bt662.2 = true then (laws_FnAnswers.j0 k l0 t655 bt662.1 bt664.2.2.1 (bt664.2.2.2 != 0) bt664.1 bt664.2.1) else (laws_FnAnswers.j0 k l0 t655 bt662.1 bt664.2.2.1 true bt664.1 bt664.2.1)))) = some r := H
        have A9 := Aside0.mk A90
        clear A90
        obtain ⟨y658, hy658⟩ : ∃ y_ : List (S41), y_ = (([(⟨(⟨#[120]⟩ : ByteArray), t657⟩ : S41)] : List (S41))) := ⟨_, rfl⟩
        replace H : ((impl_AnswerText.f k (⟨#[72, 84, 84, 80, 47, 49, 46, 49, 32, 50, 48, 48, 32, 111, 107]⟩ : ByteArray) y658 t655).bind fun bt662 => ((impl_ReadHead.f k bt662.1).bind fun bt664 => (if bt662.2 = true then (laws_FnAnswers.j0 k l0 t655 bt662.1 bt664.2.2.1 (bt664.2.2.2 != 0) bt664.1 bt664.2.1) else (laws_FnAnswers.j0 k l0 t655 bt662.1 bt664.2.2.1 true bt664.1 bt664.2.1)))) = some r := by (rw [hy658]; with_reducible exact H)
        have Ny658 := Aside0.mk hy658
        clear hy658
        replace H := Option.bind_eq_some_iff.mp H
        obtain ⟨⟨t662, t663⟩, A100, H⟩ := H
        replace H : ((impl_ReadHead.f k t662).bind fun bt664 => (if t663 = true then (laws_FnAnswers.j0 k l0 t655 t662 bt664.2.2.1 (bt664.2.2.2 != 0) bt664.1 bt664.2.1) else (laws_FnAnswers.j0 k l0 t655 t662 bt664.2.2.1 true bt664.1 bt664.2.1))) = some r := H
        have A10 := Aside0.mk A100
        clear A100
        replace H := Option.bind_eq_some_iff.mp H
        obtain ⟨⟨t664, t665, t668, t669⟩, A110, H⟩ := H
        replace H : (if t663 = true then (laws_FnAnswers.j0 k l0 t655 t662 t668 (t669 != 0) t664 t665) else (laws_FnAnswers.j0 k l0 t655 t662 t668 true t664 t665)) = some r := H
        have A11 := Aside0.mk A110
        clear A110
        have HC12 := Aside0.mk H
        clear H
        go_upto_region 8 with (first | ((with_reducible refine gate_callee (f := 17) rfl ?_); refine goesL_ (some 26) rfl rfl Tryd.func17 (by kernel_rfl) rfl #[.slice A0 l0.length c0] rfl (by (try simp only [List.map_toArray, List.map_cons, List.map_nil]); rfl) ?_; (with_reducible refine (spec_DrawPlaces.calls k _ _ l0 t651 _ ?side1 ?side2 A5.out).mono ?_); (case side1 => repeat (exact (Kd.C_below HR0.out HB.out))); (case side2 => exact HC0.out); rintro e w13 ⟨v652, rfl, ho0, hb⟩; refine ⟨_, rfl, ?_⟩; have n0_ := Aside0.mk (Kd.R_lower ho0 (below_size (by repeat ((with_reducible exact HB.out))))); have n1_ := Aside0.mk (below_step (by repeat ((with_reducible exact HB.out))) hb); clear HB; have HO653 := n0_; have HB := n1_; clear n0_ n1_; (try clear hb); (try clear hb2); (try clear hk); (try clear hi); (try clear ho0); obtain ⟨Ao14, co14, eo14⟩ := Kd.R_slice HO653.out; subst eo14; have p654 : 0 ≤ (0 : Int) := (by omega); have q654 : 0 < (t651.length : Int) := of_decide_eq_true (by (with_reducible assumption)); obtain ⟨ad654, e654, hx654_0⟩ := Kd.at_int (Kd.R_reads' HO653.out).2.2 0 p654 q654; cases e654; have qi654 : (0 < t651.length) = True := eq_true (by omega); (try rw [show ((0 : Int)).toNat = 0 from rfl] at hx654_0); (try rw [Addr.add_zero'] at hx654_0); replace p654 := eq_true p654; replace q654 := eq_true q654) | ((with_reducible refine gate_callee (f := 22) rfl ?_); refine goesL_ (some 31) rfl rfl Tryd.func22 (by kernel_rfl) rfl #[.int .i64 (Int.tmod (rd t651 0) 401), .string (⟨#[98]⟩ : ByteArray)] rfl (by (try simp only [List.map_toArray, List.map_cons, List.map_nil]); rfl) ?_; (with_reducible refine (laws_row.calls k (Int.tmod (rd t651 0) 401) (⟨#[98]⟩ : ByteArray) t655 _ A7.out).mono ?_); rintro e w' ⟨rfl, ⟨nd, rfl⟩⟩; refine ⟨_, rfl, ?_⟩; (try (rw [drewN_self w13]; generalize hq_ : World.drewN w13 _ = w13; have n0_ : Aside0 (Kd.R (Kd.int .i64) 3 w13 w.heap.size (fun _ => True) (.slice (some ad654) t651.length co14) t651) := ⟨by rw [← hq_]; exact (by (with_reducible repeat (apply Kd.R_drewN)); exact HO653.out)⟩; have n1_ : Aside0 (Below w.heap.size w w13) := ⟨by rw [← hq_]; exact (by repeat ((with_reducible first | exact HB.out | apply pw_below_drewN)))⟩; clear HO653 HB hq_; have HO653 := n0_; have HB := n1_; clear n0_ n1_)); have p656 : 0 ≤ (1 : Int) := (by omega); have q656 : 1 < (t651.length : Int) := of_decide_eq_true (by (with_reducible assumption)); obtain ⟨ad656, e656, hx656_0⟩ := Kd.at_int (Kd.R_reads' HO653.out).2.2 1 p656 q656; obtain rfl : ad654 = ad656 := (by injection e656); (try simp only [show (1 : Int).toNat = 1 from rfl, Nat.reduceMul, Nat.reduceEqDiff, Go.Addr.add, ↓reduceIte] at hx656_0); have qi656 : (1 < t651.length) = True := eq_true (by omega); (try rw [show ((1 : Int)).toNat = 1 from rfl] at hx656_0); replace p656 := eq_true p656; replace q656 := eq_true q656) | ((with_reducible refine gate_callee (f := 18) rfl ?_); refine goesL_ (some 35) rfl rfl Tryd.func18 (by kernel_rfl) rfl #[.int .i64 (rd t651 1)] rfl (by (try simp only [List.map_toArray, List.map_cons, List.map_nil]); rfl) ?_; (with_reducible refine (spec_Decimal.calls k (rd t651 1) t657 _ A9.out).mono ?_); rintro e w15 ⟨rfl, hb⟩; refine ⟨_, rfl, ?_⟩; have n0_ := Aside0.mk (Kd.R_below (by (with_reducible repeat (first | apply Kd.R_alloc | apply Kd.R_drewN | apply Kd.R_drew )); exact HO653.out) hb); have n1_ := Aside0.mk (below_step (by repeat ((with_reducible exact HB.out))) hb); clear HO653; clear HB; have HO653 := n0_; have HB := n1_; clear n0_ n1_; (try clear hb); (try clear hb2); (try clear hk); (try clear hi)) | ((with_reducible refine gate_dst (N := 37) rfl ?_); (try (refine gate_guard (by rfl) ?_; dsimp only)); refine Kd.R_lit k41 _ 41 ?hg (N := 37) ?hd (xs := ([(⟨(⟨#[120]⟩ : ByteArray), t657⟩ : S41)] : List (S41))) (inner := [.string (⟨#[120]⟩ : ByteArray), .string t657]) (ok := fun _ => True) (okp := fun _ => True) ?hr ?hp (fun _ hk => hk) trivial (Below.refl _ _) (Nat.le_refl _) (by simp) ?_; (case hd => rfl); (case hg => rfl); (case hr => (go_simp; done)); (case hp => exact (Reps.c2 (show Kd.M k41 _ _ _ (⟨(⟨#[120]⟩ : ByteArray), t657⟩ : S41) [.string (⟨#[120]⟩ : ByteArray), .string t657] from (k41_mkM _ _ _ (⟨(⟨#[120]⟩ : ByteArray), t657⟩ : S41) )) (Reps.none _ _))); intro v659 w16 ho17 hb hg_ hnew_; clear hg_ hnew_; (rw [← Ny658.out] at ho17); have n0_ := Aside0.mk (Kd.R_below (by (with_reducible repeat (first | apply Kd.R_alloc | apply Kd.R_drewN | apply Kd.R_drew )); exact HO653.out) hb); have n1_ := Aside0.mk (Kd.R_lower ho17 (below_size (by repeat ((with_reducible exact HB.out))))); have n2_ := Aside0.mk (below_step (by repeat ((with_reducible exact HB.out))) hb); clear HO653; clear HB; have HO653 := n0_; have HO660 := n1_; have HB := n2_; clear n0_ n1_ n2_; clear hb ho17; obtain ⟨Ao18, co18, eo18⟩ := Kd.R_slice HO660.out; subst eo18) | ((with_reducible refine gate_dst (N := 5) rfl ?_); (try (refine gate_guard (by rfl) ?_; dsimp only)); refine box_event ?hg (N := 5) ?hd (cs := #[.string (⟨#[]⟩ : ByteArray), .slice none 0 0]) (t := 44) ?hr ?_; (case hd => rfl); (case hg => rfl); (case hr => (go_simp; done)); intro gb661 hg w19 hbox hb; have n0_ := Aside0.mk (Kd.R_below (by (with_reducible repeat (first | apply Kd.R_alloc | apply Kd.R_drewN | apply Kd.R_drew )); exact HO653.out) hb); have n1_ := Aside0.mk (Kd.R_below (by (with_reducible repeat (first | apply Kd.R_alloc | apply Kd.R_drewN | apply Kd.R_drew )); exact HO660.out) hb); have n2_ := Aside0.mk (below_step (by repeat ((with_reducible exact HB.out))) hb); have n3_ := Aside0.mk (hbox); have n4_ := Aside0.mk ((by rw [hg]; exact (below_size (by repeat ((with_reducible exact HB.out)))) : w.heap.size ≤ gb661)); have n5_ := Aside0.mk ((by rw [hg]; exact (below_size (by repeat ((with_reducible exact HB.out)))) : w.heap.size ≤ gb661)); clear HO653; clear HO660; clear HB; have HO653 := n0_; have HO660 := n1_; have HB := n2_; have BK661 := n3_; have GW661 := n4_; have GE661 := n5_; clear n0_ n1_ n2_ n3_ n4_ n5_; clear hb hbox hg; have hcz20_0 : w19.cell? ⟨gb661, 0, none⟩ = some (.string (⟨#[]⟩ : ByteArray)) := (blk_cell BK661.out 0).trans rfl; have hcz20_1 : w19.cell? ⟨gb661, 1, none⟩ = some (.slice none 0 0) := (blk_cell BK661.out 1).trans rfl; have hfz20_0 := blk_frozen BK661.out 0; have hfz20_1 := blk_frozen BK661.out 1) | ((with_reducible refine gate_callee (f := 23) rfl ?_); refine goesL_ (some 42) rfl rfl Tryd.func23 (by kernel_rfl) rfl #[.agg #[.string (⟨#[72, 84, 84, 80, 47, 49, 46, 49, 32, 50, 48, 48, 32, 111, 107]⟩ : ByteArray), .slice Ao18 y658.length co18], .string t655] rfl (by (try simp only [List.map_toArray, List.map_cons, List.map_nil]); rfl) ?_; (with_reducible refine (impl_AnswerText.calls k (⟨#[72, 84, 84, 80, 47, 49, 46, 49, 32, 50, 48, 48, 32, 111, 107]⟩ : ByteArray) _ _ y658 t655 t662 t663 _ ?side1 ?side2 ?side3 A10.out).mono ?_); (case side1 => refine (Kd.R_reads' (e := 41) (base := w.heap.size) (ok := fun k_ => True) (n := y658.length) (c := co18) ?_).2.2; exact (by (with_reducible repeat (first | apply Kd.R_alloc | apply Kd.R_drewN | apply Kd.R_drew )); exact (Kd.R_mono (Kd.R_far (p := ⟨gb661, 1, none⟩) (Kd.R_far (p := ⟨gb661, 0, none⟩) (Kd.R_types HO660.out BK661.out (by decide)) (fun _ hk => hk.2) (.string (⟨#[72, 84, 84, 80, 47, 49, 46, 49, 32, 50, 48, 48, 32, 111, 107]⟩ : ByteArray))) (fun _ hk => hk.2) (.slice Ao18 y658.length co18)) (fun _ h_ => by exact h_.1)))); (case side2 => exact (Kd.R_reads' HO660.out).2.1); (case side3 => exact Tab.below HTB.out (by repeat ((with_reducible first | exact HB.out | refine below_set ?_ GE661.out)))); rintro e w21 ⟨rfl, hb⟩; refine ⟨_, rfl, ?_⟩; have n0_ := Aside0.mk (Kd.R_below (by (with_reducible repeat (first | apply Kd.R_alloc | apply Kd.R_drewN | apply Kd.R_drew )); exact (Kd.R_mono (Kd.R_far (p := ⟨gb661, 1, none⟩) (Kd.R_far (p := ⟨gb661, 0, none⟩) (Kd.R_types HO653.out BK661.out (by decide)) (fun _ hk => hk.2) (.string (⟨#[72, 84, 84, 80, 47, 49, 46, 49, 32, 50, 48, 48, 32, 111, 107]⟩ : ByteArray))) (fun _ hk => hk.2) (.slice Ao18 y658.length co18)) (fun _ h_ => by exact h_.1))) hb); have n1_ := Aside0.mk (Kd.R_below (by (with_reducible repeat (first | apply Kd.R_alloc | apply Kd.R_drewN | apply Kd.R_drew )); exact (Kd.R_mono (Kd.R_far (p := ⟨gb661, 1, none⟩) (Kd.R_far (p := ⟨gb661, 0, none⟩) (Kd.R_types HO660.out BK661.out (by decide)) (fun _ hk => hk.2) (.string (⟨#[72, 84, 84, 80, 47, 49, 46, 49, 32, 50, 48, 48, 32, 111, 107]⟩ : ByteArray))) (fun _ hk => hk.2) (.slice Ao18 y658.length co18)) (fun _ h_ => by exact h_.1))) hb); have n2_ := Aside0.mk (blk_below (g := gb661) (o := .cells #[.string (⟨#[72, 84, 84, 80, 47, 49, 46, 49, 32, 50, 48, 48, 32, 111, 107]⟩ : ByteArray), .slice Ao18 y658.length co18] 44 (0, 0)) (by (with_reducible repeat (first | refine blk_drewN ?_ _ | refine blk_drew ?_ | refine blk_alloc ?_ _ )); refine blk_put (cs := #[.string (⟨#[72, 84, 84, 80, 47, 49, 46, 49, 32, 50, 48, 48, 32, 111, 107]⟩ : ByteArray), .slice none 0 0]) ?_ 1 _ rfl; (with_reducible repeat (first | refine blk_drewN ?_ _ | refine blk_drew ?_ | refine blk_alloc ?_ _ )); refine blk_put (cs := #[.string (⟨#[]⟩ : ByteArray), .slice none 0 0]) ?_ 0 _ rfl; (with_reducible repeat (first | refine blk_drewN ?_ _ | refine blk_drew ?_ | refine blk_alloc ?_ _ )); exact BK661.out) hb); have n3_ := Aside0.mk (below_step (by repeat ((with_reducible first | exact HB.out | refine below_set ?_ GE661.out))) hb); clear HO653; clear HO660; clear BK661; clear HB; have HO653 := n0_; have HO660 := n1_; have BK661 := n2_; have HB := n3_; clear n0_ n1_ n2_ n3_; (try clear hb); (try clear hb2); (try clear hk); (try clear hi)) | ((with_reducible refine gate_callee (f := 24) rfl ?_); refine goesL_ (some 47) rfl rfl Tryd.func24 (by kernel_rfl) rfl #[.string t662] rfl (by (try simp only [List.map_toArray, List.map_cons, List.map_nil]); rfl) ?_; (with_reducible refine (impl_ReadHead.calls k t662 t664 t665 t668 t669 _ ?side1 A11.out).mono ?_); (case side1 => exact Shp.below HSH.out (by repeat ((with_reducible exact HB.out)))); rintro e w22 ⟨v666, rfl, ho0, hb⟩; refine ⟨_, rfl, ?_⟩; have n0_ := Aside0.mk (Kd.R_below (by (with_reducible repeat (first | apply Kd.R_alloc | apply Kd.R_drewN | apply Kd.R_drew )); exact HO653.out) hb); have n1_ := Aside0.mk (Kd.R_elder' (by (with_reducible repeat (first | apply Kd.R_alloc | apply Kd.R_drewN | apply Kd.R_drew )); exact HO660.out) (Kd.R_base ho0) hb); have n2_ := Aside0.mk (Kd.R_lower (Kd.R_new' ho0 (Kd.R_lt (by (with_reducible repeat (first | apply Kd.R_alloc | apply Kd.R_drewN | apply Kd.R_drew )); exact HO660.out))) (below_size (by repeat ((with_reducible exact HB.out))))); have n3_ := Aside0.mk (blk_below (g := gb661) (o := .cells #[.string (⟨#[72, 84, 84, 80, 47, 49, 46, 49, 32, 50, 48, 48, 32, 111, 107]⟩ : ByteArray), .slice Ao18 y658.length co18] 44 (0, 0)) (by (with_reducible repeat (first | refine blk_drewN ?_ _ | refine blk_drew ?_ | refine blk_alloc ?_ _ )); exact BK661.out) hb); have n4_ := Aside0.mk (below_step (by repeat ((with_reducible exact HB.out))) hb); clear HO653; clear HO660; clear BK661; clear HB; have HO653 := n0_; have HO660 := n1_; have HO667 := n2_; have BK661 := n3_; have HB := n4_; clear n0_ n1_ n2_ n3_ n4_; (try clear hb); (try clear hb2); (try clear hk); (try clear hi); (try clear ho0)) | ((with_reducible refine gate_dst (N := 8) rfl ?_); (try (refine gate_guard (by rfl) ?_; dsimp only)); refine box_event ?hg (N := 8) ?hd (cs := #[.string (⟨#[]⟩ : ByteArray), .slice none 0 0]) (t := 44) ?hr ?_; (case hd => rfl); (case hg => rfl); (case hr => (go_simp; done)); intro gb670 hg w23 hbox hb; have n0_ := Aside0.mk (Kd.R_below (by (with_reducible repeat (first | apply Kd.R_alloc | apply Kd.R_drewN | apply Kd.R_drew )); exact HO653.out) hb); have n1_ := Aside0.mk (Kd.R_below (by (with_reducible repeat (first | apply Kd.R_alloc | apply Kd.R_drewN | apply Kd.R_drew )); exact HO660.out) hb); have n2_ := Aside0.mk (Kd.R_below (by (with_reducible repeat (first | apply Kd.R_alloc | apply Kd.R_drewN | apply Kd.R_drew )); exact HO667.out) hb); have n3_ := Aside0.mk (blk_below (g := gb661) (o := .cells #[.string (⟨#[72, 84, 84, 80, 47, 49, 46, 49, 32, 50, 48, 48, 32, 111, 107]⟩ : ByteArray), .slice Ao18 y658.length co18] 44 (0, 0)) (by (with_reducible repeat (first | refine blk_drewN ?_ _ | refine blk_drew ?_ | refine blk_alloc ?_ _ )); exact BK661.out) hb); have n4_ := Aside0.mk (below_step (by repeat ((with_reducible exact HB.out))) hb); have n5_ := Aside0.mk (hbox); have n6_ := Aside0.mk ((by rw [hg]; exact (below_size (by repeat ((with_reducible exact HB.out)))) : w.heap.size ≤ gb670)); have n7_ := Aside0.mk ((by rw [hg]; exact (below_size (by repeat ((with_reducible exact HB.out)))) : w.heap.size ≤ gb670)); have n8_ := Aside0.mk ((by rw [hg]; exact Nat.ne_of_lt (blk_lt (g := gb661) (o := .cells #[.string (⟨#[72, 84, 84, 80, 47, 49, 46, 49, 32, 50, 48, 48, 32, 111, 107]⟩ : ByteArray), .slice Ao18 y658.length co18] 44 (0, 0)) (by (with_reducible repeat (first | refine blk_drewN ?_ _ | refine blk_drew ?_ | refine blk_alloc ?_ _ )); exact BK661.out)) : gb661 ≠ gb670)); have n9_ := Aside0.mk ((by rw [hg]; exact Nat.ne_of_gt (blk_lt (g := gb661) (o := .cells #[.string (⟨#[72, 84, 84, 80, 47, 49, 46, 49, 32, 50, 48, 48, 32, 111, 107]⟩ : ByteArray), .slice Ao18 y658.length co18] 44 (0, 0)) (by (with_reducible repeat (first | refine blk_drewN ?_ _ | refine blk_drew ?_ | refine blk_alloc ?_ _ )); exact BK661.out)) : gb670 ≠ gb661)); clear HO653; clear HO660; clear HO667; clear BK661; clear HB; have HO653 := n0_; have HO660 := n1_; have HO667 := n2_; have BK661 := n3_; have HB := n4_; have BK670 := n5_; have GW670 := n6_; have GE670 := n7_; have NB661_670 := n8_; have NB670_661 := n9_; clear n0_ n1_ n2_ n3_ n4_ n5_ n6_ n7_ n8_ n9_; clear hb hbox hg; have hnb24 := NB670_661.out; have hnc24 := NB661_670.out; have hcz25_0 : w23.cell? ⟨gb670, 0, none⟩ = some (.string (⟨#[]⟩ : ByteArray)) := (blk_cell BK670.out 0).trans rfl; have hcz25_1 : w23.cell? ⟨gb670, 1, none⟩ = some (.slice none 0 0) := (blk_cell BK670.out 1).trans rfl; have hfz25_0 := blk_frozen BK670.out 0; have hfz25_1 := blk_frozen BK670.out 1; obtain ⟨Ao26, co26, eo26⟩ := Kd.R_slice HO667.out; subst eo26))
        (try simp only [Act.put, List.setIfInBounds_toArray, List.set_cons_zero, List.set_cons_succ])
        go_cut [56] (fun v56 wc => ∃ (kq : Nat) (x56_11 : Bool), v56 = .bool x56_11 ∧ Aside0 (laws_FnAnswers.j0 kq l0 t655 t662 t668 x56_11 t664 t665 = some r) ∧ Aside0 (kq ≤ k) ∧ Aside0 (Kd.R k41 41 wc w.heap.size (fun k_ => some k_ ≠ ((.slice Ao26 t665.length co26) : Value).ownBlock) (.slice Ao18 y658.length co18) y658) ∧ Aside0 (Kd.R k41 41 wc w.heap.size (fun k_ => some k_ ≠ ((.slice Ao18 y658.length co18) : Value).ownBlock) (.slice Ao26 t665.length co26) t665) ∧ Aside0 (wc.heap[gb661]? = some (.cells #[.string (⟨#[72, 84, 84, 80, 47, 49, 46, 49, 32, 50, 48, 48, 32, 111, 107]⟩ : ByteArray), (.slice Ao18 y658.length co18)] 44 (0, 0))) ∧ Aside0 (wc.heap[gb670]? = some (.cells #[.string t664, (.slice Ao26 t665.length co26)] 44 (0, 0))) ∧ Aside0 (Below w.heap.size w wc))
        case first =>
          have H := HC12.out
          clear HC12
          by_cases c27 : t663 = true
          · subst c27
            have H1 : (laws_FnAnswers.j0 k l0 t655 t662 t668 (t669 != 0) t664 t665) = some r := by rw [if_pos rfl] at H; exact H
            clear H
            have H := H1
            clear H1
            have H' := Aside0.mk H
            clear H
            go_wp2
            go_meet
            case rel => exact ⟨_, ((t669 != 0)), (by rfl), H', ⟨by omega⟩, ⟨by (with_reducible repeat (first | apply Kd.R_alloc | apply Kd.R_drewN | apply Kd.R_drew )); exact Kd.R_mono (Kd.R_far (p := ⟨gb670, 1, none⟩) (Kd.R_far (p := ⟨gb670, 0, none⟩) (Kd.R_types HO660.out BK670.out (by decide)) (fun _ hk => hk.2) (.string t664)) (fun _ hk => hk.2) (.slice Ao26 t665.length co26)) (fun _ hk => hk.1.2)⟩, ⟨by (with_reducible repeat (first | apply Kd.R_alloc | apply Kd.R_drewN | apply Kd.R_drew )); exact Kd.R_mono (Kd.R_far (p := ⟨gb670, 1, none⟩) (Kd.R_far (p := ⟨gb670, 0, none⟩) (Kd.R_types HO667.out BK670.out (by decide)) (fun _ hk => hk.2) (.string t664)) (fun _ hk => hk.2) (.slice Ao26 t665.length co26)) (fun _ hk => hk.1.2)⟩, ⟨by (with_reducible repeat (first | refine blk_drewN ?_ _ | refine blk_drew ?_ | refine blk_alloc ?_ _ )); refine blk_far ?_ NB661_670.out _; (with_reducible repeat (first | refine blk_drewN ?_ _ | refine blk_drew ?_ | refine blk_alloc ?_ _ )); refine blk_far ?_ NB661_670.out _; (with_reducible repeat (first | refine blk_drewN ?_ _ | refine blk_drew ?_ | refine blk_alloc ?_ _ )); exact BK661.out⟩, ⟨by (with_reducible repeat (first | refine blk_drewN ?_ _ | refine blk_drew ?_ | refine blk_alloc ?_ _ )); refine blk_put (cs := #[.string t664, .slice none 0 0]) ?_ 1 _ rfl; (with_reducible repeat (first | refine blk_drewN ?_ _ | refine blk_drew ?_ | refine blk_alloc ?_ _ )); refine blk_put (cs := #[.string (⟨#[]⟩ : ByteArray), .slice none 0 0]) ?_ 0 _ rfl; (with_reducible repeat (first | refine blk_drewN ?_ _ | refine blk_drew ?_ | refine blk_alloc ?_ _ )); exact BK670.out⟩, ⟨by repeat ((with_reducible first | exact HB.out | refine below_set ?_ GE670.out))⟩⟩
          · replace c27 := Bool.eq_false_iff.mpr c27
            subst c27
            have H1 : (laws_FnAnswers.j0 k l0 t655 t662 t668 true t664 t665) = some r := by rw [if_neg (show ¬ (false = true) by decide)] at H; exact H
            clear H
            have H := H1
            clear H1
            have H' := Aside0.mk H
            clear H
            go_wp2
            go_meet
            case rel => exact ⟨_, (true), (by rfl), H', ⟨by omega⟩, ⟨by (with_reducible repeat (first | apply Kd.R_alloc | apply Kd.R_drewN | apply Kd.R_drew )); exact Kd.R_mono (Kd.R_far (p := ⟨gb670, 1, none⟩) (Kd.R_far (p := ⟨gb670, 0, none⟩) (Kd.R_types HO660.out BK670.out (by decide)) (fun _ hk => hk.2) (.string t664)) (fun _ hk => hk.2) (.slice Ao26 t665.length co26)) (fun _ hk => hk.1.2)⟩, ⟨by (with_reducible repeat (first | apply Kd.R_alloc | apply Kd.R_drewN | apply Kd.R_drew )); exact Kd.R_mono (Kd.R_far (p := ⟨gb670, 1, none⟩) (Kd.R_far (p := ⟨gb670, 0, none⟩) (Kd.R_types HO667.out BK670.out (by decide)) (fun _ hk => hk.2) (.string t664)) (fun _ hk => hk.2) (.slice Ao26 t665.length co26)) (fun _ hk => hk.1.2)⟩, ⟨by (with_reducible repeat (first | refine blk_drewN ?_ _ | refine blk_drew ?_ | refine blk_alloc ?_ _ )); refine blk_far ?_ NB661_670.out _; (with_reducible repeat (first | refine blk_drewN ?_ _ | refine blk_drew ?_ | refine blk_alloc ?_ _ )); refine blk_far ?_ NB661_670.out _; (with_reducible repeat (first | refine blk_drewN ?_ _ | refine blk_drew ?_ | refine blk_alloc ?_ _ )); exact BK661.out⟩, ⟨by (with_reducible repeat (first | refine blk_drewN ?_ _ | refine blk_drew ?_ | refine blk_alloc ?_ _ )); refine blk_put (cs := #[.string t664, .slice none 0 0]) ?_ 1 _ rfl; (with_reducible repeat (first | refine blk_drewN ?_ _ | refine blk_drew ?_ | refine blk_alloc ?_ _ )); refine blk_put (cs := #[.string (⟨#[]⟩ : ByteArray), .slice none 0 0]) ?_ 0 _ rfl; (with_reducible repeat (first | refine blk_drewN ?_ _ | refine blk_drew ?_ | refine blk_alloc ?_ _ )); exact BK670.out⟩, ⟨by repeat ((with_reducible first | exact HB.out | refine below_set ?_ GE670.out))⟩⟩
        case rest =>
          clear HC12
          clear c6b0
          clear c6b1
          clear c8b0
          clear c8b1
          clear hcz20_0
          clear hcz20_1
          clear hcz25_0
          clear hcz25_1
          clear hfz20_0
          clear hfz20_1
          clear hfz25_0
          clear hfz25_1
          clear hx654_0
          clear hx656_0
          clear p654
          clear p656
          clear q654
          clear q656
          obtain ⟨kq, x56_11, rfl, HA, HJ11, HO_662001, HO_671001, BK661, BK670, HB⟩ := hcut
          cases kq with
          | zero => exact absurd HA.out (by simp [laws_FnAnswers.j0])
          | succ kj11 =>
            have H := HA.out
            clear HA
            simp only [laws_FnAnswers.j0] at H
            by_cases c28 : x56_11 = true
            · subst c28
              have H1 : (none) = some r := by rw [if_pos rfl] at H; exact H
              clear H
              have H := H1
              clear H1
              exact absurd H (by simp)
            · replace c28 := Bool.eq_false_iff.mpr c28
              subst c28
              have H1 : (if 0 ≤ t668 then (if t668 ≤ (t662.size : Int) then (if (t662.extract (t668 : Int).toNat t662.size).size + 6 ≤ 9223372036854775807 then ((impl_BodyOf.f kj11 t664 t665 ((t662.extract (t668 : Int).toNat t662.size) ++ (⟨#[98, 101, 104, 105, 110, 100]⟩ : ByteArray))).bind fun bt671 => ((laws_flag.f (decide ((t655.size : Int) > 0))).bind fun t674 => (if t668 ≤ (wrap64 ((t662.size : Int) - t674)) then (if (wrap64 ((t662.size : Int) - t674)) ≤ (t662.size : Int) then ((impl_BodyOf.f kj11 t664 t665 (t662.extract (t668 : Int).toNat ((wrap64 ((t662.size : Int) - t674)) : Int).toNat)).bind fun bt675 => ((spec_DrawAnswerText.f kj11 l0).bind fun bt678 => ((impl_AnswerText.f kj11 bt678.1 bt678.2.1 bt678.2.2).bind fun bt684 => ((spec_AnswerText.f kj11 bt678.1 bt678.2.1 bt678.2.2).bind fun bt686 => (if bt671.2.2 = 0 then (if bt671.1.toList = t655.toList then (if bt671.2.1 = (t655.size : Int) then (if ((bt675.2.2 == 1) == (decide ((t655.size : Int) > 0))) = true then (if (bt684.2 == bt686.2) = true then (some (bt684.1.toList == bt686.1.toList)) else (none)) else (none)) else (none)) else (none)) else (none)))))) else (none)) else (none)))) else (none)) else (none)) else (none)) = some r := by rw [if_neg (show ¬ (false = true) by decide)] at H; exact H
              clear H
              have H := H1
              clear H1
              by_cases c29 : 0 ≤ t668
              · rw [if_pos c29] at H
                have c29b0 := eq_true c29
                have c29b1 : decide (0 ≤ t668) = true := decide_eq_true c29
                clear c29
                by_cases c30 : t668 ≤ (t662.size : Int)
                · rw [if_pos c30] at H
                  have c30b0 := eq_true c30
                  have c30b1 : decide (t668 ≤ (t662.size : Int)) = true := decide_eq_true c30
                  clear c30
                  by_cases c31 : (t662.extract (t668 : Int).toNat t662.size).size + 6 ≤ 9223372036854775807
                  · rw [if_pos c31] at H
                    have c31b0 := eq_true c31
                    have c31b1 : decide ((t662.extract (t668 : Int).toNat t662.size).size + 6 ≤ 9223372036854775807) = true := decide_eq_true c31
                    have c31y2 : (9223372036854775807 < (t662.size - (t668 : Int).toNat) + 6) = False := (by have h_ := c31; simp only [ByteArray.size_append, ByteArray.size_extract] at h_; exact eq_false (by omega))
                    have c31b2 : (9223372036854775807 < (t662.extract (t668 : Int).toNat t662.size).size + 6) = False := eq_false (Nat.not_lt.2 c31)
                    replace H := Option.bind_eq_some_iff.mp H
                    obtain ⟨⟨t671, t672, t673⟩, A320, H⟩ := H
                    replace H : ((laws_flag.f (decide ((t655.size : Int) > 0))).bind fun t674 => (if t668 ≤ (wrap64 ((t662.size : Int) - t674)) then (if (wrap64 ((t662.size : Int) - t674)) ≤ (t662.size : Int) then ((impl_BodyOf.f kj11 t664 t665 (t662.extract (t668 : Int).toNat ((wrap64 ((t662.size : Int) - t674)) : Int).toNat)).bind fun bt675 => ((spec_DrawAnswerText.f kj11 l0).bind fun bt678 => ((impl_AnswerText.f kj11 bt678.1 bt678.2.1 bt678.2.2).bind fun bt684 => ((spec_AnswerText.f kj11 bt678.1 bt678.2.1 bt678.2.2).bind fun bt686 => (if t673 = 0 then (if t671.toList = t655.toList then (if t672 = (t655.size : Int) then (if ((bt675.2.2 == 1) == (decide ((t655.size : Int) > 0))) = true then (if (bt684.2 == bt686.2) = true then (some (bt684.1.toList == bt686.1.toList)) else (none)) else (none)) else (none)) else (none)) else (none)))))) else (none)) else (none))) = some r := H
                    have A32 := Aside0.mk A320
                    clear A320
                    replace H := Option.bind_eq_some_iff.mp H
                    obtain ⟨t674, A330, H⟩ := H
                    replace H : (if t668 ≤ (wrap64 ((t662.size : Int) - t674)) then (if (wrap64 ((t662.size : Int) - t674)) ≤ (t662.size : Int) then ((impl_BodyOf.f kj11 t664 t665 (t662.extract (t668 : Int).toNat ((wrap64 ((t662.size : Int) - t674)) : Int).toNat)).bind fun bt675 => ((spec_DrawAnswerText.f kj11 l0).bind fun bt678 => ((impl_AnswerText.f kj11 bt678.1 bt678.2.1 bt678.2.2).bind fun bt684 => ((spec_AnswerText.f kj11 bt678.1 bt678.2.1 bt678.2.2).bind fun bt686 => (if t673 = 0 then (if t671.toList = t655.toList then (if t672 = (t655.size : Int) then (if ((bt675.2.2 == 1) == (decide ((t655.size : Int) > 0))) = true then (if (bt684.2 == bt686.2) = true then (some (bt684.1.toList == bt686.1.toList)) else (none)) else (none)) else (none)) else (none)) else (none)))))) else (none)) else (none)) = some r := H
                    have A33 := Aside0.mk A330
                    have hflag_ : decide ((t655.size : Int) > 0) = decide (0 < t655.size) := decide_eq_decide.2 (by omega)
                    have A33 := Aside0.mk (show laws_flag.f (decide (0 < t655.size)) = some t674 from by have h_ := A33.out; rwa [hflag_] at h_)
                    clear hflag_
                    clear A330
                    have c34b0 := eq_true (of_decide_eq_true (by (with_reducible assumption)) : 0 ≤ t668)
                    by_cases c35 : t668 ≤ (wrap64 ((t662.size : Int) - t674))
                    · rw [if_pos c35] at H
                      have c35b0 := eq_true c35
                      have c35b1 : decide (t668 ≤ (wrap64 ((t662.size : Int) - t674))) = true := decide_eq_true c35
                      clear c35
                      by_cases c36 : (wrap64 ((t662.size : Int) - t674)) ≤ (t662.size : Int)
                      · rw [if_pos c36] at H
                        have c36b0 := eq_true c36
                        have c36b1 : decide ((wrap64 ((t662.size : Int) - t674)) ≤ (t662.size : Int)) = true := decide_eq_true c36
                        clear c36
                        replace H := Option.bind_eq_some_iff.mp H
                        obtain ⟨⟨t675, t676, t677⟩, A370, H⟩ := H
                        replace H : ((spec_DrawAnswerText.f kj11 l0).bind fun bt678 => ((impl_AnswerText.f kj11 bt678.1 bt678.2.1 bt678.2.2).bind fun bt684 => ((spec_AnswerText.f kj11 bt678.1 bt678.2.1 bt678.2.2).bind fun bt686 => (if t673 = 0 then (if t671.toList = t655.toList then (if t672 = (t655.size : Int) then (if ((t677 == 1) == (decide ((t655.size : Int) > 0))) = true then (if (bt684.2 == bt686.2) = true then (some (bt684.1.toList == bt686.1.toList)) else (none)) else (none)) else (none)) else (none)) else (none))))) = some r := H
                        have A37 := Aside0.mk A370
                        clear A370
                        replace H := Option.bind_eq_some_iff.mp H
                        obtain ⟨⟨t678, t679, t682⟩, A380, H⟩ := H
                        replace H : ((impl_AnswerText.f kj11 t678 t679 t682).bind fun bt684 => ((spec_AnswerText.f kj11 t678 t679 t682).bind fun bt686 => (if t673 = 0 then (if t671.toList = t655.toList then (if t672 = (t655.size : Int) then (if ((t677 == 1) == (decide ((t655.size : Int) > 0))) = true then (if (bt684.2 == bt686.2) = true then (some (bt684.1.toList == bt686.1.toList)) else (none)) else (none)) else (none)) else (none)) else (none)))) = some r := H
                        have A38 := Aside0.mk A380
                        clear A380
                        replace H := Option.bind_eq_some_iff.mp H
                        obtain ⟨⟨t684, t685⟩, A390, H⟩ := H
                        replace H : ((spec_AnswerText.f kj11 t678 t679 t682).bind fun bt686 => (if t673 = 0 then (if t671.toList = t655.toList then (if t672 = (t655.size : Int) then (if ((t677 == 1) == (decide ((t655.size : Int) > 0))) = true then (if (t685 == bt686.2) = true then (some (t684.toList == bt686.1.toList)) else (none)) else (none)) else (none)) else (none)) else (none))) = some r := H
                        have A39 := Aside0.mk A390
                        clear A390
                        replace H := Option.bind_eq_some_iff.mp H
                        obtain ⟨⟨t686, t687⟩, A400, H⟩ := H
                        replace H : (if t673 = 0 then (if t671.toList = t655.toList then (if t672 = (t655.size : Int) then (if ((t677 == 1) == (decide ((t655.size : Int) > 0))) = true then (if (t685 == t687) = true then (some (t684.toList == t686.toList)) else (none)) else (none)) else (none)) else (none)) else (none)) = some r := H
                        have A40 := Aside0.mk A400
                        clear A400
                        by_cases c41 : t673 = 0
                        · rw [if_pos c41] at H
                          have c41b0 : (t673 == 0) = true := beq_iff_eq.mpr c41
                          have c41b1 : (t673 != 0) = false := bne_eq_false_iff_eq.mpr c41
                          clear c41
                          by_cases c42 : t671.toList = t655.toList
                          · rw [if_pos c42] at H
                            have c42b0 : (t671.toList == t655.toList) = true := beq_iff_eq.mpr c42
                            have c42b1 : (t671.toList != t655.toList) = false := bne_eq_false_iff_eq.mpr c42
                            clear c42
                            by_cases c43 : t672 = (t655.size : Int)
                            · rw [if_pos c43] at H
                              have c43b0 : (t672 == (t655.size : Int)) = true := beq_iff_eq.mpr c43
                              have c43b1 : (t672 != (t655.size : Int)) = false := bne_eq_false_iff_eq.mpr c43
                              clear c43
                              by_cases c44 : ((t677 == 1) == (decide ((t655.size : Int) > 0))) = true
                              · rw [if_pos c44] at H
                                have c44b0 : ((t677 == 1) == (decide ((t655.size : Int) > 0))) = true := c44
                                have c44n : (t677 == 1) = decide (0 < t655.size) := by have h_ := c44; rw [beq_iff_eq] at h_; rw [h_]; exact decide_eq_decide.2 (by omega)
                                (try (have c44b1 : decide ((t677 == 1) = (decide ((t655.size : Int) > 0))) = true := by simpa using c44))
                                (try (have c44b2 : ((t677 == 1) == (decide ((t655.size : Int) > 0))) = true := by simpa using c44))
                                clear c44
                                by_cases c45 : (t685 == t687) = true
                                · rw [if_pos c45] at H
                                  have c45b0 : (t685 == t687) = true := c45
                                  (try (have c45b1 : decide (t685 = t687) = true := by simpa using c45))
                                  (try (have c45b2 : (t685 == t687) = true := by simpa using c45))
                                  clear c45
                                  obtain rfl := Option.some.inj H
                                  go_wp2
                                  have n0_ := Aside0.mk (Kd.R_drew HO_662001.out)
                                  have n1_ := Aside0.mk (Kd.R_drew HO_671001.out)
                                  have n2_ := Aside0.mk (blk_drew BK661.out)
                                  have n3_ := Aside0.mk (blk_drew BK670.out)
                                  have n4_ := Aside0.mk (below_drew1 HB.out)
                                  clear HO_662001
                                  clear HO_671001
                                  clear BK661
                                  clear BK670
                                  clear HB
                                  have HO_662001 := n0_
                                  have HO_671001 := n1_
                                  have BK661 := n2_
                                  have BK670 := n3_
                                  have HB := n4_
                                  clear n0_ n1_ n2_ n3_ n4_
                                  refine start_ (n := 13) (S := fun w' => w'.cell? ⟨gb670, 0, none⟩ = some (.string t664) ∧ w'.cell? ⟨gb670, 1, none⟩ = some (.slice Ao26 t665.length co26)) (ds := []) #[false, false, false, false, false, false, false, false, false, false, false, false, false] (by kernel_rfl) rfl rfl ⟨(blk_cell BK670.out 0).trans rfl, (blk_cell BK670.out 1).trans rfl⟩ (fun hHeld => ?_); refine with_tabW laws_FnAnswers.tab10 laws_FnAnswers.bits10 (fun HT_ HW_ => ?_)
                                  generalize wc.drew = w46 at HO_662001 HO_671001 BK661 BK670 HB hHeld ⊢
                                  refine pure_ (i := 1) (N := some 59) (v := ?_) (a' := ?_) #[false, true, false, false, false, false, false, false, false, false, false, false, false] rfl rfl (any_of HT_.out (by kernel_rfl)) (fun _ _ _ h => h) (Or.inl ⟨by rfl, ?_⟩) ?_ ?_
                                  rotate_left
                                  · intro w'
                                    go_simp
                                    with_reducible rfl
                                  rotate_left
                                  · simp only [Act.put, List.setIfInBounds_toArray, List.set_cons_zero, List.set_cons_succ, i64_w, i32_w]
                                    rfl
                                  refine pure_ (i := 2) (N := some 60) (v := ?_) (a' := ?_) #[false, true, true, false, false, false, false, false, false, false, false, false, false] rfl rfl (any_of HT_.out (by kernel_rfl)) (fun _ _ _ h => h) (Or.inl ⟨by rfl, ?_⟩) ?_ ?_
                                  rotate_left
                                  · intro w'
                                    go_simp
                                    with_reducible rfl
                                  rotate_left
                                  · simp only [Act.put, List.setIfInBounds_toArray, List.set_cons_zero, List.set_cons_succ, i64_w, i32_w]
                                    rfl
                                  refine pure_ (i := 3) (N := some 61) (v := ?_) (a' := ?_) #[false, true, true, true, false, false, false, false, false, false, false, false, false] rfl rfl (any_of HT_.out (by kernel_rfl)) (fun _ _ _ h => h) (Or.inl ⟨by rfl, ?_⟩) ?_ ?_
                                  rotate_left
                                  · intro w'
                                    go_simp
                                    with_reducible rfl
                                  rotate_left
                                  · simp only [Act.put, List.setIfInBounds_toArray, List.set_cons_zero, List.set_cons_succ, i64_w, i32_w]
                                    rfl
                                  refine pure_ (i := 4) (N := some 62) (v := ?_) (a' := ?_) #[false, true, true, true, true, false, false, false, false, false, false, false, false] rfl rfl (any_of HT_.out (by kernel_rfl)) (fun _ _ _ h => h) (Or.inl ⟨by rfl, ?_⟩) ?_ ?_
                                  rotate_left
                                  · intro w'
                                    go_simp
                                    with_reducible rfl
                                  rotate_left
                                  · simp only [Act.put, List.setIfInBounds_toArray, List.set_cons_zero, List.set_cons_succ, i64_w, i32_w]
                                    rfl
                                  refine take_ (i := 0) (N := some 58) (v := ?_) (a' := ?_) #[true, true, true, true, true, false, false, false, false, false, false, false, false] rfl rfl (take_ofW HT_.out HW_.out (by kernel_rfl)) (fun _ _ _ h => h) (Or.inl ⟨by rfl, ?_⟩) hHeld ?_ ?_
                                  rotate_left
                                  · rintro w' ⟨s0, s1⟩
                                    go_simp
                                    with_reducible rfl
                                  rotate_left
                                  · simp only [Act.put, List.setIfInBounds_toArray, List.set_cons_zero, List.set_cons_succ, i64_w, i32_w]
                                    rfl
                                  refine one_ (i := 5) (N := some 63) #[true, true, true, true, true, true, false, false, false, false, false, false, false] rfl rfl (one_of HT_.out (by kernel_rfl)) (by decide) (fun K hK => ?_)
                                  refine goes_ Tryd.func25 (by kernel_rfl) rfl #[.agg #[.string t664, .slice Ao26 t665.length co26], .string ((t662.extract (t668 : Int).toNat t662.size) ++ (⟨#[98, 101, 104, 105, 110, 100]⟩ : ByteArray))] (by rfl) rfl rfl (by (try simp only [List.map_toArray, List.map_cons, List.map_nil]); rfl) ?_
                                  with_reducible refine (impl_BodyOf.calls kj11 t664 _ _ t665 ((t662.extract (t668 : Int).toNat t662.size) ++ (⟨#[98, 101, 104, 105, 110, 100]⟩ : ByteArray)) t671 t672 t673 _ ?side1 ?side2 A32.out).mono ?_
                                  (case side1 => repeat (exact (Kd.R_reads' HO_671001.out).2.2))
                                  (case side2 => exact (Kd.R_reads' HO_671001.out).2.1)
                                  rintro e w47 ⟨rfl, hb⟩
                                  refine ⟨_, rfl, ?_⟩
                                  have n0_ := Aside0.mk (Kd.R_below (by (with_reducible repeat (first | apply Kd.R_alloc | apply Kd.R_drewN | apply Kd.R_drew )); exact HO_662001.out) hb)
                                  have n1_ := Aside0.mk (Kd.R_below (by (with_reducible repeat (first | apply Kd.R_alloc | apply Kd.R_drewN | apply Kd.R_drew )); exact HO_671001.out) hb)
                                  have n2_ := Aside0.mk (blk_below (g := gb661) (o := .cells #[.string (⟨#[72, 84, 84, 80, 47, 49, 46, 49, 32, 50, 48, 48, 32, 111, 107]⟩ : ByteArray), .slice Ao18 y658.length co18] 44 (0, 0)) (by (with_reducible repeat (first | refine blk_drewN ?_ _ | refine blk_drew ?_ | refine blk_alloc ?_ _ )); exact BK661.out) hb)
                                  have n3_ := Aside0.mk (blk_below (g := gb670) (o := .cells #[.string t664, .slice Ao26 t665.length co26] 44 (0, 0)) (by (with_reducible repeat (first | refine blk_drewN ?_ _ | refine blk_drew ?_ | refine blk_alloc ?_ _ )); exact BK670.out) hb)
                                  have n4_ := Aside0.mk (below_step (by repeat ((with_reducible exact HB.out))) hb)
                                  clear HO_662001
                                  clear HO_671001
                                  clear BK661
                                  clear BK670
                                  clear HB
                                  have HO_662001 := n0_
                                  have HO_671001 := n1_
                                  have BK661 := n2_
                                  have BK670 := n3_
                                  have HB := n4_
                                  clear n0_ n1_ n2_ n3_ n4_
                                  (try clear hb)
                                  (try clear hb2)
                                  (try clear hk)
                                  (try clear hi)
                                  refine hK.out _ _ ⟨(blk_cell BK670.out 0).trans rfl, (blk_cell BK670.out 1).trans rfl⟩ (fun hHeld => ?_)
                                  clear hK K
                                  refine norm_ (a' := ?_) ?_ ?_
                                  rotate_left
                                  · show Act.put _ (some 63) _ = _
                                    simp only [Act.put, List.setIfInBounds_toArray, List.set_cons_zero, List.set_cons_succ, i64_w, i32_w]
                                    rfl
                                  refine pure_ (i := 6) (N := some 57) (v := ?_) (a' := ?_) #[true, true, true, true, true, true, true, false, false, false, false, false, false] rfl rfl (any_of HT_.out (by kernel_rfl)) (fun _ _ _ h => h) (Or.inl ⟨by rfl, ?_⟩) ?_ ?_
                                  rotate_left
                                  · intro w'
                                    go_simp
                                    with_reducible rfl
                                  rotate_left
                                  · simp only [Act.put, List.setIfInBounds_toArray, List.set_cons_zero, List.set_cons_succ, i64_w, i32_w]
                                    rfl
                                  refine pure_ (i := 7) (N := some 64) (v := ?_) (a' := ?_) #[true, true, true, true, true, true, true, true, false, false, false, false, false] rfl rfl (any_of HT_.out (by kernel_rfl)) (fun _ _ _ h => h) (Or.inl ⟨by rfl, ?_⟩) ?_ ?_
                                  rotate_left
                                  · intro w'
                                    go_simp
                                    with_reducible rfl
                                  rotate_left
                                  · simp only [Act.put, List.setIfInBounds_toArray, List.set_cons_zero, List.set_cons_succ, i64_w, i32_w]
                                    rfl
                                  refine pure_ (i := 8) (N := some 65) (v := ?_) (a' := ?_) #[true, true, true, true, true, true, true, true, true, false, false, false, false] rfl rfl (any_of HT_.out (by kernel_rfl)) (fun _ _ _ h => h) (Or.inl ⟨by rfl, ?_⟩) ?_ ?_
                                  rotate_left
                                  · intro w'
                                    go_simp
                                    with_reducible rfl
                                  rotate_left
                                  · simp only [Act.put, List.setIfInBounds_toArray, List.set_cons_zero, List.set_cons_succ, i64_w, i32_w]
                                    rfl
                                  refine pure_ (i := 9) (N := some 66) (v := ?_) (a' := ?_) #[true, true, true, true, true, true, true, true, true, true, false, false, false] rfl rfl (any_of HT_.out (by kernel_rfl)) (fun _ _ _ h => h) (Or.inl ⟨by rfl, ?_⟩) ?_ ?_
                                  rotate_left
                                  · intro w'
                                    go_simp
                                    with_reducible rfl
                                  rotate_left
                                  · simp only [Act.put, List.setIfInBounds_toArray, List.set_cons_zero, List.set_cons_succ, i64_w, i32_w]
                                    rfl
                                  refine pure_ (i := 10) (N := some 11) (v := ?_) (a' := ?_) #[true, true, true, true, true, true, true, true, true, true, true, false, false] rfl rfl (any_of HT_.out (by kernel_rfl)) (fun _ _ _ h => h) (Or.inl ⟨by rfl, ?_⟩) ?_ ?_
                                  rotate_left
                                  · intro w'
                                    go_simp
                                    with_reducible rfl
                                  rotate_left
                                  · simp only [Act.put, List.setIfInBounds_toArray, List.set_cons_zero, List.set_cons_succ, i64_w, i32_w]
                                    rfl
                                  refine pure_ (i := 11) (N := some 12) (v := ?_) (a' := ?_) #[true, true, true, true, true, true, true, true, true, true, true, true, false] rfl rfl (any_of HT_.out (by kernel_rfl)) (fun _ _ _ h => h) (Or.inl ⟨by rfl, ?_⟩) ?_ ?_
                                  rotate_left
                                  · intro w'
                                    go_simp
                                    with_reducible rfl
                                  rotate_left
                                  · simp only [Act.put, List.setIfInBounds_toArray, List.set_cons_zero, List.set_cons_succ, i64_w, i32_w]
                                    rfl
                                  refine pure_ (i := 12) (N := some 13) (v := ?_) (a' := ?_) #[true, true, true, true, true, true, true, true, true, true, true, true, true] rfl rfl (any_of HT_.out (by kernel_rfl)) (fun _ _ _ h => h) (Or.inl ⟨by rfl, ?_⟩) ?_ ?_
                                  rotate_left
                                  · intro w'
                                    go_simp
                                    with_reducible rfl
                                  rotate_left
                                  · simp only [Act.put, List.setIfInBounds_toArray, List.set_cons_zero, List.set_cons_succ, i64_w, i32_w]
                                    rfl
                                  refine done_ (done_of HT_.out (by kernel_rfl)) ?_
                                  go_wp2
                                  have n0_ := Aside0.mk (Kd.R_drew HO_662001.out)
                                  have n1_ := Aside0.mk (Kd.R_drew HO_671001.out)
                                  have n2_ := Aside0.mk (blk_drew BK661.out)
                                  have n3_ := Aside0.mk (blk_drew BK670.out)
                                  have n4_ := Aside0.mk (below_drew1 HB.out)
                                  clear HO_662001
                                  clear HO_671001
                                  clear BK661
                                  clear BK670
                                  clear HB
                                  have HO_662001 := n0_
                                  have HO_671001 := n1_
                                  have BK661 := n2_
                                  have BK670 := n3_
                                  have HB := n4_
                                  clear n0_ n1_ n2_ n3_ n4_
                                  refine start_ (n := 19) (S := fun w' => w'.cell? ⟨gb670, 0, none⟩ = some (.string t664) ∧ w'.cell? ⟨gb670, 1, none⟩ = some (.slice Ao26 t665.length co26)) (ds := []) #[false, false, false, false, false, false, false, false, false, false, false, false, false, false, false, false, false, false, false] (by kernel_rfl) rfl rfl ⟨(blk_cell BK670.out 0).trans rfl, (blk_cell BK670.out 1).trans rfl⟩ (fun hHeld => ?_); refine with_tabW laws_FnAnswers.tab11 laws_FnAnswers.bits11 (fun HT_ HW_ => ?_)
                                  generalize w47.drew = w48 at HO_662001 HO_671001 BK661 BK670 HB hHeld ⊢
                                  refine pure_ (i := 1) (N := some 69) (v := ?_) (a' := ?_) #[false, true, false, false, false, false, false, false, false, false, false, false, false, false, false, false, false, false, false] rfl rfl (any_of HT_.out (by kernel_rfl)) (fun _ _ _ h => h) (Or.inl ⟨by rfl, ?_⟩) ?_ ?_
                                  rotate_left
                                  · intro w'
                                    go_simp
                                    with_reducible rfl
                                  rotate_left
                                  · simp only [Act.put, List.setIfInBounds_toArray, List.set_cons_zero, List.set_cons_succ, i64_w, i32_w]
                                    rfl
                                  refine pure_ (i := 2) (N := some 70) (v := ?_) (a' := ?_) #[false, true, true, false, false, false, false, false, false, false, false, false, false, false, false, false, false, false, false] rfl rfl (any_of HT_.out (by kernel_rfl)) (fun _ _ _ h => h) (Or.inl ⟨by rfl, ?_⟩) ?_ ?_
                                  rotate_left
                                  · intro w'
                                    go_simp
                                    with_reducible rfl
                                  rotate_left
                                  · simp only [Act.put, List.setIfInBounds_toArray, List.set_cons_zero, List.set_cons_succ, i64_w, i32_w]
                                    rfl
                                  refine pure_ (i := 3) (N := some 71) (v := ?_) (a' := ?_) #[false, true, true, true, false, false, false, false, false, false, false, false, false, false, false, false, false, false, false] rfl rfl (any_of HT_.out (by kernel_rfl)) (fun _ _ _ h => h) (Or.inl ⟨by rfl, ?_⟩) ?_ ?_
                                  rotate_left
                                  · intro w'
                                    go_simp
                                    with_reducible rfl
                                  rotate_left
                                  · simp only [Act.put, List.setIfInBounds_toArray, List.set_cons_zero, List.set_cons_succ, i64_w, i32_w]
                                    rfl
                                  refine pure_ (i := 4) (N := some 72) (v := ?_) (a' := ?_) #[false, true, true, true, true, false, false, false, false, false, false, false, false, false, false, false, false, false, false] rfl rfl (any_of HT_.out (by kernel_rfl)) (fun _ _ _ h => h) (Or.inl ⟨by rfl, ?_⟩) ?_ ?_
                                  rotate_left
                                  · intro w'
                                    go_simp
                                    with_reducible rfl
                                  rotate_left
                                  · simp only [Act.put, List.setIfInBounds_toArray, List.set_cons_zero, List.set_cons_succ, i64_w, i32_w]
                                    rfl
                                  refine pure_ (i := 5) (N := some 73) (v := ?_) (a' := ?_) #[false, true, true, true, true, true, false, false, false, false, false, false, false, false, false, false, false, false, false] rfl rfl (any_of HT_.out (by kernel_rfl)) (fun _ _ _ h => h) (Or.inl ⟨by rfl, ?_⟩) ?_ ?_
                                  rotate_left
                                  · intro w'
                                    go_simp
                                    with_reducible rfl
                                  rotate_left
                                  · simp only [Act.put, List.setIfInBounds_toArray, List.set_cons_zero, List.set_cons_succ, i64_w, i32_w]
                                    rfl
                                  refine pure_ (i := 6) (N := some 74) (v := ?_) (a' := ?_) #[false, true, true, true, true, true, true, false, false, false, false, false, false, false, false, false, false, false, false] rfl rfl (any_of HT_.out (by kernel_rfl)) (fun _ _ _ h => h) (Or.inl ⟨by rfl, ?_⟩) ?_ ?_
                                  rotate_left
                                  · intro w'
                                    go_simp
                                    with_reducible rfl
                                  rotate_left
                                  · simp only [Act.put, List.setIfInBounds_toArray, List.set_cons_zero, List.set_cons_succ, i64_w, i32_w]
                                    rfl
                                  refine pure_ (i := 7) (N := some 75) (v := ?_) (a' := ?_) #[false, true, true, true, true, true, true, true, false, false, false, false, false, false, false, false, false, false, false] rfl rfl (any_of HT_.out (by kernel_rfl)) (fun _ _ _ h => h) (Or.inl ⟨by rfl, ?_⟩) ?_ ?_
                                  rotate_left
                                  · intro w'
                                    go_simp
                                    with_reducible rfl
                                  rotate_left
                                  · simp only [Act.put, List.setIfInBounds_toArray, List.set_cons_zero, List.set_cons_succ, i64_w, i32_w]
                                    rfl
                                  refine take_ (i := 0) (N := some 68) (v := ?_) (a' := ?_) #[true, true, true, true, true, true, true, true, false, false, false, false, false, false, false, false, false, false, false] rfl rfl (take_ofW HT_.out HW_.out (by kernel_rfl)) (fun _ _ _ h => h) (Or.inl ⟨by rfl, ?_⟩) hHeld ?_ ?_
                                  rotate_left
                                  · rintro w' ⟨s0, s1⟩
                                    go_simp
                                    with_reducible rfl
                                  rotate_left
                                  · simp only [Act.put, List.setIfInBounds_toArray, List.set_cons_zero, List.set_cons_succ, i64_w, i32_w]
                                    rfl
                                  refine one_ (i := 8) (N := some 76) #[true, true, true, true, true, true, true, true, true, false, false, false, false, false, false, false, false, false, false] rfl rfl (one_of HT_.out (by kernel_rfl)) (by decide) (fun K hK => ?_)
                                  refine goes_ Tryd.func26 (by kernel_rfl) rfl #[.bool (decide (0 < t655.size))] (by rfl) rfl rfl (by (try simp only [List.map_toArray, List.map_cons, List.map_nil]); rfl) ?_
                                  with_reducible refine (laws_flag.calls (decide (0 < t655.size)) t674 _ A33.out).mono ?_
                                  rintro e w' ⟨rfl, rfl⟩
                                  refine ⟨_, rfl, ?_⟩
                                  refine hK.out _ _ ⟨(blk_cell BK670.out 0).trans rfl, (blk_cell BK670.out 1).trans rfl⟩ (fun hHeld => ?_)
                                  clear hK K
                                  refine norm_ (a' := ?_) ?_ ?_
                                  rotate_left
                                  · show Act.put _ (some 76) _ = _
                                    simp only [Act.put, List.setIfInBounds_toArray, List.set_cons_zero, List.set_cons_succ, i64_w, i32_w]
                                    rfl
                                  refine pure_ (i := 9) (N := some 77) (v := ?_) (a' := ?_) #[true, true, true, true, true, true, true, true, true, true, false, false, false, false, false, false, false, false, false] rfl rfl (any_of HT_.out (by kernel_rfl)) (fun _ _ _ h => h) (Or.inl ⟨by rfl, ?_⟩) ?_ ?_
                                  rotate_left
                                  · intro w'
                                    go_simp
                                    with_reducible rfl
                                  rotate_left
                                  · simp only [Act.put, List.setIfInBounds_toArray, List.set_cons_zero, List.set_cons_succ, i64_w, i32_w]
                                    rfl
                                  refine pure_ (i := 10) (N := some 78) (v := ?_) (a' := ?_) #[true, true, true, true, true, true, true, true, true, true, true, false, false, false, false, false, false, false, false] rfl rfl (any_of HT_.out (by kernel_rfl)) (fun _ _ _ h => h) (Or.inl ⟨by rfl, ?_⟩) ?_ ?_
                                  rotate_left
                                  · intro w'
                                    go_simp
                                    with_reducible rfl
                                  rotate_left
                                  · simp only [Act.put, List.setIfInBounds_toArray, List.set_cons_zero, List.set_cons_succ, i64_w, i32_w]
                                    rfl
                                  refine one_ (i := 11) (N := some 79) #[true, true, true, true, true, true, true, true, true, true, true, true, false, false, false, false, false, false, false] rfl rfl (one_of HT_.out (by kernel_rfl)) (by decide) (fun K hK => ?_)
                                  refine goes_ Tryd.func25 (by kernel_rfl) rfl #[.agg #[.string t664, .slice Ao26 t665.length co26], .string (t662.extract (t668 : Int).toNat ((wrap64 ((t662.size : Int) - t674)) : Int).toNat)] (by rfl) rfl rfl (by (try simp only [List.map_toArray, List.map_cons, List.map_nil]); rfl) ?_
                                  with_reducible refine (impl_BodyOf.calls kj11 t664 _ _ t665 (t662.extract (t668 : Int).toNat ((wrap64 ((t662.size : Int) - t674)) : Int).toNat) t675 t676 t677 _ ?side1 ?side2 A37.out).mono ?_
                                  (case side1 => repeat (exact (Kd.R_reads' HO_671001.out).2.2))
                                  (case side2 => exact (Kd.R_reads' HO_671001.out).2.1)
                                  rintro e w49 ⟨rfl, hb⟩
                                  refine ⟨_, rfl, ?_⟩
                                  have n0_ := Aside0.mk (Kd.R_below (by (with_reducible repeat (first | apply Kd.R_alloc | apply Kd.R_drewN | apply Kd.R_drew )); exact HO_662001.out) hb)
                                  have n1_ := Aside0.mk (Kd.R_below (by (with_reducible repeat (first | apply Kd.R_alloc | apply Kd.R_drewN | apply Kd.R_drew )); exact HO_671001.out) hb)
                                  have n2_ := Aside0.mk (blk_below (g := gb661) (o := .cells #[.string (⟨#[72, 84, 84, 80, 47, 49, 46, 49, 32, 50, 48, 48, 32, 111, 107]⟩ : ByteArray), .slice Ao18 y658.length co18] 44 (0, 0)) (by (with_reducible repeat (first | refine blk_drewN ?_ _ | refine blk_drew ?_ | refine blk_alloc ?_ _ )); exact BK661.out) hb)
                                  have n3_ := Aside0.mk (blk_below (g := gb670) (o := .cells #[.string t664, .slice Ao26 t665.length co26] 44 (0, 0)) (by (with_reducible repeat (first | refine blk_drewN ?_ _ | refine blk_drew ?_ | refine blk_alloc ?_ _ )); exact BK670.out) hb)
                                  have n4_ := Aside0.mk (below_step (by repeat ((with_reducible exact HB.out))) hb)
                                  clear HO_662001
                                  clear HO_671001
                                  clear BK661
                                  clear BK670
                                  clear HB
                                  have HO_662001 := n0_
                                  have HO_671001 := n1_
                                  have BK661 := n2_
                                  have BK670 := n3_
                                  have HB := n4_
                                  clear n0_ n1_ n2_ n3_ n4_
                                  (try clear hb)
                                  (try clear hb2)
                                  (try clear hk)
                                  (try clear hi)
                                  refine hK.out _ _ ⟨(blk_cell BK670.out 0).trans rfl, (blk_cell BK670.out 1).trans rfl⟩ (fun hHeld => ?_)
                                  clear hK K
                                  refine norm_ (a' := ?_) ?_ ?_
                                  rotate_left
                                  · show Act.put _ (some 79) _ = _
                                    simp only [Act.put, List.setIfInBounds_toArray, List.set_cons_zero, List.set_cons_succ, i64_w, i32_w]
                                    rfl
                                  refine pure_ (i := 12) (N := some 67) (v := ?_) (a' := ?_) #[true, true, true, true, true, true, true, true, true, true, true, true, true, false, false, false, false, false, false] rfl rfl (any_of HT_.out (by kernel_rfl)) (fun _ _ _ h => h) (Or.inl ⟨by rfl, ?_⟩) ?_ ?_
                                  rotate_left
                                  · intro w'
                                    go_simp
                                    with_reducible rfl
                                  rotate_left
                                  · simp only [Act.put, List.setIfInBounds_toArray, List.set_cons_zero, List.set_cons_succ, i64_w, i32_w]
                                    rfl
                                  refine pure_ (i := 13) (N := some 80) (v := ?_) (a' := ?_) #[true, true, true, true, true, true, true, true, true, true, true, true, true, true, false, false, false, false, false] rfl rfl (any_of HT_.out (by kernel_rfl)) (fun _ _ _ h => h) (Or.inl ⟨by rfl, ?_⟩) ?_ ?_
                                  rotate_left
                                  · intro w'
                                    go_simp
                                    with_reducible rfl
                                  rotate_left
                                  · simp only [Act.put, List.setIfInBounds_toArray, List.set_cons_zero, List.set_cons_succ, i64_w, i32_w]
                                    rfl
                                  refine pure_ (i := 14) (N := some 81) (v := ?_) (a' := ?_) #[true, true, true, true, true, true, true, true, true, true, true, true, true, true, true, false, false, false, false] rfl rfl (any_of HT_.out (by kernel_rfl)) (fun _ _ _ h => h) (Or.inl ⟨by rfl, ?_⟩) ?_ ?_
                                  rotate_left
                                  · intro w'
                                    go_simp
                                    with_reducible rfl
                                  rotate_left
                                  · simp only [Act.put, List.setIfInBounds_toArray, List.set_cons_zero, List.set_cons_succ, i64_w, i32_w]
                                    rfl
                                  refine pure_ (i := 15) (N := some 82) (v := ?_) (a' := ?_) #[true, true, true, true, true, true, true, true, true, true, true, true, true, true, true, true, false, false, false] rfl rfl (any_of HT_.out (by kernel_rfl)) (fun _ _ _ h => h) (Or.inl ⟨by rfl, ?_⟩) ?_ ?_
                                  rotate_left
                                  · intro w'
                                    go_simp
                                    with_reducible rfl
                                  rotate_left
                                  · simp only [Act.put, List.setIfInBounds_toArray, List.set_cons_zero, List.set_cons_succ, i64_w, i32_w]
                                    rfl
                                  refine pure_ (i := 16) (N := some 14) (v := ?_) (a' := ?_) #[true, true, true, true, true, true, true, true, true, true, true, true, true, true, true, true, true, false, false] rfl rfl (any_of HT_.out (by kernel_rfl)) (fun _ _ _ h => h) (Or.inl ⟨by rfl, ?_⟩) ?_ ?_
                                  rotate_left
                                  · intro w'
                                    go_simp
                                    with_reducible rfl
                                  rotate_left
                                  · simp only [Act.put, List.setIfInBounds_toArray, List.set_cons_zero, List.set_cons_succ, i64_w, i32_w]
                                    rfl
                                  refine pure_ (i := 17) (N := some 15) (v := ?_) (a' := ?_) #[true, true, true, true, true, true, true, true, true, true, true, true, true, true, true, true, true, true, false] rfl rfl (any_of HT_.out (by kernel_rfl)) (fun _ _ _ h => h) (Or.inl ⟨by rfl, ?_⟩) ?_ ?_
                                  rotate_left
                                  · intro w'
                                    go_simp
                                    with_reducible rfl
                                  rotate_left
                                  · simp only [Act.put, List.setIfInBounds_toArray, List.set_cons_zero, List.set_cons_succ, i64_w, i32_w]
                                    rfl
                                  refine pure_ (i := 18) (N := some 16) (v := ?_) (a' := ?_) #[true, true, true, true, true, true, true, true, true, true, true, true, true, true, true, true, true, true, true] rfl rfl (any_of HT_.out (by kernel_rfl)) (fun _ _ _ h => h) (Or.inl ⟨by rfl, ?_⟩) ?_ ?_
                                  rotate_left
                                  · intro w'
                                    go_simp
                                    with_reducible rfl
                                  rotate_left
                                  · simp only [Act.put, List.setIfInBounds_toArray, List.set_cons_zero, List.set_cons_succ, i64_w, i32_w]
                                    rfl
                                  refine done_ (done_of HT_.out (by kernel_rfl)) ?_
                                  go_wp2_with (first | ((with_reducible refine gate_callee (f := 27) rfl ?_); refine goesL_ (some 85) rfl rfl Tryd.func27 (by kernel_rfl) rfl #[.slice A0 l0.length c0] rfl (by (try simp only [List.map_toArray, List.map_cons, List.map_nil]); rfl) ?_; (with_reducible refine (spec_DrawAnswerText.calls kj11 _ _ l0 t678 t679 t682 _ ?side1 ?side2 A38.out).mono ?_); (case side1 => repeat (exact (Kd.C_below HR0.out HB.out))); (case side2 => exact HC0.out); rintro e w50 ⟨v680, rfl, ho0, hb⟩; refine ⟨_, rfl, ?_⟩; have n0_ := Aside0.mk (Kd.R_elder' (by (with_reducible repeat (first | apply Kd.R_alloc | apply Kd.R_drewN | apply Kd.R_drew )); exact HO_662001.out) (Kd.R_base ho0) hb); have n1_ := Aside0.mk (Kd.R_elder' (by (with_reducible repeat (first | apply Kd.R_alloc | apply Kd.R_drewN | apply Kd.R_drew )); exact HO_671001.out) (Kd.R_base ho0) hb); have n2_ := Aside0.mk (Kd.R_lower (Kd.R_new' (Kd.R_new' ho0 (Kd.R_lt (by (with_reducible repeat (first | apply Kd.R_alloc | apply Kd.R_drewN | apply Kd.R_drew )); exact HO_662001.out))) (Kd.R_lt (by (with_reducible repeat (first | apply Kd.R_alloc | apply Kd.R_drewN | apply Kd.R_drew )); exact HO_671001.out))) (below_size (by repeat ((with_reducible exact HB.out))))); have n3_ := Aside0.mk (blk_below (g := gb661) (o := .cells #[.string (⟨#[72, 84, 84, 80, 47, 49, 46, 49, 32, 50, 48, 48, 32, 111, 107]⟩ : ByteArray), .slice Ao18 y658.length co18] 44 (0, 0)) (by (with_reducible repeat (first | refine blk_drewN ?_ _ | refine blk_drew ?_ | refine blk_alloc ?_ _ )); exact BK661.out) hb); have n4_ := Aside0.mk (blk_below (g := gb670) (o := .cells #[.string t664, .slice Ao26 t665.length co26] 44 (0, 0)) (by (with_reducible repeat (first | refine blk_drewN ?_ _ | refine blk_drew ?_ | refine blk_alloc ?_ _ )); exact BK670.out) hb); have n5_ := Aside0.mk (below_step (by repeat ((with_reducible exact HB.out))) hb); clear HO_662001; clear HO_671001; clear BK661; clear BK670; clear HB; have HO_662001 := n0_; have HO_671001 := n1_; have HO681 := n2_; have BK661 := n3_; have BK670 := n4_; have HB := n5_; clear n0_ n1_ n2_ n3_ n4_ n5_; (try clear hb); (try clear hb2); (try clear hk); (try clear hi); (try clear ho0)) | ((with_reducible refine gate_dst (N := 17) rfl ?_); (try (refine gate_guard (by rfl) ?_; dsimp only)); refine box_event ?hg (N := 17) ?hd (cs := #[.string (⟨#[]⟩ : ByteArray), .slice none 0 0]) (t := 44) ?hr ?_; (case hd => rfl); (case hg => rfl); (case hr => (go_simp; done)); intro gb683 hg w51 hbox hb; have n0_ := Aside0.mk (Kd.R_below (by (with_reducible repeat (first | apply Kd.R_alloc | apply Kd.R_drewN | apply Kd.R_drew )); exact HO_662001.out) hb); have n1_ := Aside0.mk (Kd.R_below (by (with_reducible repeat (first | apply Kd.R_alloc | apply Kd.R_drewN | apply Kd.R_drew )); exact HO_671001.out) hb); have n2_ := Aside0.mk (Kd.R_below (by (with_reducible repeat (first | apply Kd.R_alloc | apply Kd.R_drewN | apply Kd.R_drew )); exact HO681.out) hb); have n3_ := Aside0.mk (blk_below (g := gb661) (o := .cells #[.string (⟨#[72, 84, 84, 80, 47, 49, 46, 49, 32, 50, 48, 48, 32, 111, 107]⟩ : ByteArray), .slice Ao18 y658.length co18] 44 (0, 0)) (by (with_reducible repeat (first | refine blk_drewN ?_ _ | refine blk_drew ?_ | refine blk_alloc ?_ _ )); exact BK661.out) hb); have n4_ := Aside0.mk (blk_below (g := gb670) (o := .cells #[.string t664, .slice Ao26 t665.length co26] 44 (0, 0)) (by (with_reducible repeat (first | refine blk_drewN ?_ _ | refine blk_drew ?_ | refine blk_alloc ?_ _ )); exact BK670.out) hb); have n5_ := Aside0.mk (below_step (by repeat ((with_reducible exact HB.out))) hb); have n6_ := Aside0.mk (hbox); have n7_ := Aside0.mk ((by rw [hg]; exact (below_size (by repeat ((with_reducible exact HB.out)))) : w.heap.size ≤ gb683)); have n8_ := Aside0.mk ((by rw [hg]; exact (below_size (by repeat ((with_reducible exact HB.out)))) : w.heap.size ≤ gb683)); have n9_ := Aside0.mk ((by rw [hg]; exact Nat.ne_of_lt (blk_lt (g := gb661) (o := .cells #[.string (⟨#[72, 84, 84, 80, 47, 49, 46, 49, 32, 50, 48, 48, 32, 111, 107]⟩ : ByteArray), .slice Ao18 y658.length co18] 44 (0, 0)) (by (with_reducible repeat (first | refine blk_drewN ?_ _ | refine blk_drew ?_ | refine blk_alloc ?_ _ )); exact BK661.out)) : gb661 ≠ gb683)); have n10_ := Aside0.mk ((by rw [hg]; exact Nat.ne_of_gt (blk_lt (g := gb661) (o := .cells #[.string (⟨#[72, 84, 84, 80, 47, 49, 46, 49, 32, 50, 48, 48, 32, 111, 107]⟩ : ByteArray), .slice Ao18 y658.length co18] 44 (0, 0)) (by (with_reducible repeat (first | refine blk_drewN ?_ _ | refine blk_drew ?_ | refine blk_alloc ?_ _ )); exact BK661.out)) : gb683 ≠ gb661)); have n11_ := Aside0.mk ((by rw [hg]; exact Nat.ne_of_lt (blk_lt (g := gb670) (o := .cells #[.string t664, .slice Ao26 t665.length co26] 44 (0, 0)) (by (with_reducible repeat (first | refine blk_drewN ?_ _ | refine blk_drew ?_ | refine blk_alloc ?_ _ )); exact BK670.out)) : gb670 ≠ gb683)); have n12_ := Aside0.mk ((by rw [hg]; exact Nat.ne_of_gt (blk_lt (g := gb670) (o := .cells #[.string t664, .slice Ao26 t665.length co26] 44 (0, 0)) (by (with_reducible repeat (first | refine blk_drewN ?_ _ | refine blk_drew ?_ | refine blk_alloc ?_ _ )); exact BK670.out)) : gb683 ≠ gb670)); clear HO_662001; clear HO_671001; clear HO681; clear BK661; clear BK670; clear HB; have HO_662001 := n0_; have HO_671001 := n1_; have HO681 := n2_; have BK661 := n3_; have BK670 := n4_; have HB := n5_; have BK683 := n6_; have GW683 := n7_; have GE683 := n8_; have NB661_683 := n9_; have NB683_661 := n10_; have NB670_683 := n11_; have NB683_670 := n12_; clear n0_ n1_ n2_ n3_ n4_ n5_ n6_ n7_ n8_ n9_ n10_ n11_ n12_; clear hb hbox hg; have hnb52 := NB683_661.out; have hnc52 := NB661_683.out; have hnb53 := NB683_670.out; have hnc53 := NB670_683.out; have hcz54_0 : w51.cell? ⟨gb683, 0, none⟩ = some (.string (⟨#[]⟩ : ByteArray)) := (blk_cell BK683.out 0).trans rfl; have hcz54_1 : w51.cell? ⟨gb683, 1, none⟩ = some (.slice none 0 0) := (blk_cell BK683.out 1).trans rfl; have hfz54_0 := blk_frozen BK683.out 0; have hfz54_1 := blk_frozen BK683.out 1; obtain ⟨Ao55, co55, eo55⟩ := Kd.R_slice HO681.out; subst eo55) | ((with_reducible refine gate_callee (f := 23) rfl ?_); refine goesL_ (some 91) rfl rfl Tryd.func23 (by kernel_rfl) rfl #[.agg #[.string t678, .slice Ao55 t679.length co55], .string t682] rfl (by (try simp only [List.map_toArray, List.map_cons, List.map_nil]); rfl) ?_; (with_reducible refine (impl_AnswerText.calls kj11 t678 _ _ t679 t682 t684 t685 _ ?side1 ?side2 ?side3 A39.out).mono ?_); (case side1 => refine (Kd.R_reads' (e := 41) (base := w.heap.size) (ok := fun k_ => ((True ∧ some k_ ≠ (.slice Ao18 y658.length co18 : Value).ownBlock) ∧ some k_ ≠ (.slice Ao26 t665.length co26 : Value).ownBlock)) (n := t679.length) (c := co55) ?_).2.2; exact (by (with_reducible repeat (first | apply Kd.R_alloc | apply Kd.R_drewN | apply Kd.R_drew )); exact (Kd.R_mono (Kd.R_far (p := ⟨gb683, 1, none⟩) (Kd.R_far (p := ⟨gb683, 0, none⟩) (Kd.R_types HO681.out BK683.out (by decide)) (fun _ hk => hk.2) (.string t678)) (fun _ hk => hk.2) (.slice Ao55 t679.length co55)) (fun _ h_ => by exact h_.1)))); (case side2 => exact (Kd.R_reads' HO681.out).2.1); (case side3 => exact Tab.below HTB.out (by repeat ((with_reducible first | exact HB.out | refine below_set ?_ GE683.out)))); rintro e w56 ⟨rfl, hb⟩; refine ⟨_, rfl, ?_⟩; have n0_ := Aside0.mk (Kd.R_below (by (with_reducible repeat (first | apply Kd.R_alloc | apply Kd.R_drewN | apply Kd.R_drew )); exact (Kd.R_mono (Kd.R_far (p := ⟨gb683, 1, none⟩) (Kd.R_far (p := ⟨gb683, 0, none⟩) (Kd.R_types HO_662001.out BK683.out (by decide)) (fun _ hk => hk.2) (.string t678)) (fun _ hk => hk.2) (.slice Ao55 t679.length co55)) (fun _ h_ => by exact h_.1))) hb); have n1_ := Aside0.mk (Kd.R_below (by (with_reducible repeat (first | apply Kd.R_alloc | apply Kd.R_drewN | apply Kd.R_drew )); exact (Kd.R_mono (Kd.R_far (p := ⟨gb683, 1, none⟩) (Kd.R_far (p := ⟨gb683, 0, none⟩) (Kd.R_types HO_671001.out BK683.out (by decide)) (fun _ hk => hk.2) (.string t678)) (fun _ hk => hk.2) (.slice Ao55 t679.length co55)) (fun _ h_ => by exact h_.1))) hb); have n2_ := Aside0.mk (Kd.R_below (by (with_reducible repeat (first | apply Kd.R_alloc | apply Kd.R_drewN | apply Kd.R_drew )); exact (Kd.R_mono (Kd.R_far (p := ⟨gb683, 1, none⟩) (Kd.R_far (p := ⟨gb683, 0, none⟩) (Kd.R_types HO681.out BK683.out (by decide)) (fun _ hk => hk.2) (.string t678)) (fun _ hk => hk.2) (.slice Ao55 t679.length co55)) (fun _ h_ => by exact h_.1))) hb); have n3_ := Aside0.mk (blk_below (g := gb661) (o := .cells #[.string (⟨#[72, 84, 84, 80, 47, 49, 46, 49, 32, 50, 48, 48, 32, 111, 107]⟩ : ByteArray), .slice Ao18 y658.length co18] 44 (0, 0)) (by (with_reducible repeat (first | refine blk_drewN ?_ _ | refine blk_drew ?_ | refine blk_alloc ?_ _ )); refine blk_far ?_ NB661_683.out _; (with_reducible repeat (first | refine blk_drewN ?_ _ | refine blk_drew ?_ | refine blk_alloc ?_ _ )); refine blk_far ?_ NB661_683.out _; (with_reducible repeat (first | refine blk_drewN ?_ _ | refine blk_drew ?_ | refine blk_alloc ?_ _ )); exact BK661.out) hb); have n4_ := Aside0.mk (blk_below (g := gb670) (o := .cells #[.string t664, .slice Ao26 t665.length co26] 44 (0, 0)) (by (with_reducible repeat (first | refine blk_drewN ?_ _ | refine blk_drew ?_ | refine blk_alloc ?_ _ )); refine blk_far ?_ NB670_683.out _; (with_reducible repeat (first | refine blk_drewN ?_ _ | refine blk_drew ?_ | refine blk_alloc ?_ _ )); refine blk_far ?_ NB670_683.out _; (with_reducible repeat (first | refine blk_drewN ?_ _ | refine blk_drew ?_ | refine blk_alloc ?_ _ )); exact BK670.out) hb); have n5_ := Aside0.mk (blk_below (g := gb683) (o := .cells #[.string t678, .slice Ao55 t679.length co55] 44 (0, 0)) (by (with_reducible repeat (first | refine blk_drewN ?_ _ | refine blk_drew ?_ | refine blk_alloc ?_ _ )); refine blk_put (cs := #[.string t678, .slice none 0 0]) ?_ 1 _ rfl; (with_reducible repeat (first | refine blk_drewN ?_ _ | refine blk_drew ?_ | refine blk_alloc ?_ _ )); refine blk_put (cs := #[.string (⟨#[]⟩ : ByteArray), .slice none 0 0]) ?_ 0 _ rfl; (with_reducible repeat (first | refine blk_drewN ?_ _ | refine blk_drew ?_ | refine blk_alloc ?_ _ )); exact BK683.out) hb); have n6_ := Aside0.mk (below_step (by repeat ((with_reducible first | exact HB.out | refine below_set ?_ GE683.out))) hb); clear HO_662001; clear HO_671001; clear HO681; clear BK661; clear BK670; clear BK683; clear HB; have HO_662001 := n0_; have HO_671001 := n1_; have HO681 := n2_; have BK661 := n3_; have BK670 := n4_; have BK683 := n5_; have HB := n6_; clear n0_ n1_ n2_ n3_ n4_ n5_ n6_; (try clear hb); (try clear hb2); (try clear hk); (try clear hi); have hcz57_0 : w56.cell? ⟨gb683, 0, none⟩ = some (.string t678) := (blk_cell BK683.out 0).trans rfl; have hcz57_1 : w56.cell? ⟨gb683, 1, none⟩ = some (.slice Ao55 t679.length co55) := (blk_cell BK683.out 1).trans rfl; have hfz57_0 := blk_frozen BK683.out 0; have hfz57_1 := blk_frozen BK683.out 1) | ((with_reducible refine gate_callee (f := 28) rfl ?_); refine goesL_ (some 97) rfl rfl Tryd.func28 (by kernel_rfl) rfl #[.agg #[.string t678, .slice Ao55 t679.length co55], .string t682] rfl (by (try simp only [List.map_toArray, List.map_cons, List.map_nil]); rfl) ?_; (with_reducible refine (spec_AnswerText.calls kj11 t678 _ _ t679 t682 t686 t687 _ ?side1 ?side2 A40.out).mono ?_); (case side1 => repeat (exact (Kd.R_reads' HO681.out).2.2)); (case side2 => exact (Kd.R_reads' HO681.out).2.1); rintro e w58 ⟨rfl, hb⟩; refine ⟨_, rfl, ?_⟩; have n0_ := Aside0.mk (Kd.R_below (by (with_reducible repeat (first | apply Kd.R_alloc | apply Kd.R_drewN | apply Kd.R_drew )); exact HO_662001.out) hb); have n1_ := Aside0.mk (Kd.R_below (by (with_reducible repeat (first | apply Kd.R_alloc | apply Kd.R_drewN | apply Kd.R_drew )); exact HO_671001.out) hb); have n2_ := Aside0.mk (Kd.R_below (by (with_reducible repeat (first | apply Kd.R_alloc | apply Kd.R_drewN | apply Kd.R_drew )); exact HO681.out) hb); have n3_ := Aside0.mk (blk_below (g := gb661) (o := .cells #[.string (⟨#[72, 84, 84, 80, 47, 49, 46, 49, 32, 50, 48, 48, 32, 111, 107]⟩ : ByteArray), .slice Ao18 y658.length co18] 44 (0, 0)) (by (with_reducible repeat (first | refine blk_drewN ?_ _ | refine blk_drew ?_ | refine blk_alloc ?_ _ )); exact BK661.out) hb); have n4_ := Aside0.mk (blk_below (g := gb670) (o := .cells #[.string t664, .slice Ao26 t665.length co26] 44 (0, 0)) (by (with_reducible repeat (first | refine blk_drewN ?_ _ | refine blk_drew ?_ | refine blk_alloc ?_ _ )); exact BK670.out) hb); have n5_ := Aside0.mk (blk_below (g := gb683) (o := .cells #[.string t678, .slice Ao55 t679.length co55] 44 (0, 0)) (by (with_reducible repeat (first | refine blk_drewN ?_ _ | refine blk_drew ?_ | refine blk_alloc ?_ _ )); exact BK683.out) hb); have n6_ := Aside0.mk (below_step (by repeat ((with_reducible exact HB.out))) hb); clear HO_662001; clear HO_671001; clear HO681; clear BK661; clear BK670; clear BK683; clear HB; have HO_662001 := n0_; have HO_671001 := n1_; have HO681 := n2_; have BK661 := n3_; have BK670 := n4_; have BK683 := n5_; have HB := n6_; clear n0_ n1_ n2_ n3_ n4_ n5_ n6_; (try clear hb); (try clear hb2); (try clear hk); (try clear hi)))
                                  go_ret
                                  exact ⟨by rfl, by repeat ((with_reducible exact HB.out))⟩
                                · rw [if_neg c45] at H
                                  exact absurd H (by simp)
                              · rw [if_neg c44] at H
                                exact absurd H (by simp)
                            · rw [if_neg c43] at H
                              exact absurd H (by simp)
                          · rw [if_neg c42] at H
                            exact absurd H (by simp)
                        · rw [if_neg c41] at H
                          exact absurd H (by simp)
                      · rw [if_neg c36] at H
                        exact absurd H (by simp)
                    · rw [if_neg c35] at H
                      exact absurd H (by simp)
                  · rw [if_neg c31] at H
                    exact absurd H (by simp)
                · rw [if_neg c30] at H
                  exact absurd H (by simp)
              · rw [if_neg c29] at H
                exact absurd H (by simp)
      · rw [if_neg c8] at H
        exact absurd H (by simp)
    · rw [if_neg c6] at H
      exact absurd H (by simp)
end Go.Proofs.YthjigecaojaalaaDoor.Q
