import Derived.Test.YtdbhpcekjcohdaaU0
import Derived.Test.YtdbhpcekjcohdaaG28
import Derived.Test.YtdbhpcekjcohdaaG29
import Derived.Test.YtdbhpcekjcohdaaG31
import Derived.Test.YtdbhpcekjcohdaaG46
namespace Go.Proofs.Ytdbhpcekjcohdaa.Q
open Go.RowKit Go.Proofs.YtdbhpcekjcohdaaW.PrintWords Go.Proofs.YtdbhpcekjcohdaaW.PrintLast Go.Proofs.YtdbhpcekjcohdaaW.PrintMore
attribute [local go_sem] max2_int min2_int max_two min_two max_three min_three max_four min_four   -- for this text's walks alone
set_option linter.unusedVariables false
set_option linter.unusedSimpArgs false

/-! ### laws_FnExactAdvanceEpoch: function 8 -/
mutual
def laws_FnExactAdvanceEpoch.j0 : Nat → Bool → Bool → Bool → Int → List Int → List (S70) → Int → List Int → List (S57) → Int → List Int → List (S57) → Int → List Int → List (S57) → Option (Bool)
  | 0, _, _, _, _, _, _, _, _, _, _, _, _, _, _, _ => none
  | k + 1, x5, x8, x40, x629000, x629001, x629002, x646000, x646001, x646002, x654000, x654001, x654002, x663000, x663001, x663002 => if x40 = true then (none) else ((laws_toEpochs.f k x629000 x629001 x629002).bind fun bt664 => ((laws_eqEpochs.f k x654000 x654001 x654002 bt664.1 bt664.2.1 bt664.2.2).bind fun t671 => (if t671 = true then ((laws_markEpochs.f k x654000 x654001 x654002 1).bind fun bt672 => (if bt672.1 < 0 then (laws_FnExactAdvanceEpoch.j1 k x5 true x629000 x629001 x629002 x646000 x646001 x646002 x663000 x663001 x663002) else ((laws_eqEpochs.f k x663000 x663001 x663002 x646000 x646001 x646002).bind fun t675 => (if t675 = true then (laws_FnExactAdvanceEpoch.j1 k x5 (x8 != x5) x629000 x629001 x629002 x646000 x646001 x646002 x663000 x663001 x663002) else (laws_FnExactAdvanceEpoch.j1 k x5 true x629000 x629001 x629002 x646000 x646001 x646002 x663000 x663001 x663002))))) else (none))))
def laws_FnExactAdvanceEpoch.j1 : Nat → Bool → Bool → Int → List Int → List (S70) → Int → List Int → List (S57) → Int → List Int → List (S57) → Option (Bool)
  | 0, _, _, _, _, _, _, _, _, _, _, _ => none
  | k + 1, x5, x61, x629000, x629001, x629002, x646000, x646001, x646002, x663000, x663001, x663002 => if x61 = true then (none) else ((laws_markEpochs.f k x663000 x663001 x663002 1).bind fun bt676 => ((laws_heldEpochs.f k x663000 bt676.2.1 bt676.2.2 1).bind fun t679 => (if t679 < 0 then (none) else (if t679 = bt676.1 then ((laws_toEpochs.f k x629000 x629001 x629002).bind fun bt680 => ((impl_AdvanceEpoch.f k bt680.1 bt680.2.1 bt680.2.2).bind fun bt687 => ((laws_eqEpochs.f k bt687.1 bt687.2.1 bt687.2.2.1 x646000 x646001 x646002).bind fun t696 => (if t696 = true then (laws_FnExactAdvanceEpoch.j2 k bt676.1 (bt687.2.2.2 != x5) x663000 bt676.2.1 bt676.2.2) else (laws_FnExactAdvanceEpoch.j2 k bt676.1 true x663000 bt676.2.1 bt676.2.2))))) else (none)))))
def laws_FnExactAdvanceEpoch.j2 : Nat → Int → Bool → Int → List Int → List (S57) → Option (Bool)
  | 0, _, _, _, _, _ => none
  | k + 1, x10, x87, x663000, x663001, x663002 => if x87 = true then (none) else ((laws_heldEpochs.f k x663000 x663001 x663002 1).bind fun t697 => (if t697 < 0 then (none) else (if t697 = x10 then (some true) else (none))))
end
def laws_FnExactAdvanceEpoch.f (k : Nat) (a0_0 : Int) (l0_1 : List Int) (l0_2 : List (S70)) : Option (Bool) := (laws_szEpochs.f a0_0 l0_1 l0_2 1048576).bind fun t629 => (if t629 < 0 then (some true) else ((laws_toEpochs.f k a0_0 l0_1 l0_2).bind fun bt630 => ((spec_AdvanceEpoch.f k bt630.1 bt630.2.1 bt630.2.2).bind fun bt637 => ((laws_toEpochs.f k a0_0 l0_1 l0_2).bind fun bt646 => ((impl_AdvanceEpoch.f k bt646.1 bt646.2.1 bt646.2.2).bind fun bt654 => ((laws_eqEpochs.f k bt654.1 bt654.2.1 bt654.2.2.1 bt637.1 bt637.2.1 bt637.2.2.1).bind fun t663 => (if t663 = true then (laws_FnExactAdvanceEpoch.j0 k bt637.2.2.2 bt654.2.2.2 (bt654.2.2.2 != bt637.2.2.2) a0_0 l0_1 l0_2 bt637.1 bt637.2.1 bt637.2.2.1 bt646.1 bt646.2.1 bt646.2.2 bt654.1 bt654.2.1 bt654.2.2.1) else (laws_FnExactAdvanceEpoch.j0 k bt637.2.2.2 bt654.2.2.2 true a0_0 l0_1 l0_2 bt637.1 bt637.2.1 bt637.2.2.1 bt646.1 bt646.2.1 bt646.2.2 bt654.1 bt654.2.1 bt654.2.2.1))))))))
theorem laws_FnExactAdvanceEpoch.mono_l : ∀ k, (∀ y0 y1 y2 y3 y4 y5 y6 y7 y8 y9 y10 y11 y12 y13 y14, LeO (laws_FnExactAdvanceEpoch.j0 k y0 y1 y2 y3 y4 y5 y6 y7 y8 y9 y10 y11 y12 y13 y14) (laws_FnExactAdvanceEpoch.j0 (k + 1) y0 y1 y2 y3 y4 y5 y6 y7 y8 y9 y10 y11 y12 y13 y14)) ∧ (∀ y0 y1 y2 y3 y4 y5 y6 y7 y8 y9 y10, LeO (laws_FnExactAdvanceEpoch.j1 k y0 y1 y2 y3 y4 y5 y6 y7 y8 y9 y10) (laws_FnExactAdvanceEpoch.j1 (k + 1) y0 y1 y2 y3 y4 y5 y6 y7 y8 y9 y10)) ∧ (∀ y0 y1 y2 y3 y4, LeO (laws_FnExactAdvanceEpoch.j2 k y0 y1 y2 y3 y4) (laws_FnExactAdvanceEpoch.j2 (k + 1) y0 y1 y2 y3 y4))
  | 0 => ⟨fun _ _ _ _ _ _ _ _ _ _ _ _ _ _ _ r h => by simp [laws_FnExactAdvanceEpoch.j0] at h, fun _ _ _ _ _ _ _ _ _ _ _ r h => by simp [laws_FnExactAdvanceEpoch.j1] at h, fun _ _ _ _ _ r h => by simp [laws_FnExactAdvanceEpoch.j2] at h⟩
  | k + 1 => by
    obtain ⟨ih0, ih1, ih2⟩ := laws_FnExactAdvanceEpoch.mono_l k
    refine ⟨?_, ?_, ?_⟩
    · intro y0 y1 y2 y3 y4 y5 y6 y7 y8 y9 y10 y11 y12 y13 y14
      unfold laws_FnExactAdvanceEpoch.j0
      repeat' first
      | (with_reducible exact ih0 _ _ _ _ _ _ _ _ _ _ _ _ _ _ _)
      | (with_reducible exact ih1 _ _ _ _ _ _ _ _ _ _ _)
      | (with_reducible exact ih2 _ _ _ _ _)
      | (with_reducible exact impl_AdvanceEpoch.mono _ _ _ _)
      | (with_reducible exact laws_eqEpochs.mono _ _ _ _ _ _ _)
      | (with_reducible exact laws_heldEpochs.mono _ _ _ _ _)
      | (with_reducible exact laws_markEpochs.mono _ _ _ _ _)
      | (with_reducible exact laws_toEpochs.mono _ _ _ _)
      | (with_reducible exact spec_AdvanceEpoch.mono _ _ _ _)
      | (with_reducible exact LeO.refl _)
      | (with_reducible exact LeO.none _)
      | (with_reducible refine LeO.ite ?_ ?_)
      | (with_reducible refine LeO.bind ?_ (fun _ => ?_))
      | exact ih0 _ _ _ _ _ _ _ _ _ _ _ _ _ _ _
      | exact ih1 _ _ _ _ _ _ _ _ _ _ _
      | exact ih2 _ _ _ _ _
      | exact impl_AdvanceEpoch.mono _ _ _ _
      | exact laws_eqEpochs.mono _ _ _ _ _ _ _
      | exact laws_heldEpochs.mono _ _ _ _ _
      | exact laws_markEpochs.mono _ _ _ _ _
      | exact laws_toEpochs.mono _ _ _ _
      | exact spec_AdvanceEpoch.mono _ _ _ _
      | exact LeO.none _
      | refine LeO.ite ?_ ?_
      | refine LeO.bind ?_ (fun _ => ?_)
    · intro y0 y1 y2 y3 y4 y5 y6 y7 y8 y9 y10
      unfold laws_FnExactAdvanceEpoch.j1
      repeat' first
      | (with_reducible exact ih0 _ _ _ _ _ _ _ _ _ _ _ _ _ _ _)
      | (with_reducible exact ih1 _ _ _ _ _ _ _ _ _ _ _)
      | (with_reducible exact ih2 _ _ _ _ _)
      | (with_reducible exact impl_AdvanceEpoch.mono _ _ _ _)
      | (with_reducible exact laws_eqEpochs.mono _ _ _ _ _ _ _)
      | (with_reducible exact laws_heldEpochs.mono _ _ _ _ _)
      | (with_reducible exact laws_markEpochs.mono _ _ _ _ _)
      | (with_reducible exact laws_toEpochs.mono _ _ _ _)
      | (with_reducible exact spec_AdvanceEpoch.mono _ _ _ _)
      | (with_reducible exact LeO.refl _)
      | (with_reducible exact LeO.none _)
      | (with_reducible refine LeO.ite ?_ ?_)
      | (with_reducible refine LeO.bind ?_ (fun _ => ?_))
      | exact ih0 _ _ _ _ _ _ _ _ _ _ _ _ _ _ _
      | exact ih1 _ _ _ _ _ _ _ _ _ _ _
      | exact ih2 _ _ _ _ _
      | exact impl_AdvanceEpoch.mono _ _ _ _
      | exact laws_eqEpochs.mono _ _ _ _ _ _ _
      | exact laws_heldEpochs.mono _ _ _ _ _
      | exact laws_markEpochs.mono _ _ _ _ _
      | exact laws_toEpochs.mono _ _ _ _
      | exact spec_AdvanceEpoch.mono _ _ _ _
      | exact LeO.none _
      | refine LeO.ite ?_ ?_
      | refine LeO.bind ?_ (fun _ => ?_)
    · intro y0 y1 y2 y3 y4
      unfold laws_FnExactAdvanceEpoch.j2
      repeat' first
      | (with_reducible exact ih0 _ _ _ _ _ _ _ _ _ _ _ _ _ _ _)
      | (with_reducible exact ih1 _ _ _ _ _ _ _ _ _ _ _)
      | (with_reducible exact ih2 _ _ _ _ _)
      | (with_reducible exact impl_AdvanceEpoch.mono _ _ _ _)
      | (with_reducible exact laws_eqEpochs.mono _ _ _ _ _ _ _)
      | (with_reducible exact laws_heldEpochs.mono _ _ _ _ _)
      | (with_reducible exact laws_markEpochs.mono _ _ _ _ _)
      | (with_reducible exact laws_toEpochs.mono _ _ _ _)
      | (with_reducible exact spec_AdvanceEpoch.mono _ _ _ _)
      | (with_reducible exact LeO.refl _)
      | (with_reducible exact LeO.none _)
      | (with_reducible refine LeO.ite ?_ ?_)
      | (with_reducible refine LeO.bind ?_ (fun _ => ?_))
      | exact ih0 _ _ _ _ _ _ _ _ _ _ _ _ _ _ _
      | exact ih1 _ _ _ _ _ _ _ _ _ _ _
      | exact ih2 _ _ _ _ _
      | exact impl_AdvanceEpoch.mono _ _ _ _
      | exact laws_eqEpochs.mono _ _ _ _ _ _ _
      | exact laws_heldEpochs.mono _ _ _ _ _
      | exact laws_markEpochs.mono _ _ _ _ _
      | exact laws_toEpochs.mono _ _ _ _
      | exact spec_AdvanceEpoch.mono _ _ _ _
      | exact LeO.none _
      | refine LeO.ite ?_ ?_
      | refine LeO.bind ?_ (fun _ => ?_)
theorem laws_FnExactAdvanceEpoch.mono : ∀ a0 a1 a2 k, LeO (laws_FnExactAdvanceEpoch.f k a0 a1 a2) (laws_FnExactAdvanceEpoch.f (k + 1) a0 a1 a2) := by
  intro a0 a1 a2 k
  obtain ⟨ih0, ih1, ih2⟩ := laws_FnExactAdvanceEpoch.mono_l k
  unfold laws_FnExactAdvanceEpoch.f
  repeat' first
      | (with_reducible exact ih0 _ _ _ _ _ _ _ _ _ _ _ _ _ _ _)
      | (with_reducible exact ih1 _ _ _ _ _ _ _ _ _ _ _)
      | (with_reducible exact ih2 _ _ _ _ _)
      | (with_reducible exact impl_AdvanceEpoch.mono _ _ _ _)
      | (with_reducible exact laws_eqEpochs.mono _ _ _ _ _ _ _)
      | (with_reducible exact laws_heldEpochs.mono _ _ _ _ _)
      | (with_reducible exact laws_markEpochs.mono _ _ _ _ _)
      | (with_reducible exact laws_toEpochs.mono _ _ _ _)
      | (with_reducible exact spec_AdvanceEpoch.mono _ _ _ _)
      | (with_reducible exact LeO.refl _)
      | (with_reducible exact LeO.none _)
      | (with_reducible refine LeO.ite ?_ ?_)
      | (with_reducible refine LeO.bind ?_ (fun _ => ?_))
      | exact ih0 _ _ _ _ _ _ _ _ _ _ _ _ _ _ _
      | exact ih1 _ _ _ _ _ _ _ _ _ _ _
      | exact ih2 _ _ _ _ _
      | exact impl_AdvanceEpoch.mono _ _ _ _
      | exact laws_eqEpochs.mono _ _ _ _ _ _ _
      | exact laws_heldEpochs.mono _ _ _ _ _
      | exact laws_markEpochs.mono _ _ _ _ _
      | exact laws_toEpochs.mono _ _ _ _
      | exact spec_AdvanceEpoch.mono _ _ _ _
      | exact LeO.none _
      | refine LeO.ite ?_ ?_
      | refine LeO.bind ?_ (fun _ => ?_)
set_option maxHeartbeats 8000000 in
set_option maxRecDepth 100000 in
theorem laws_FnExactAdvanceEpoch.calls (k : Nat) (a0_0 : Int) (A0_1 : Option Addr) (c0_1 : Nat) (l0_1 : List Int) (A0_2 : Option Addr) (c0_2 : Nat) (l0_2 : List (S70)) (r : Bool) (w : World) (hr0_1 : Kd.C (Kd.int .i64) w A0_1 l0_1.length l0_1) (hc0_1 : l0_1.length ≤ c0_1) (hr0_2 : Kd.C k70 w A0_2 l0_2.length l0_2) (hc0_2 : l0_2.length ≤ c0_2) (h : laws_FnExactAdvanceEpoch.f k a0_0 l0_1 l0_2 = some r) :
    Calls Try.prog 8 #[.agg #[.int .i64 a0_0, .slice A0_1 l0_1.length c0_1, .slice A0_2 l0_2.length c0_2]] w fun e w' => e = .returned (.bool r) ∧ Below w.heap.size w w' := by
  have hu32 := Try.underlying32
  have hu25 := Try.underlying25
  have HR0_1 := Aside0.mk hr0_1
  have HC0_1 := Aside0.mk hc0_1
  clear hr0_1 hc0_1
  have HR0_2 := Aside0.mk hr0_2
  have HC0_2 := Aside0.mk hc0_2
  clear hr0_2 hc0_2
  have HB := Aside0.mk (Below.refl w.heap.size w)
  have H : ((laws_szEpochs.f a0_0 l0_1 l0_2 1048576).bind fun t629 => (if t629 < 0 then (some true) else ((laws_toEpochs.f k a0_0 l0_1 l0_2).bind fun bt630 => ((spec_AdvanceEpoch.f k bt630.1 bt630.2.1 bt630.2.2).bind fun bt637 => ((laws_toEpochs.f k a0_0 l0_1 l0_2).bind fun bt646 => ((impl_AdvanceEpoch.f k bt646.1 bt646.2.1 bt646.2.2).bind fun bt654 => ((laws_eqEpochs.f k bt654.1 bt654.2.1 bt654.2.2.1 bt637.1 bt637.2.1 bt637.2.2.1).bind fun t663 => (if t663 = true then (laws_FnExactAdvanceEpoch.j0 k bt637.2.2.2 bt654.2.2.2 (bt654.2.2.2 != bt637.2.2.2) a0_0 l0_1 l0_2 bt637.1 bt637.2.1 bt637.2.2.1 bt646.1 bt646.2.1 bt646.2.2 bt654.1 bt654.2.1 bt654.2.2.1) else (laws_FnExactAdvanceEpoch.j0 k bt637.2.2.2 bt654.2.2.2 true a0_0 l0_1 l0_2 bt637.1 bt637.2.1 bt637.2.2.1 bt646.1 bt646.2.1 bt646.2.2 bt654.1 bt654.2.1 bt654.2.2.1))))))))) = some r := h
  clear h
  replace H := Option.bind_eq_some_iff.mp H
  obtain ⟨t629, A20, H⟩ := H
  replace H : (if t629 < 0 then (some true) else ((laws_toEpochs.f k a0_0 l0_1 l0_2).bind fun bt630 => ((spec_AdvanceEpoch.f k bt630.1 bt630.2.1 bt630.2.2).bind fun bt637 => ((laws_toEpochs.f k a0_0 l0_1 l0_2).bind fun bt646 => ((impl_AdvanceEpoch.f k bt646.1 bt646.2.1 bt646.2.2).bind fun bt654 => ((laws_eqEpochs.f k bt654.1 bt654.2.1 bt654.2.2.1 bt637.1 bt637.2.1 bt637.2.2.1).bind fun t663 => (if t663 = true then (laws_FnExactAdvanceEpoch.j0 k bt637.2.2.2 bt654.2.2.2 (bt654.2.2.2 != bt637.2.2.2) a0_0 l0_1 l0_2 bt637.1 bt637.2.1 bt637.2.2.1 bt646.1 bt646.2.1 bt646.2.2 bt654.1 bt654.2.1 bt654.2.2.1) else (laws_FnExactAdvanceEpoch.j0 k bt637.2.2.2 bt654.2.2.2 true a0_0 l0_1 l0_2 bt637.1 bt637.2.1 bt637.2.2.1 bt646.1 bt646.2.1 bt646.2.2 bt654.1 bt654.2.1 bt654.2.2.1)))))))) = some r := H
  have A2 := Aside0.mk A20
  clear A20
  have HS3 := Aside0.mk H
  clear H
  go_enter Try.func8, Try.ntmps8
  go_upto_if 18 with (first | ((with_reducible refine gate_dst (N := 1) rfl ?_); refine box_event ?hg (N := 1) ?hd (cs := #[.int .i64 a0_0, .slice A0_1 l0_1.length c0_1, .slice A0_2 l0_2.length c0_2]) (t := 32) ?hr ?_; (case hd => rfl); (case hg => rfl); (case hr => first | (go_simp; done) | (go_simp; rfl)); intro gb628 hg w4 hbox hb; have n0_ := Aside0.mk (below_step (by repeat (first | (with_reducible first | exact HB.out | apply below_alloc | apply pw_below_drewN | apply below_drew1) | exact HB.out)) hb); have n1_ := Aside0.mk (hbox); have n2_ := Aside0.mk ((by rw [hg]; exact (below_size (by repeat (first | (with_reducible first | exact HB.out | apply below_alloc | apply pw_below_drewN | apply below_drew1) | exact HB.out))) : w.heap.size ≤ gb628)); have n3_ := Aside0.mk ((by rw [hg]; exact (below_size (by repeat (first | (with_reducible first | exact HB.out | apply below_alloc | apply pw_below_drewN | apply below_drew1) | exact HB.out))) : w.heap.size ≤ gb628)); clear HB; have HB := n0_; have BK628 := n1_; have GW628 := n2_; have GE628 := n3_; clear n0_ n1_ n2_ n3_; clear hb hbox hg; have hcz5_0 : w4.cell? ⟨gb628, 0, none⟩ = some (.int .i64 a0_0) := (blk_cell BK628.out 0).trans rfl; have hcz5_1 : w4.cell? ⟨gb628, 1, none⟩ = some (.slice A0_1 l0_1.length c0_1) := (blk_cell BK628.out 1).trans rfl; have hcz5_2 : w4.cell? ⟨gb628, 2, none⟩ = some (.slice A0_2 l0_2.length c0_2) := (blk_cell BK628.out 2).trans rfl; have hfz5_0 := blk_frozen BK628.out 0; have hfz5_1 := blk_frozen BK628.out 1; have hfz5_2 := blk_frozen BK628.out 2) | ((with_reducible refine gate_callee (f := 18) rfl ?_); refine goesL_ (some 16) rfl rfl Try.func18 (by kernel_rfl) rfl #[.agg #[.int .i64 a0_0, .slice A0_1 l0_1.length c0_1, .slice A0_2 l0_2.length c0_2], .int .i64 1048576] rfl (by (try simp only [List.map_toArray, List.map_cons, List.map_nil]); first | done | rfl | (simp only [List.length_drop, List.length_take]; rfl)) ?_; (with_reducible refine (laws_szEpochs.calls a0_0 _ _ l0_1 _ _ l0_2 1048576 t629 _ ?side1 ?side2 ?side3 ?side4 A2.out).mono ?_); (case side1 => repeat (first | exact (Kd.C_below HR0_1.out HB.out) | (with_reducible refine Kd.C_alloc ?_ _) | (with_reducible refine Kd.C_drewN ?_ _) | (with_reducible refine Kd.C_drew ?_))); (case side2 => exact HC0_1.out); (case side3 => repeat (first | exact (Kd.C_below HR0_2.out HB.out) | (with_reducible refine Kd.C_alloc ?_ _) | (with_reducible refine Kd.C_drewN ?_ _) | (with_reducible refine Kd.C_drew ?_))); (case side4 => exact HC0_2.out); rintro e w6 ⟨rfl, hb⟩; refine ⟨_, rfl, ?_⟩; have n0_ := Aside0.mk (blk_below (g := gb628) (o := .cells #[.int .i64 a0_0, .slice A0_1 l0_1.length c0_1, .slice A0_2 l0_2.length c0_2] 32 (0, 0)) (by (with_reducible repeat (first | refine blk_drewN ?_ _ | refine blk_drew ?_ | refine blk_alloc ?_ _)); exact BK628.out) hb); have n1_ := Aside0.mk (below_step (by repeat (first | (with_reducible first | exact HB.out | apply below_alloc | apply pw_below_drewN | apply below_drew1 | refine below_set ?_ GE628.out) | exact HB.out)) hb); clear BK628; clear HB; have BK628 := n0_; have HB := n1_; clear n0_ n1_; (try clear hb); (try clear hb2); (try clear hk); (try clear hi)))
  (try simp only [Act.put, List.setIfInBounds_toArray, List.set_cons_zero, List.set_cons_succ])
  have H := HS3.out
  clear HS3
  by_cases c7 : t629 < 0
  · rw [if_pos c7] at H
    have c7b0 : decide (t629 < 0) = true := decide_eq_true c7
    clear c7
    (first | rw [c7b0] | (simp only [i64_w, i32_w]; rw [c7b0]) | skip)
    obtain rfl := Option.some.inj H
    go_wp2
    go_ret
    exact ⟨by first | rfl | (simp [errW_none, errW_some] <;> rfl) | (simp [*, errW_none, errW_some] <;> rfl), by repeat (first | (with_reducible first | exact HB.out | apply below_alloc | apply pw_below_drewN | apply below_drew1 | refine below_set ?_ GE628.out) | exact HB.out)⟩
  · rw [if_neg c7] at H
    have c7b0 : decide (t629 < 0) = false := decide_eq_false c7
    clear c7
    (first | rw [c7b0] | (simp only [i64_w, i32_w]; rw [c7b0]) | skip)
    replace H := Option.bind_eq_some_iff.mp H
    obtain ⟨⟨t630, t631, t634⟩, A80, H⟩ := H
    replace H : ((spec_AdvanceEpoch.f k t630 t631 t634).bind fun bt637 => ((laws_toEpochs.f k a0_0 l0_1 l0_2).bind fun bt646 => ((impl_AdvanceEpoch.f k bt646.1 bt646.2.1 bt646.2.2).bind fun bt654 => ((laws_eqEpochs.f k bt654.1 bt654.2.1 bt654.2.2.1 bt637.1 bt637.2.1 bt637.2.2.1).bind fun t663 => (if t663 = true then (laws_FnExactAdvanceEpoch.j0 k bt637.2.2.2 bt654.2.2.2 (bt654.2.2.2 != bt637.2.2.2) a0_0 l0_1 l0_2 bt637.1 bt637.2.1 bt637.2.2.1 bt646.1 bt646.2.1 bt646.2.2 bt654.1 bt654.2.1 bt654.2.2.1) else (laws_FnExactAdvanceEpoch.j0 k bt637.2.2.2 bt654.2.2.2 true a0_0 l0_1 l0_2 bt637.1 bt637.2.1 bt637.2.2.1 bt646.1 bt646.2.1 bt646.2.2 bt654.1 bt654.2.1 bt654.2.2.1)))))) = some r := H
    have A8 := Aside0.mk A80
    clear A80
    replace H := Option.bind_eq_some_iff.mp H
    obtain ⟨⟨t637, t638, t641, t644⟩, A90, H⟩ := H
    replace H : ((laws_toEpochs.f k a0_0 l0_1 l0_2).bind fun bt646 => ((impl_AdvanceEpoch.f k bt646.1 bt646.2.1 bt646.2.2).bind fun bt654 => ((laws_eqEpochs.f k bt654.1 bt654.2.1 bt654.2.2.1 t637 t638 t641).bind fun t663 => (if t663 = true then (laws_FnExactAdvanceEpoch.j0 k t644 bt654.2.2.2 (bt654.2.2.2 != t644) a0_0 l0_1 l0_2 t637 t638 t641 bt646.1 bt646.2.1 bt646.2.2 bt654.1 bt654.2.1 bt654.2.2.1) else (laws_FnExactAdvanceEpoch.j0 k t644 bt654.2.2.2 true a0_0 l0_1 l0_2 t637 t638 t641 bt646.1 bt646.2.1 bt646.2.2 bt654.1 bt654.2.1 bt654.2.2.1))))) = some r := H
    have A9 := Aside0.mk A90
    clear A90
    replace H := Option.bind_eq_some_iff.mp H
    obtain ⟨⟨t646, t647, t650⟩, A100, H⟩ := H
    replace H : ((impl_AdvanceEpoch.f k t646 t647 t650).bind fun bt654 => ((laws_eqEpochs.f k bt654.1 bt654.2.1 bt654.2.2.1 t637 t638 t641).bind fun t663 => (if t663 = true then (laws_FnExactAdvanceEpoch.j0 k t644 bt654.2.2.2 (bt654.2.2.2 != t644) a0_0 l0_1 l0_2 t637 t638 t641 t646 t647 t650 bt654.1 bt654.2.1 bt654.2.2.1) else (laws_FnExactAdvanceEpoch.j0 k t644 bt654.2.2.2 true a0_0 l0_1 l0_2 t637 t638 t641 t646 t647 t650 bt654.1 bt654.2.1 bt654.2.2.1)))) = some r := H
    have A10 := Aside0.mk A100
    clear A100
    replace H := Option.bind_eq_some_iff.mp H
    obtain ⟨⟨t654, t655, t658, t661⟩, A110, H⟩ := H
    replace H : ((laws_eqEpochs.f k t654 t655 t658 t637 t638 t641).bind fun t663 => (if t663 = true then (laws_FnExactAdvanceEpoch.j0 k t644 t661 (t661 != t644) a0_0 l0_1 l0_2 t637 t638 t641 t646 t647 t650 t654 t655 t658) else (laws_FnExactAdvanceEpoch.j0 k t644 t661 true a0_0 l0_1 l0_2 t637 t638 t641 t646 t647 t650 t654 t655 t658))) = some r := H
    have A11 := Aside0.mk A110
    clear A110
    have HC12 := Aside0.mk H
    clear H
    have hcz13_0 : w6.cell? ⟨gb628, 0, none⟩ = some (.int .i64 a0_0) := (blk_cell BK628.out 0).trans rfl
    have hcz13_1 : w6.cell? ⟨gb628, 1, none⟩ = some (.slice A0_1 l0_1.length c0_1) := (blk_cell BK628.out 1).trans rfl
    have hcz13_2 : w6.cell? ⟨gb628, 2, none⟩ = some (.slice A0_2 l0_2.length c0_2) := (blk_cell BK628.out 2).trans rfl
    have hfz13_0 := blk_frozen BK628.out 0
    have hfz13_1 := blk_frozen BK628.out 1
    have hfz13_2 := blk_frozen BK628.out 2
    go_upto_region 8 with (first | ((with_reducible refine gate_callee (f := 20) rfl ?_); refine goesL_ (some 21) rfl rfl Try.func20 (by kernel_rfl) rfl #[.agg #[.int .i64 a0_0, .slice A0_1 l0_1.length c0_1, .slice A0_2 l0_2.length c0_2]] rfl (by (try simp only [List.map_toArray, List.map_cons, List.map_nil]); first | done | rfl | (simp only [List.length_drop, List.length_take]; rfl)) ?_; (with_reducible refine (laws_toEpochs.calls k a0_0 _ _ l0_1 _ _ l0_2 t630 t631 t634 _ ?side1 ?side2 ?side3 ?side4 A8.out).mono ?_); (case side1 => repeat (first | exact (Kd.C_below HR0_1.out HB.out) | (with_reducible refine Kd.C_alloc ?_ _) | (with_reducible refine Kd.C_drewN ?_ _) | (with_reducible refine Kd.C_drew ?_))); (case side2 => exact HC0_1.out); (case side3 => repeat (first | exact (Kd.C_below HR0_2.out HB.out) | (with_reducible refine Kd.C_alloc ?_ _) | (with_reducible refine Kd.C_drewN ?_ _) | (with_reducible refine Kd.C_drew ?_))); (case side4 => exact HC0_2.out); rintro e w14 ⟨v632, v635, rfl, ho0, ho1, hb⟩; refine ⟨_, rfl, ?_⟩; have n0_ := Aside0.mk (Kd.R_lower ho0 (below_size (by repeat (first | (with_reducible first | exact HB.out | apply below_alloc | apply pw_below_drewN | apply below_drew1 | refine below_set ?_ GE628.out) | exact HB.out)))); have n1_ := Aside0.mk (Kd.R_lower ho1 (below_size (by repeat (first | (with_reducible first | exact HB.out | apply below_alloc | apply pw_below_drewN | apply below_drew1 | refine below_set ?_ GE628.out) | exact HB.out)))); have n2_ := Aside0.mk (blk_below (g := gb628) (o := .cells #[.int .i64 a0_0, .slice A0_1 l0_1.length c0_1, .slice A0_2 l0_2.length c0_2] 32 (0, 0)) (by (with_reducible repeat (first | refine blk_drewN ?_ _ | refine blk_drew ?_ | refine blk_alloc ?_ _)); exact BK628.out) hb); have n3_ := Aside0.mk (below_step (by repeat (first | (with_reducible first | exact HB.out | apply below_alloc | apply pw_below_drewN | apply below_drew1 | refine below_set ?_ GE628.out) | exact HB.out)) hb); clear BK628; clear HB; have HO633 := n0_; have HO636 := n1_; have BK628 := n2_; have HB := n3_; clear n0_ n1_ n2_ n3_; (try clear hb); (try clear hb2); (try clear hk); (try clear hi); (try clear ho0); (try clear ho1); obtain ⟨Ao15, co15, eo15⟩ := Kd.R_slice HO633.out; subst eo15; obtain ⟨Ao16, co16, eo16⟩ := Kd.R_slice HO636.out; subst eo16) | ((with_reducible refine gate_callee (f := 31) rfl ?_); refine goesL_ (some 22) rfl rfl Try.func31 (by kernel_rfl) rfl #[.agg #[.int .i64 t630, .slice Ao15 t631.length co15, .slice Ao16 t634.length co16]] rfl (by (try simp only [List.map_toArray, List.map_cons, List.map_nil]); first | done | rfl | (simp only [List.length_drop, List.length_take]; rfl)) ?_; (with_reducible refine (spec_AdvanceEpoch.calls k t630 _ _ t631 _ _ t634 t637 t638 t641 t644 _ ?side1 ?side2 ?side3 ?side4 A9.out).mono ?_); (case side1 => repeat (first | exact (Kd.R_reads' HO633.out).2.2 | (with_reducible refine Kd.C_alloc ?_ _) | (with_reducible refine Kd.C_drewN ?_ _) | (with_reducible refine Kd.C_drew ?_))); (case side2 => exact (Kd.R_reads' HO633.out).2.1); (case side3 => repeat (first | exact (Kd.R_reads' HO636.out).2.2 | (with_reducible refine Kd.C_alloc ?_ _) | (with_reducible refine Kd.C_drewN ?_ _) | (with_reducible refine Kd.C_drew ?_))); (case side4 => exact (Kd.R_reads' HO636.out).2.1); rintro e w17 ⟨v639, v642, rfl, ho0, ho1, hb⟩; refine ⟨_, rfl, ?_⟩; have n0_ := Aside0.mk (Kd.R_elder' (by (with_reducible repeat (first | apply Kd.R_alloc | apply Kd.R_drewN | apply Kd.R_drew)); exact HO633.out) (Kd.R_base ho0) hb); have n1_ := Aside0.mk (Kd.R_elder' (by (with_reducible repeat (first | apply Kd.R_alloc | apply Kd.R_drewN | apply Kd.R_drew)); exact HO636.out) (Kd.R_base ho1) hb); have n2_ := Aside0.mk (Kd.R_lower (Kd.R_new' ho0 (Kd.R_lt (by (with_reducible repeat (first | apply Kd.R_alloc | apply Kd.R_drewN | apply Kd.R_drew)); exact HO633.out))) (below_size (by repeat (first | (with_reducible first | exact HB.out | apply below_alloc | apply pw_below_drewN | apply below_drew1 | refine below_set ?_ GE628.out) | exact HB.out)))); have n3_ := Aside0.mk (Kd.R_lower (Kd.R_new' ho1 (Kd.R_lt (by (with_reducible repeat (first | apply Kd.R_alloc | apply Kd.R_drewN | apply Kd.R_drew)); exact HO636.out))) (below_size (by repeat (first | (with_reducible first | exact HB.out | apply below_alloc | apply pw_below_drewN | apply below_drew1 | refine below_set ?_ GE628.out) | exact HB.out)))); have n4_ := Aside0.mk (blk_below (g := gb628) (o := .cells #[.int .i64 a0_0, .slice A0_1 l0_1.length c0_1, .slice A0_2 l0_2.length c0_2] 32 (0, 0)) (by (with_reducible repeat (first | refine blk_drewN ?_ _ | refine blk_drew ?_ | refine blk_alloc ?_ _)); exact BK628.out) hb); have n5_ := Aside0.mk (below_step (by repeat (first | (with_reducible first | exact HB.out | apply below_alloc | apply pw_below_drewN | apply below_drew1 | refine below_set ?_ GE628.out) | exact HB.out)) hb); clear HO633; clear HO636; clear BK628; clear HB; have HO633 := n0_; have HO636 := n1_; have HO640 := n2_; have HO643 := n3_; have BK628 := n4_; have HB := n5_; clear n0_ n1_ n2_ n3_ n4_ n5_; (try clear hb); (try clear hb2); (try clear hk); (try clear hi); (try clear ho0); (try clear ho1)) | ((with_reducible refine gate_dst (N := 4) rfl ?_); refine box_event ?hg (N := 4) ?hd (cs := #[.int .i64 0, .slice none 0 0, .slice none 0 0]) (t := 25) ?hr ?_; (case hd => rfl); (case hg => rfl); (case hr => first | (go_simp; done) | (go_simp; rfl)); intro gb645 hg w18 hbox hb; have n0_ := Aside0.mk (Kd.R_below (by (with_reducible repeat (first | apply Kd.R_alloc | apply Kd.R_drewN | apply Kd.R_drew)); exact HO633.out) hb); have n1_ := Aside0.mk (Kd.R_below (by (with_reducible repeat (first | apply Kd.R_alloc | apply Kd.R_drewN | apply Kd.R_drew)); exact HO636.out) hb); have n2_ := Aside0.mk (Kd.R_below (by (with_reducible repeat (first | apply Kd.R_alloc | apply Kd.R_drewN | apply Kd.R_drew)); exact HO640.out) hb); have n3_ := Aside0.mk (Kd.R_below (by (with_reducible repeat (first | apply Kd.R_alloc | apply Kd.R_drewN | apply Kd.R_drew)); exact HO643.out) hb); have n4_ := Aside0.mk (blk_below (g := gb628) (o := .cells #[.int .i64 a0_0, .slice A0_1 l0_1.length c0_1, .slice A0_2 l0_2.length c0_2] 32 (0, 0)) (by (with_reducible repeat (first | refine blk_drewN ?_ _ | refine blk_drew ?_ | refine blk_alloc ?_ _)); exact BK628.out) hb); have n5_ := Aside0.mk (below_step (by repeat (first | (with_reducible first | exact HB.out | apply below_alloc | apply pw_below_drewN | apply below_drew1 | refine below_set ?_ GE628.out) | exact HB.out)) hb); have n6_ := Aside0.mk (hbox); have n7_ := Aside0.mk ((by rw [hg]; exact (below_size (by repeat (first | (with_reducible first | exact HB.out | apply below_alloc | apply pw_below_drewN | apply below_drew1 | refine below_set ?_ GE628.out) | exact HB.out))) : w.heap.size ≤ gb645)); have n8_ := Aside0.mk ((by rw [hg]; exact (below_size (by repeat (first | (with_reducible first | exact HB.out | apply below_alloc | apply pw_below_drewN | apply below_drew1 | refine below_set ?_ GE628.out) | exact HB.out))) : w.heap.size ≤ gb645)); have n9_ := Aside0.mk ((by rw [hg]; exact Nat.ne_of_lt (blk_lt (g := gb628) (o := .cells #[.int .i64 a0_0, .slice A0_1 l0_1.length c0_1, .slice A0_2 l0_2.length c0_2] 32 (0, 0)) (by (with_reducible repeat (first | refine blk_drewN ?_ _ | refine blk_drew ?_ | refine blk_alloc ?_ _)); exact BK628.out)) : gb628 ≠ gb645)); have n10_ := Aside0.mk ((by rw [hg]; exact Nat.ne_of_gt (blk_lt (g := gb628) (o := .cells #[.int .i64 a0_0, .slice A0_1 l0_1.length c0_1, .slice A0_2 l0_2.length c0_2] 32 (0, 0)) (by (with_reducible repeat (first | refine blk_drewN ?_ _ | refine blk_drew ?_ | refine blk_alloc ?_ _)); exact BK628.out)) : gb645 ≠ gb628)); clear HO633; clear HO636; clear HO640; clear HO643; clear BK628; clear HB; have HO633 := n0_; have HO636 := n1_; have HO640 := n2_; have HO643 := n3_; have BK628 := n4_; have HB := n5_; have BK645 := n6_; have GW645 := n7_; have GE645 := n8_; have NB628_645 := n9_; have NB645_628 := n10_; clear n0_ n1_ n2_ n3_ n4_ n5_ n6_ n7_ n8_ n9_ n10_; clear hb hbox hg; have hnb19 := NB645_628.out; have hnc19 := NB628_645.out; have hcz20_0 : w18.cell? ⟨gb645, 0, none⟩ = some (.int .i64 0) := (blk_cell BK645.out 0).trans rfl; have hcz20_1 : w18.cell? ⟨gb645, 1, none⟩ = some (.slice none 0 0) := (blk_cell BK645.out 1).trans rfl; have hcz20_2 : w18.cell? ⟨gb645, 2, none⟩ = some (.slice none 0 0) := (blk_cell BK645.out 2).trans rfl; have hfz20_0 := blk_frozen BK645.out 0; have hfz20_1 := blk_frozen BK645.out 1; have hfz20_2 := blk_frozen BK645.out 2; obtain ⟨Ao21, co21, eo21⟩ := Kd.R_slice HO640.out; subst eo21; obtain ⟨Ao22, co22, eo22⟩ := Kd.R_slice HO643.out; subst eo22; have hcz23_0 : w18.cell? ⟨gb628, 0, none⟩ = some (.int .i64 a0_0) := (blk_cell BK628.out 0).trans rfl; have hcz23_1 : w18.cell? ⟨gb628, 1, none⟩ = some (.slice A0_1 l0_1.length c0_1) := (blk_cell BK628.out 1).trans rfl; have hcz23_2 : w18.cell? ⟨gb628, 2, none⟩ = some (.slice A0_2 l0_2.length c0_2) := (blk_cell BK628.out 2).trans rfl; have hfz23_0 := blk_frozen BK628.out 0; have hfz23_1 := blk_frozen BK628.out 1; have hfz23_2 := blk_frozen BK628.out 2) | ((with_reducible refine gate_callee (f := 20) rfl ?_); refine goesL_ (some 26) rfl rfl Try.func20 (by kernel_rfl) rfl #[.agg #[.int .i64 a0_0, .slice A0_1 l0_1.length c0_1, .slice A0_2 l0_2.length c0_2]] rfl (by (try simp only [List.map_toArray, List.map_cons, List.map_nil]); first | done | rfl | (simp only [List.length_drop, List.length_take]; rfl)) ?_; (with_reducible refine (laws_toEpochs.calls k a0_0 _ _ l0_1 _ _ l0_2 t646 t647 t650 _ ?side1 ?side2 ?side3 ?side4 A10.out).mono ?_); (case side1 => exact Kd.C_below HR0_1.out (by repeat (first | (with_reducible first | exact HB.out | apply below_alloc | apply pw_below_drewN | apply below_drew1 | refine below_set ?_ GE628.out | refine below_set ?_ GE645.out) | exact HB.out))); (case side2 => exact HC0_1.out); (case side3 => exact Kd.C_below HR0_2.out (by repeat (first | (with_reducible first | exact HB.out | apply below_alloc | apply pw_below_drewN | apply below_drew1 | refine below_set ?_ GE628.out | refine below_set ?_ GE645.out) | exact HB.out))); (case side4 => exact HC0_2.out); rintro e w24 ⟨v648, v651, rfl, ho0, ho1, hb⟩; refine ⟨_, rfl, ?_⟩; have n0_ := Aside0.mk (Kd.R_elder' (by (with_reducible repeat (first | apply Kd.R_alloc | apply Kd.R_drewN | apply Kd.R_drew)); exact (Kd.R_mono (Kd.R_far (p := ⟨gb645, 2, none⟩) (Kd.R_far (p := ⟨gb645, 1, none⟩) (Kd.R_far (p := ⟨gb645, 0, none⟩) (Kd.R_types HO633.out BK645.out (by decide)) (fun _ hk => hk.2) (.int .i64 t637)) (fun _ hk => hk.2) (.slice Ao21 t638.length co21)) (fun _ hk => hk.2) (.slice Ao22 t641.length co22)) (fun _ h_ => h_.1))) (Kd.R_base ho0) hb); have n1_ := Aside0.mk (Kd.R_elder' (by (with_reducible repeat (first | apply Kd.R_alloc | apply Kd.R_drewN | apply Kd.R_drew)); exact (Kd.R_mono (Kd.R_far (p := ⟨gb645, 2, none⟩) (Kd.R_far (p := ⟨gb645, 1, none⟩) (Kd.R_far (p := ⟨gb645, 0, none⟩) (Kd.R_types HO636.out BK645.out (by decide)) (fun _ hk => hk.2) (.int .i64 t637)) (fun _ hk => hk.2) (.slice Ao21 t638.length co21)) (fun _ hk => hk.2) (.slice Ao22 t641.length co22)) (fun _ h_ => h_.1))) (Kd.R_base ho1) hb); have n2_ := Aside0.mk (Kd.R_elder' (by (with_reducible repeat (first | apply Kd.R_alloc | apply Kd.R_drewN | apply Kd.R_drew)); exact (Kd.R_mono (Kd.R_far (p := ⟨gb645, 2, none⟩) (Kd.R_far (p := ⟨gb645, 1, none⟩) (Kd.R_far (p := ⟨gb645, 0, none⟩) (Kd.R_types HO640.out BK645.out (by decide)) (fun _ hk => hk.2) (.int .i64 t637)) (fun _ hk => hk.2) (.slice Ao21 t638.length co21)) (fun _ hk => hk.2) (.slice Ao22 t641.length co22)) (fun _ h_ => h_.1))) (Kd.R_base ho0) hb); have n3_ := Aside0.mk (Kd.R_elder' (by (with_reducible repeat (first | apply Kd.R_alloc | apply Kd.R_drewN | apply Kd.R_drew)); exact (Kd.R_mono (Kd.R_far (p := ⟨gb645, 2, none⟩) (Kd.R_far (p := ⟨gb645, 1, none⟩) (Kd.R_far (p := ⟨gb645, 0, none⟩) (Kd.R_types HO643.out BK645.out (by decide)) (fun _ hk => hk.2) (.int .i64 t637)) (fun _ hk => hk.2) (.slice Ao21 t638.length co21)) (fun _ hk => hk.2) (.slice Ao22 t641.length co22)) (fun _ h_ => h_.1))) (Kd.R_base ho1) hb); have n4_ := Aside0.mk (Kd.R_lower (Kd.R_new' (Kd.R_new' ho0 (Kd.R_lt (by (with_reducible repeat (first | apply Kd.R_alloc | apply Kd.R_drewN | apply Kd.R_drew)); exact (Kd.R_mono (Kd.R_far (p := ⟨gb645, 2, none⟩) (Kd.R_far (p := ⟨gb645, 1, none⟩) (Kd.R_far (p := ⟨gb645, 0, none⟩) (Kd.R_types HO633.out BK645.out (by decide)) (fun _ hk => hk.2) (.int .i64 t637)) (fun _ hk => hk.2) (.slice Ao21 t638.length co21)) (fun _ hk => hk.2) (.slice Ao22 t641.length co22)) (fun _ h_ => h_.1))))) (Kd.R_lt (by (with_reducible repeat (first | apply Kd.R_alloc | apply Kd.R_drewN | apply Kd.R_drew)); exact (Kd.R_mono (Kd.R_far (p := ⟨gb645, 2, none⟩) (Kd.R_far (p := ⟨gb645, 1, none⟩) (Kd.R_far (p := ⟨gb645, 0, none⟩) (Kd.R_types HO640.out BK645.out (by decide)) (fun _ hk => hk.2) (.int .i64 t637)) (fun _ hk => hk.2) (.slice Ao21 t638.length co21)) (fun _ hk => hk.2) (.slice Ao22 t641.length co22)) (fun _ h_ => h_.1))))) (below_size (by repeat (first | (with_reducible first | exact HB.out | apply below_alloc | apply pw_below_drewN | apply below_drew1 | refine below_set ?_ GE628.out | refine below_set ?_ GE645.out) | exact HB.out)))); have n5_ := Aside0.mk (Kd.R_lower (Kd.R_new' (Kd.R_new' ho1 (Kd.R_lt (by (with_reducible repeat (first | apply Kd.R_alloc | apply Kd.R_drewN | apply Kd.R_drew)); exact (Kd.R_mono (Kd.R_far (p := ⟨gb645, 2, none⟩) (Kd.R_far (p := ⟨gb645, 1, none⟩) (Kd.R_far (p := ⟨gb645, 0, none⟩) (Kd.R_types HO636.out BK645.out (by decide)) (fun _ hk => hk.2) (.int .i64 t637)) (fun _ hk => hk.2) (.slice Ao21 t638.length co21)) (fun _ hk => hk.2) (.slice Ao22 t641.length co22)) (fun _ h_ => h_.1))))) (Kd.R_lt (by (with_reducible repeat (first | apply Kd.R_alloc | apply Kd.R_drewN | apply Kd.R_drew)); exact (Kd.R_mono (Kd.R_far (p := ⟨gb645, 2, none⟩) (Kd.R_far (p := ⟨gb645, 1, none⟩) (Kd.R_far (p := ⟨gb645, 0, none⟩) (Kd.R_types HO643.out BK645.out (by decide)) (fun _ hk => hk.2) (.int .i64 t637)) (fun _ hk => hk.2) (.slice Ao21 t638.length co21)) (fun _ hk => hk.2) (.slice Ao22 t641.length co22)) (fun _ h_ => h_.1))))) (below_size (by repeat (first | (with_reducible first | exact HB.out | apply below_alloc | apply pw_below_drewN | apply below_drew1 | refine below_set ?_ GE628.out | refine below_set ?_ GE645.out) | exact HB.out)))); have n6_ := Aside0.mk (blk_below (g := gb628) (o := .cells #[.int .i64 a0_0, .slice A0_1 l0_1.length c0_1, .slice A0_2 l0_2.length c0_2] 32 (0, 0)) (by (with_reducible repeat (first | refine blk_drewN ?_ _ | refine blk_drew ?_ | refine blk_alloc ?_ _)); refine blk_far ?_ NB628_645.out _; (with_reducible repeat (first | refine blk_drewN ?_ _ | refine blk_drew ?_ | refine blk_alloc ?_ _)); refine blk_far ?_ NB628_645.out _; (with_reducible repeat (first | refine blk_drewN ?_ _ | refine blk_drew ?_ | refine blk_alloc ?_ _)); refine blk_far ?_ NB628_645.out _; (with_reducible repeat (first | refine blk_drewN ?_ _ | refine blk_drew ?_ | refine blk_alloc ?_ _)); exact BK628.out) hb); have n7_ := Aside0.mk (blk_below (g := gb645) (o := .cells #[.int .i64 t637, .slice Ao21 t638.length co21, .slice Ao22 t641.length co22] 25 (0, 0)) (by (with_reducible repeat (first | refine blk_drewN ?_ _ | refine blk_drew ?_ | refine blk_alloc ?_ _)); refine blk_put (cs := #[.int .i64 t637, .slice Ao21 t638.length co21, .slice none 0 0]) ?_ 2 _ rfl; (with_reducible repeat (first | refine blk_drewN ?_ _ | refine blk_drew ?_ | refine blk_alloc ?_ _)); refine blk_put (cs := #[.int .i64 t637, .slice none 0 0, .slice none 0 0]) ?_ 1 _ rfl; (with_reducible repeat (first | refine blk_drewN ?_ _ | refine blk_drew ?_ | refine blk_alloc ?_ _)); refine blk_put (cs := #[.int .i64 0, .slice none 0 0, .slice none 0 0]) ?_ 0 _ rfl; (with_reducible repeat (first | refine blk_drewN ?_ _ | refine blk_drew ?_ | refine blk_alloc ?_ _)); exact BK645.out) hb); have n8_ := Aside0.mk (below_step (by repeat (first | (with_reducible first | exact HB.out | apply below_alloc | apply pw_below_drewN | apply below_drew1 | refine below_set ?_ GE628.out | refine below_set ?_ GE645.out) | exact HB.out)) hb); clear HO633; clear HO636; clear HO640; clear HO643; clear BK628; clear BK645; clear HB; have HO633 := n0_; have HO636 := n1_; have HO640 := n2_; have HO643 := n3_; have HO649 := n4_; have HO652 := n5_; have BK628 := n6_; have BK645 := n7_; have HB := n8_; clear n0_ n1_ n2_ n3_ n4_ n5_ n6_ n7_ n8_; (try clear hb); (try clear hb2); (try clear hk); (try clear hi); (try clear ho0); (try clear ho1)) | ((with_reducible refine gate_dst (N := 6) rfl ?_); refine box_event ?hg (N := 6) ?hd (cs := #[.int .i64 0, .slice none 0 0, .slice none 0 0]) (t := 25) ?hr ?_; (case hd => rfl); (case hg => rfl); (case hr => first | (go_simp; done) | (go_simp; rfl)); intro gb653 hg w25 hbox hb; have n0_ := Aside0.mk (Kd.R_below (by (with_reducible repeat (first | apply Kd.R_alloc | apply Kd.R_drewN | apply Kd.R_drew)); exact HO633.out) hb); have n1_ := Aside0.mk (Kd.R_below (by (with_reducible repeat (first | apply Kd.R_alloc | apply Kd.R_drewN | apply Kd.R_drew)); exact HO636.out) hb); have n2_ := Aside0.mk (Kd.R_below (by (with_reducible repeat (first | apply Kd.R_alloc | apply Kd.R_drewN | apply Kd.R_drew)); exact HO640.out) hb); have n3_ := Aside0.mk (Kd.R_below (by (with_reducible repeat (first | apply Kd.R_alloc | apply Kd.R_drewN | apply Kd.R_drew)); exact HO643.out) hb); have n4_ := Aside0.mk (Kd.R_below (by (with_reducible repeat (first | apply Kd.R_alloc | apply Kd.R_drewN | apply Kd.R_drew)); exact HO649.out) hb); have n5_ := Aside0.mk (Kd.R_below (by (with_reducible repeat (first | apply Kd.R_alloc | apply Kd.R_drewN | apply Kd.R_drew)); exact HO652.out) hb); have n6_ := Aside0.mk (blk_below (g := gb628) (o := .cells #[.int .i64 a0_0, .slice A0_1 l0_1.length c0_1, .slice A0_2 l0_2.length c0_2] 32 (0, 0)) (by (with_reducible repeat (first | refine blk_drewN ?_ _ | refine blk_drew ?_ | refine blk_alloc ?_ _)); exact BK628.out) hb); have n7_ := Aside0.mk (blk_below (g := gb645) (o := .cells #[.int .i64 t637, .slice Ao21 t638.length co21, .slice Ao22 t641.length co22] 25 (0, 0)) (by (with_reducible repeat (first | refine blk_drewN ?_ _ | refine blk_drew ?_ | refine blk_alloc ?_ _)); exact BK645.out) hb); have n8_ := Aside0.mk (below_step (by repeat (first | (with_reducible first | exact HB.out | apply below_alloc | apply pw_below_drewN | apply below_drew1 | refine below_set ?_ GE628.out | refine below_set ?_ GE645.out) | exact HB.out)) hb); have n9_ := Aside0.mk (hbox); have n10_ := Aside0.mk ((by rw [hg]; exact (below_size (by repeat (first | (with_reducible first | exact HB.out | apply below_alloc | apply pw_below_drewN | apply below_drew1 | refine below_set ?_ GE628.out | refine below_set ?_ GE645.out) | exact HB.out))) : w.heap.size ≤ gb653)); have n11_ := Aside0.mk ((by rw [hg]; exact (below_size (by repeat (first | (with_reducible first | exact HB.out | apply below_alloc | apply pw_below_drewN | apply below_drew1 | refine below_set ?_ GE628.out | refine below_set ?_ GE645.out) | exact HB.out))) : w.heap.size ≤ gb653)); have n12_ := Aside0.mk ((by rw [hg]; exact Nat.ne_of_lt (blk_lt (g := gb628) (o := .cells #[.int .i64 a0_0, .slice A0_1 l0_1.length c0_1, .slice A0_2 l0_2.length c0_2] 32 (0, 0)) (by (with_reducible repeat (first | refine blk_drewN ?_ _ | refine blk_drew ?_ | refine blk_alloc ?_ _)); exact BK628.out)) : gb628 ≠ gb653)); have n13_ := Aside0.mk ((by rw [hg]; exact Nat.ne_of_gt (blk_lt (g := gb628) (o := .cells #[.int .i64 a0_0, .slice A0_1 l0_1.length c0_1, .slice A0_2 l0_2.length c0_2] 32 (0, 0)) (by (with_reducible repeat (first | refine blk_drewN ?_ _ | refine blk_drew ?_ | refine blk_alloc ?_ _)); exact BK628.out)) : gb653 ≠ gb628)); have n14_ := Aside0.mk ((by rw [hg]; exact Nat.ne_of_lt (blk_lt (g := gb645) (o := .cells #[.int .i64 t637, .slice Ao21 t638.length co21, .slice Ao22 t641.length co22] 25 (0, 0)) (by (with_reducible repeat (first | refine blk_drewN ?_ _ | refine blk_drew ?_ | refine blk_alloc ?_ _)); exact BK645.out)) : gb645 ≠ gb653)); have n15_ := Aside0.mk ((by rw [hg]; exact Nat.ne_of_gt (blk_lt (g := gb645) (o := .cells #[.int .i64 t637, .slice Ao21 t638.length co21, .slice Ao22 t641.length co22] 25 (0, 0)) (by (with_reducible repeat (first | refine blk_drewN ?_ _ | refine blk_drew ?_ | refine blk_alloc ?_ _)); exact BK645.out)) : gb653 ≠ gb645)); clear HO633; clear HO636; clear HO640; clear HO643; clear HO649; clear HO652; clear BK628; clear BK645; clear HB; have HO633 := n0_; have HO636 := n1_; have HO640 := n2_; have HO643 := n3_; have HO649 := n4_; have HO652 := n5_; have BK628 := n6_; have BK645 := n7_; have HB := n8_; have BK653 := n9_; have GW653 := n10_; have GE653 := n11_; have NB628_653 := n12_; have NB653_628 := n13_; have NB645_653 := n14_; have NB653_645 := n15_; clear n0_ n1_ n2_ n3_ n4_ n5_ n6_ n7_ n8_ n9_ n10_ n11_ n12_ n13_ n14_ n15_; clear hb hbox hg; have hnb26 := NB653_628.out; have hnc26 := NB628_653.out; have hnb27 := NB653_645.out; have hnc27 := NB645_653.out; have hcz28_0 : w25.cell? ⟨gb653, 0, none⟩ = some (.int .i64 0) := (blk_cell BK653.out 0).trans rfl; have hcz28_1 : w25.cell? ⟨gb653, 1, none⟩ = some (.slice none 0 0) := (blk_cell BK653.out 1).trans rfl; have hcz28_2 : w25.cell? ⟨gb653, 2, none⟩ = some (.slice none 0 0) := (blk_cell BK653.out 2).trans rfl; have hfz28_0 := blk_frozen BK653.out 0; have hfz28_1 := blk_frozen BK653.out 1; have hfz28_2 := blk_frozen BK653.out 2; obtain ⟨Ao29, co29, eo29⟩ := Kd.R_slice HO649.out; subst eo29; obtain ⟨Ao30, co30, eo30⟩ := Kd.R_slice HO652.out; subst eo30) | ((with_reducible refine gate_callee (f := 32) rfl ?_); refine goesL_ (some 29) rfl rfl Try.func32 (by kernel_rfl) rfl #[.agg #[.int .i64 t646, .slice Ao29 t647.length co29, .slice Ao30 t650.length co30]] rfl (by (try simp only [List.map_toArray, List.map_cons, List.map_nil]); first | done | rfl | (simp only [List.length_drop, List.length_take]; rfl)) ?_; (with_reducible refine (impl_AdvanceEpoch.calls k t646 _ _ t647 _ _ t650 t654 t655 t658 t661 _ ?side1 ?side2 ?side3 ?side4 A11.out).mono ?_); (case side1 => refine (Kd.R_reads' (e := 3) (base := w.heap.size) (ok := fun k_ => ((True ∧ some k_ ≠ (.slice Ao15 t631.length co15 : Value).ownBlock) ∧ some k_ ≠ (.slice Ao21 t638.length co21 : Value).ownBlock)) (n := t647.length) (c := co29) ?_).2.2; exact (by (with_reducible repeat (first | apply Kd.R_alloc | apply Kd.R_drewN | apply Kd.R_drew)); exact (Kd.R_mono (Kd.R_far (p := ⟨gb653, 2, none⟩) (Kd.R_far (p := ⟨gb653, 1, none⟩) (Kd.R_far (p := ⟨gb653, 0, none⟩) (Kd.R_types HO649.out BK653.out (by decide)) (fun _ hk => hk.2) (.int .i64 t646)) (fun _ hk => hk.2) (.slice Ao29 t647.length co29)) (fun _ hk => hk.2) (.slice Ao30 t650.length co30)) (fun _ h_ => h_.1)))); (case side2 => exact (Kd.R_reads' HO649.out).2.1); (case side3 => refine (Kd.R_reads' (e := 57) (base := w.heap.size) (ok := fun k_ => ((True ∧ some k_ ≠ (.slice Ao16 t634.length co16 : Value).ownBlock) ∧ some k_ ≠ (.slice Ao22 t641.length co22 : Value).ownBlock)) (n := t650.length) (c := co30) ?_).2.2; exact (by (with_reducible repeat (first | apply Kd.R_alloc | apply Kd.R_drewN | apply Kd.R_drew)); exact (Kd.R_mono (Kd.R_far (p := ⟨gb653, 2, none⟩) (Kd.R_far (p := ⟨gb653, 1, none⟩) (Kd.R_far (p := ⟨gb653, 0, none⟩) (Kd.R_types HO652.out BK653.out (by decide)) (fun _ hk => hk.2) (.int .i64 t646)) (fun _ hk => hk.2) (.slice Ao29 t647.length co29)) (fun _ hk => hk.2) (.slice Ao30 t650.length co30)) (fun _ h_ => h_.1)))); (case side4 => exact (Kd.R_reads' HO652.out).2.1); rintro e w31 ⟨v656, v659, rfl, ho0, ho1, hb⟩; refine ⟨_, rfl, ?_⟩; have n0_ := Aside0.mk (Kd.R_elder' (by (with_reducible repeat (first | apply Kd.R_alloc | apply Kd.R_drewN | apply Kd.R_drew)); exact (Kd.R_mono (Kd.R_far (p := ⟨gb653, 2, none⟩) (Kd.R_far (p := ⟨gb653, 1, none⟩) (Kd.R_far (p := ⟨gb653, 0, none⟩) (Kd.R_types HO633.out BK653.out (by decide)) (fun _ hk => hk.2) (.int .i64 t646)) (fun _ hk => hk.2) (.slice Ao29 t647.length co29)) (fun _ hk => hk.2) (.slice Ao30 t650.length co30)) (fun _ h_ => h_.1))) (Kd.R_base ho0) hb); have n1_ := Aside0.mk (Kd.R_elder' (by (with_reducible repeat (first | apply Kd.R_alloc | apply Kd.R_drewN | apply Kd.R_drew)); exact (Kd.R_mono (Kd.R_far (p := ⟨gb653, 2, none⟩) (Kd.R_far (p := ⟨gb653, 1, none⟩) (Kd.R_far (p := ⟨gb653, 0, none⟩) (Kd.R_types HO636.out BK653.out (by decide)) (fun _ hk => hk.2) (.int .i64 t646)) (fun _ hk => hk.2) (.slice Ao29 t647.length co29)) (fun _ hk => hk.2) (.slice Ao30 t650.length co30)) (fun _ h_ => h_.1))) (Kd.R_base ho1) hb); have n2_ := Aside0.mk (Kd.R_elder' (by (with_reducible repeat (first | apply Kd.R_alloc | apply Kd.R_drewN | apply Kd.R_drew)); exact (Kd.R_mono (Kd.R_far (p := ⟨gb653, 2, none⟩) (Kd.R_far (p := ⟨gb653, 1, none⟩) (Kd.R_far (p := ⟨gb653, 0, none⟩) (Kd.R_types HO640.out BK653.out (by decide)) (fun _ hk => hk.2) (.int .i64 t646)) (fun _ hk => hk.2) (.slice Ao29 t647.length co29)) (fun _ hk => hk.2) (.slice Ao30 t650.length co30)) (fun _ h_ => h_.1))) (Kd.R_base ho0) hb); have n3_ := Aside0.mk (Kd.R_elder' (by (with_reducible repeat (first | apply Kd.R_alloc | apply Kd.R_drewN | apply Kd.R_drew)); exact (Kd.R_mono (Kd.R_far (p := ⟨gb653, 2, none⟩) (Kd.R_far (p := ⟨gb653, 1, none⟩) (Kd.R_far (p := ⟨gb653, 0, none⟩) (Kd.R_types HO643.out BK653.out (by decide)) (fun _ hk => hk.2) (.int .i64 t646)) (fun _ hk => hk.2) (.slice Ao29 t647.length co29)) (fun _ hk => hk.2) (.slice Ao30 t650.length co30)) (fun _ h_ => h_.1))) (Kd.R_base ho1) hb); have n4_ := Aside0.mk (Kd.R_elder' (by (with_reducible repeat (first | apply Kd.R_alloc | apply Kd.R_drewN | apply Kd.R_drew)); exact (Kd.R_mono (Kd.R_far (p := ⟨gb653, 2, none⟩) (Kd.R_far (p := ⟨gb653, 1, none⟩) (Kd.R_far (p := ⟨gb653, 0, none⟩) (Kd.R_types HO649.out BK653.out (by decide)) (fun _ hk => hk.2) (.int .i64 t646)) (fun _ hk => hk.2) (.slice Ao29 t647.length co29)) (fun _ hk => hk.2) (.slice Ao30 t650.length co30)) (fun _ h_ => h_.1))) (Kd.R_base ho0) hb); have n5_ := Aside0.mk (Kd.R_elder' (by (with_reducible repeat (first | apply Kd.R_alloc | apply Kd.R_drewN | apply Kd.R_drew)); exact (Kd.R_mono (Kd.R_far (p := ⟨gb653, 2, none⟩) (Kd.R_far (p := ⟨gb653, 1, none⟩) (Kd.R_far (p := ⟨gb653, 0, none⟩) (Kd.R_types HO652.out BK653.out (by decide)) (fun _ hk => hk.2) (.int .i64 t646)) (fun _ hk => hk.2) (.slice Ao29 t647.length co29)) (fun _ hk => hk.2) (.slice Ao30 t650.length co30)) (fun _ h_ => h_.1))) (Kd.R_base ho1) hb); have n6_ := Aside0.mk (Kd.R_lower (Kd.R_new' (Kd.R_new' (Kd.R_new' ho0 (Kd.R_lt (by (with_reducible repeat (first | apply Kd.R_alloc | apply Kd.R_drewN | apply Kd.R_drew)); exact (Kd.R_mono (Kd.R_far (p := ⟨gb653, 2, none⟩) (Kd.R_far (p := ⟨gb653, 1, none⟩) (Kd.R_far (p := ⟨gb653, 0, none⟩) (Kd.R_types HO633.out BK653.out (by decide)) (fun _ hk => hk.2) (.int .i64 t646)) (fun _ hk => hk.2) (.slice Ao29 t647.length co29)) (fun _ hk => hk.2) (.slice Ao30 t650.length co30)) (fun _ h_ => h_.1))))) (Kd.R_lt (by (with_reducible repeat (first | apply Kd.R_alloc | apply Kd.R_drewN | apply Kd.R_drew)); exact (Kd.R_mono (Kd.R_far (p := ⟨gb653, 2, none⟩) (Kd.R_far (p := ⟨gb653, 1, none⟩) (Kd.R_far (p := ⟨gb653, 0, none⟩) (Kd.R_types HO640.out BK653.out (by decide)) (fun _ hk => hk.2) (.int .i64 t646)) (fun _ hk => hk.2) (.slice Ao29 t647.length co29)) (fun _ hk => hk.2) (.slice Ao30 t650.length co30)) (fun _ h_ => h_.1))))) (Kd.R_lt (by (with_reducible repeat (first | apply Kd.R_alloc | apply Kd.R_drewN | apply Kd.R_drew)); exact (Kd.R_mono (Kd.R_far (p := ⟨gb653, 2, none⟩) (Kd.R_far (p := ⟨gb653, 1, none⟩) (Kd.R_far (p := ⟨gb653, 0, none⟩) (Kd.R_types HO649.out BK653.out (by decide)) (fun _ hk => hk.2) (.int .i64 t646)) (fun _ hk => hk.2) (.slice Ao29 t647.length co29)) (fun _ hk => hk.2) (.slice Ao30 t650.length co30)) (fun _ h_ => h_.1))))) (below_size (by repeat (first | (with_reducible first | exact HB.out | apply below_alloc | apply pw_below_drewN | apply below_drew1 | refine below_set ?_ GE628.out | refine below_set ?_ GE645.out | refine below_set ?_ GE653.out) | exact HB.out)))); have n7_ := Aside0.mk (Kd.R_lower (Kd.R_new' (Kd.R_new' (Kd.R_new' ho1 (Kd.R_lt (by (with_reducible repeat (first | apply Kd.R_alloc | apply Kd.R_drewN | apply Kd.R_drew)); exact (Kd.R_mono (Kd.R_far (p := ⟨gb653, 2, none⟩) (Kd.R_far (p := ⟨gb653, 1, none⟩) (Kd.R_far (p := ⟨gb653, 0, none⟩) (Kd.R_types HO636.out BK653.out (by decide)) (fun _ hk => hk.2) (.int .i64 t646)) (fun _ hk => hk.2) (.slice Ao29 t647.length co29)) (fun _ hk => hk.2) (.slice Ao30 t650.length co30)) (fun _ h_ => h_.1))))) (Kd.R_lt (by (with_reducible repeat (first | apply Kd.R_alloc | apply Kd.R_drewN | apply Kd.R_drew)); exact (Kd.R_mono (Kd.R_far (p := ⟨gb653, 2, none⟩) (Kd.R_far (p := ⟨gb653, 1, none⟩) (Kd.R_far (p := ⟨gb653, 0, none⟩) (Kd.R_types HO643.out BK653.out (by decide)) (fun _ hk => hk.2) (.int .i64 t646)) (fun _ hk => hk.2) (.slice Ao29 t647.length co29)) (fun _ hk => hk.2) (.slice Ao30 t650.length co30)) (fun _ h_ => h_.1))))) (Kd.R_lt (by (with_reducible repeat (first | apply Kd.R_alloc | apply Kd.R_drewN | apply Kd.R_drew)); exact (Kd.R_mono (Kd.R_far (p := ⟨gb653, 2, none⟩) (Kd.R_far (p := ⟨gb653, 1, none⟩) (Kd.R_far (p := ⟨gb653, 0, none⟩) (Kd.R_types HO652.out BK653.out (by decide)) (fun _ hk => hk.2) (.int .i64 t646)) (fun _ hk => hk.2) (.slice Ao29 t647.length co29)) (fun _ hk => hk.2) (.slice Ao30 t650.length co30)) (fun _ h_ => h_.1))))) (below_size (by repeat (first | (with_reducible first | exact HB.out | apply below_alloc | apply pw_below_drewN | apply below_drew1 | refine below_set ?_ GE628.out | refine below_set ?_ GE645.out | refine below_set ?_ GE653.out) | exact HB.out)))); have n8_ := Aside0.mk (blk_below (g := gb628) (o := .cells #[.int .i64 a0_0, .slice A0_1 l0_1.length c0_1, .slice A0_2 l0_2.length c0_2] 32 (0, 0)) (by (with_reducible repeat (first | refine blk_drewN ?_ _ | refine blk_drew ?_ | refine blk_alloc ?_ _)); refine blk_far ?_ NB628_653.out _; (with_reducible repeat (first | refine blk_drewN ?_ _ | refine blk_drew ?_ | refine blk_alloc ?_ _)); refine blk_far ?_ NB628_653.out _; (with_reducible repeat (first | refine blk_drewN ?_ _ | refine blk_drew ?_ | refine blk_alloc ?_ _)); refine blk_far ?_ NB628_653.out _; (with_reducible repeat (first | refine blk_drewN ?_ _ | refine blk_drew ?_ | refine blk_alloc ?_ _)); exact BK628.out) hb); have n9_ := Aside0.mk (blk_below (g := gb645) (o := .cells #[.int .i64 t637, .slice Ao21 t638.length co21, .slice Ao22 t641.length co22] 25 (0, 0)) (by (with_reducible repeat (first | refine blk_drewN ?_ _ | refine blk_drew ?_ | refine blk_alloc ?_ _)); refine blk_far ?_ NB645_653.out _; (with_reducible repeat (first | refine blk_drewN ?_ _ | refine blk_drew ?_ | refine blk_alloc ?_ _)); refine blk_far ?_ NB645_653.out _; (with_reducible repeat (first | refine blk_drewN ?_ _ | refine blk_drew ?_ | refine blk_alloc ?_ _)); refine blk_far ?_ NB645_653.out _; (with_reducible repeat (first | refine blk_drewN ?_ _ | refine blk_drew ?_ | refine blk_alloc ?_ _)); exact BK645.out) hb); have n10_ := Aside0.mk (blk_below (g := gb653) (o := .cells #[.int .i64 t646, .slice Ao29 t647.length co29, .slice Ao30 t650.length co30] 25 (0, 0)) (by (with_reducible repeat (first | refine blk_drewN ?_ _ | refine blk_drew ?_ | refine blk_alloc ?_ _)); refine blk_put (cs := #[.int .i64 t646, .slice Ao29 t647.length co29, .slice none 0 0]) ?_ 2 _ rfl; (with_reducible repeat (first | refine blk_drewN ?_ _ | refine blk_drew ?_ | refine blk_alloc ?_ _)); refine blk_put (cs := #[.int .i64 t646, .slice none 0 0, .slice none 0 0]) ?_ 1 _ rfl; (with_reducible repeat (first | refine blk_drewN ?_ _ | refine blk_drew ?_ | refine blk_alloc ?_ _)); refine blk_put (cs := #[.int .i64 0, .slice none 0 0, .slice none 0 0]) ?_ 0 _ rfl; (with_reducible repeat (first | refine blk_drewN ?_ _ | refine blk_drew ?_ | refine blk_alloc ?_ _)); exact BK653.out) hb); have n11_ := Aside0.mk (below_step (by repeat (first | (with_reducible first | exact HB.out | apply below_alloc | apply pw_below_drewN | apply below_drew1 | refine below_set ?_ GE628.out | refine below_set ?_ GE645.out | refine below_set ?_ GE653.out) | exact HB.out)) hb); clear HO633; clear HO636; clear HO640; clear HO643; clear HO649; clear HO652; clear BK628; clear BK645; clear BK653; clear HB; have HO633 := n0_; have HO636 := n1_; have HO640 := n2_; have HO643 := n3_; have HO649 := n4_; have HO652 := n5_; have HO657 := n6_; have HO660 := n7_; have BK628 := n8_; have BK645 := n9_; have BK653 := n10_; have HB := n11_; clear n0_ n1_ n2_ n3_ n4_ n5_ n6_ n7_ n8_ n9_ n10_ n11_; (try clear hb); (try clear hb2); (try clear hk); (try clear hi); (try clear ho0); (try clear ho1)) | ((with_reducible refine gate_dst (N := 7) rfl ?_); refine box_event ?hg (N := 7) ?hd (cs := #[.int .i64 0, .slice none 0 0, .slice none 0 0]) (t := 25) ?hr ?_; (case hd => rfl); (case hg => rfl); (case hr => first | (go_simp; done) | (go_simp; rfl)); intro gb662 hg w32 hbox hb; have n0_ := Aside0.mk (Kd.R_below (by (with_reducible repeat (first | apply Kd.R_alloc | apply Kd.R_drewN | apply Kd.R_drew)); exact HO633.out) hb); have n1_ := Aside0.mk (Kd.R_below (by (with_reducible repeat (first | apply Kd.R_alloc | apply Kd.R_drewN | apply Kd.R_drew)); exact HO636.out) hb); have n2_ := Aside0.mk (Kd.R_below (by (with_reducible repeat (first | apply Kd.R_alloc | apply Kd.R_drewN | apply Kd.R_drew)); exact HO640.out) hb); have n3_ := Aside0.mk (Kd.R_below (by (with_reducible repeat (first | apply Kd.R_alloc | apply Kd.R_drewN | apply Kd.R_drew)); exact HO643.out) hb); have n4_ := Aside0.mk (Kd.R_below (by (with_reducible repeat (first | apply Kd.R_alloc | apply Kd.R_drewN | apply Kd.R_drew)); exact HO649.out) hb); have n5_ := Aside0.mk (Kd.R_below (by (with_reducible repeat (first | apply Kd.R_alloc | apply Kd.R_drewN | apply Kd.R_drew)); exact HO652.out) hb); have n6_ := Aside0.mk (Kd.R_below (by (with_reducible repeat (first | apply Kd.R_alloc | apply Kd.R_drewN | apply Kd.R_drew)); exact HO657.out) hb); have n7_ := Aside0.mk (Kd.R_below (by (with_reducible repeat (first | apply Kd.R_alloc | apply Kd.R_drewN | apply Kd.R_drew)); exact HO660.out) hb); have n8_ := Aside0.mk (blk_below (g := gb628) (o := .cells #[.int .i64 a0_0, .slice A0_1 l0_1.length c0_1, .slice A0_2 l0_2.length c0_2] 32 (0, 0)) (by (with_reducible repeat (first | refine blk_drewN ?_ _ | refine blk_drew ?_ | refine blk_alloc ?_ _)); exact BK628.out) hb); have n9_ := Aside0.mk (blk_below (g := gb645) (o := .cells #[.int .i64 t637, .slice Ao21 t638.length co21, .slice Ao22 t641.length co22] 25 (0, 0)) (by (with_reducible repeat (first | refine blk_drewN ?_ _ | refine blk_drew ?_ | refine blk_alloc ?_ _)); exact BK645.out) hb); have n10_ := Aside0.mk (blk_below (g := gb653) (o := .cells #[.int .i64 t646, .slice Ao29 t647.length co29, .slice Ao30 t650.length co30] 25 (0, 0)) (by (with_reducible repeat (first | refine blk_drewN ?_ _ | refine blk_drew ?_ | refine blk_alloc ?_ _)); exact BK653.out) hb); have n11_ := Aside0.mk (below_step (by repeat (first | (with_reducible first | exact HB.out | apply below_alloc | apply pw_below_drewN | apply below_drew1 | refine below_set ?_ GE628.out | refine below_set ?_ GE645.out | refine below_set ?_ GE653.out) | exact HB.out)) hb); have n12_ := Aside0.mk (hbox); have n13_ := Aside0.mk ((by rw [hg]; exact (below_size (by repeat (first | (with_reducible first | exact HB.out | apply below_alloc | apply pw_below_drewN | apply below_drew1 | refine below_set ?_ GE628.out | refine below_set ?_ GE645.out | refine below_set ?_ GE653.out) | exact HB.out))) : w.heap.size ≤ gb662)); have n14_ := Aside0.mk ((by rw [hg]; exact (below_size (by repeat (first | (with_reducible first | exact HB.out | apply below_alloc | apply pw_below_drewN | apply below_drew1 | refine below_set ?_ GE628.out | refine below_set ?_ GE645.out | refine below_set ?_ GE653.out) | exact HB.out))) : w.heap.size ≤ gb662)); have n15_ := Aside0.mk ((by rw [hg]; exact Nat.ne_of_lt (blk_lt (g := gb628) (o := .cells #[.int .i64 a0_0, .slice A0_1 l0_1.length c0_1, .slice A0_2 l0_2.length c0_2] 32 (0, 0)) (by (with_reducible repeat (first | refine blk_drewN ?_ _ | refine blk_drew ?_ | refine blk_alloc ?_ _)); exact BK628.out)) : gb628 ≠ gb662)); have n16_ := Aside0.mk ((by rw [hg]; exact Nat.ne_of_gt (blk_lt (g := gb628) (o := .cells #[.int .i64 a0_0, .slice A0_1 l0_1.length c0_1, .slice A0_2 l0_2.length c0_2] 32 (0, 0)) (by (with_reducible repeat (first | refine blk_drewN ?_ _ | refine blk_drew ?_ | refine blk_alloc ?_ _)); exact BK628.out)) : gb662 ≠ gb628)); have n17_ := Aside0.mk ((by rw [hg]; exact Nat.ne_of_lt (blk_lt (g := gb645) (o := .cells #[.int .i64 t637, .slice Ao21 t638.length co21, .slice Ao22 t641.length co22] 25 (0, 0)) (by (with_reducible repeat (first | refine blk_drewN ?_ _ | refine blk_drew ?_ | refine blk_alloc ?_ _)); exact BK645.out)) : gb645 ≠ gb662)); have n18_ := Aside0.mk ((by rw [hg]; exact Nat.ne_of_gt (blk_lt (g := gb645) (o := .cells #[.int .i64 t637, .slice Ao21 t638.length co21, .slice Ao22 t641.length co22] 25 (0, 0)) (by (with_reducible repeat (first | refine blk_drewN ?_ _ | refine blk_drew ?_ | refine blk_alloc ?_ _)); exact BK645.out)) : gb662 ≠ gb645)); have n19_ := Aside0.mk ((by rw [hg]; exact Nat.ne_of_lt (blk_lt (g := gb653) (o := .cells #[.int .i64 t646, .slice Ao29 t647.length co29, .slice Ao30 t650.length co30] 25 (0, 0)) (by (with_reducible repeat (first | refine blk_drewN ?_ _ | refine blk_drew ?_ | refine blk_alloc ?_ _)); exact BK653.out)) : gb653 ≠ gb662)); have n20_ := Aside0.mk ((by rw [hg]; exact Nat.ne_of_gt (blk_lt (g := gb653) (o := .cells #[.int .i64 t646, .slice Ao29 t647.length co29, .slice Ao30 t650.length co30] 25 (0, 0)) (by (with_reducible repeat (first | refine blk_drewN ?_ _ | refine blk_drew ?_ | refine blk_alloc ?_ _)); exact BK653.out)) : gb662 ≠ gb653)); clear HO633; clear HO636; clear HO640; clear HO643; clear HO649; clear HO652; clear HO657; clear HO660; clear BK628; clear BK645; clear BK653; clear HB; have HO633 := n0_; have HO636 := n1_; have HO640 := n2_; have HO643 := n3_; have HO649 := n4_; have HO652 := n5_; have HO657 := n6_; have HO660 := n7_; have BK628 := n8_; have BK645 := n9_; have BK653 := n10_; have HB := n11_; have BK662 := n12_; have GW662 := n13_; have GE662 := n14_; have NB628_662 := n15_; have NB662_628 := n16_; have NB645_662 := n17_; have NB662_645 := n18_; have NB653_662 := n19_; have NB662_653 := n20_; clear n0_ n1_ n2_ n3_ n4_ n5_ n6_ n7_ n8_ n9_ n10_ n11_ n12_ n13_ n14_ n15_ n16_ n17_ n18_ n19_ n20_; clear hb hbox hg; have hnb33 := NB662_628.out; have hnc33 := NB628_662.out; have hnb34 := NB662_645.out; have hnc34 := NB645_662.out; have hnb35 := NB662_653.out; have hnc35 := NB653_662.out; have hcz36_0 : w32.cell? ⟨gb662, 0, none⟩ = some (.int .i64 0) := (blk_cell BK662.out 0).trans rfl; have hcz36_1 : w32.cell? ⟨gb662, 1, none⟩ = some (.slice none 0 0) := (blk_cell BK662.out 1).trans rfl; have hcz36_2 : w32.cell? ⟨gb662, 2, none⟩ = some (.slice none 0 0) := (blk_cell BK662.out 2).trans rfl; have hfz36_0 := blk_frozen BK662.out 0; have hfz36_1 := blk_frozen BK662.out 1; have hfz36_2 := blk_frozen BK662.out 2; obtain ⟨Ao37, co37, eo37⟩ := Kd.R_slice HO657.out; subst eo37; obtain ⟨Ao38, co38, eo38⟩ := Kd.R_slice HO660.out; subst eo38))
    (try simp only [Act.put, List.setIfInBounds_toArray, List.set_cons_zero, List.set_cons_succ])
    go_cut [40] (fun v40 wc => ∃ (kq : Nat) (x40_11 : Bool), v40 = .bool x40_11 ∧ Aside0 (laws_FnExactAdvanceEpoch.j0 kq t644 t661 x40_11 a0_0 l0_1 l0_2 t637 t638 t641 t646 t647 t650 t654 t655 t658 = some r) ∧ Aside0 (kq ≤ k) ∧ Aside0 (Kd.R (Kd.int .i64) 3 wc w.heap.size (fun k_ => some k_ ≠ ((.slice Ao29 t647.length co29) : Value).ownBlock ∧ some k_ ≠ ((.slice Ao37 t655.length co37) : Value).ownBlock) (.slice Ao21 t638.length co21) t638) ∧ Aside0 (Kd.R k57 57 wc w.heap.size (fun k_ => some k_ ≠ ((.slice Ao30 t650.length co30) : Value).ownBlock ∧ some k_ ≠ ((.slice Ao38 t658.length co38) : Value).ownBlock) (.slice Ao22 t641.length co22) t641) ∧ Aside0 (Kd.R (Kd.int .i64) 3 wc w.heap.size (fun k_ => some k_ ≠ ((.slice Ao21 t638.length co21) : Value).ownBlock ∧ some k_ ≠ ((.slice Ao37 t655.length co37) : Value).ownBlock) (.slice Ao29 t647.length co29) t647) ∧ Aside0 (Kd.R k57 57 wc w.heap.size (fun k_ => some k_ ≠ ((.slice Ao22 t641.length co22) : Value).ownBlock ∧ some k_ ≠ ((.slice Ao38 t658.length co38) : Value).ownBlock) (.slice Ao30 t650.length co30) t650) ∧ Aside0 (Kd.R (Kd.int .i64) 3 wc w.heap.size (fun k_ => some k_ ≠ ((.slice Ao21 t638.length co21) : Value).ownBlock ∧ some k_ ≠ ((.slice Ao29 t647.length co29) : Value).ownBlock) (.slice Ao37 t655.length co37) t655) ∧ Aside0 (Kd.R k57 57 wc w.heap.size (fun k_ => some k_ ≠ ((.slice Ao22 t641.length co22) : Value).ownBlock ∧ some k_ ≠ ((.slice Ao30 t650.length co30) : Value).ownBlock) (.slice Ao38 t658.length co38) t658) ∧ Aside0 (wc.heap[gb628]? = some (.cells #[.int .i64 a0_0, (.slice A0_1 l0_1.length c0_1), (.slice A0_2 l0_2.length c0_2)] 32 (0, 0))) ∧ Aside0 (wc.heap[gb645]? = some (.cells #[.int .i64 t637, (.slice Ao21 t638.length co21), (.slice Ao22 t641.length co22)] 25 (0, 0))) ∧ Aside0 (wc.heap[gb653]? = some (.cells #[.int .i64 t646, (.slice Ao29 t647.length co29), (.slice Ao30 t650.length co30)] 25 (0, 0))) ∧ Aside0 (wc.heap[gb662]? = some (.cells #[.int .i64 t654, (.slice Ao37 t655.length co37), (.slice Ao38 t658.length co38)] 25 (0, 0))) ∧ Aside0 (Below w.heap.size w wc))
    case first =>
      have H := HC12.out
      clear HC12
      replace H := Option.bind_eq_some_iff.mp H
      obtain ⟨t663, A390, H⟩ := H
      replace H : (if t663 = true then (laws_FnExactAdvanceEpoch.j0 k t644 t661 (t661 != t644) a0_0 l0_1 l0_2 t637 t638 t641 t646 t647 t650 t654 t655 t658) else (laws_FnExactAdvanceEpoch.j0 k t644 t661 true a0_0 l0_1 l0_2 t637 t638 t641 t646 t647 t650 t654 t655 t658)) = some r := H
      have A39 := Aside0.mk A390
      clear A390
      by_cases c40 : t663 = true
      · subst c40
        have H1 : (laws_FnExactAdvanceEpoch.j0 k t644 t661 (t661 != t644) a0_0 l0_1 l0_2 t637 t638 t641 t646 t647 t650 t654 t655 t658) = some r := by rw [if_pos rfl] at H; exact H
        clear H
        have H := H1
        clear H1
        have H' := Aside0.mk H
        clear H
        have hnb41 := NB662_628.out
        have hnc41 := NB628_662.out
        have hnb42 := NB662_645.out
        have hnc42 := NB645_662.out
        have hnb43 := NB662_653.out
        have hnc43 := NB653_662.out
        have hcz44_0 : w32.cell? ⟨gb662, 0, none⟩ = some (.int .i64 0) := (blk_cell BK662.out 0).trans rfl
        have hcz44_1 : w32.cell? ⟨gb662, 1, none⟩ = some (.slice none 0 0) := (blk_cell BK662.out 1).trans rfl
        have hcz44_2 : w32.cell? ⟨gb662, 2, none⟩ = some (.slice none 0 0) := (blk_cell BK662.out 2).trans rfl
        have hfz44_0 := blk_frozen BK662.out 0
        have hfz44_1 := blk_frozen BK662.out 1
        have hfz44_2 := blk_frozen BK662.out 2
        have hnb45 := NB645_628.out
        have hnc45 := NB628_645.out
        have hnb46 := NB645_653.out
        have hnc46 := NB653_645.out
        have hcz47_0 : w32.cell? ⟨gb645, 0, none⟩ = some (.int .i64 t637) := (blk_cell BK645.out 0).trans rfl
        have hcz47_1 : w32.cell? ⟨gb645, 1, none⟩ = some (.slice Ao21 t638.length co21) := (blk_cell BK645.out 1).trans rfl
        have hcz47_2 : w32.cell? ⟨gb645, 2, none⟩ = some (.slice Ao22 t641.length co22) := (blk_cell BK645.out 2).trans rfl
        have hfz47_0 := blk_frozen BK645.out 0
        have hfz47_1 := blk_frozen BK645.out 1
        have hfz47_2 := blk_frozen BK645.out 2
        go_wp2_with (first | ((with_reducible refine gate_callee (f := 15) rfl ?_); refine goesL_ (some 34) rfl rfl Try.func15 (by kernel_rfl) rfl #[.agg #[.int .i64 t654, .slice Ao37 t655.length co37, .slice Ao38 t658.length co38], .agg #[.int .i64 t637, .slice Ao21 t638.length co21, .slice Ao22 t641.length co22]] rfl (by (try simp only [List.map_toArray, List.map_cons, List.map_nil]); first | done | rfl | (simp only [List.length_drop, List.length_take]; rfl)) ?_; (with_reducible refine (laws_eqEpochs.calls k t654 _ _ t655 _ _ t658 t637 _ _ t638 _ _ t641 true _ ?side1 ?side2 ?side3 ?side4 ?side5 ?side6 ?side7 ?side8 A39.out).mono ?_); (case side1 => refine (Kd.R_reads' (e := 3) (base := w.heap.size) (ok := fun k_ => (((True ∧ some k_ ≠ (.slice Ao15 t631.length co15 : Value).ownBlock) ∧ some k_ ≠ (.slice Ao21 t638.length co21 : Value).ownBlock) ∧ some k_ ≠ (.slice Ao29 t647.length co29 : Value).ownBlock)) (n := t655.length) (c := co37) ?_).2.2; exact (by (with_reducible repeat (first | apply Kd.R_alloc | apply Kd.R_drewN | apply Kd.R_drew)); exact (Kd.R_mono (Kd.R_far (p := ⟨gb662, 2, none⟩) (Kd.R_far (p := ⟨gb662, 1, none⟩) (Kd.R_far (p := ⟨gb662, 0, none⟩) (Kd.R_types HO657.out BK662.out (by decide)) (fun _ hk => hk.2) (.int .i64 t654)) (fun _ hk => hk.2) (.slice Ao37 t655.length co37)) (fun _ hk => hk.2) (.slice Ao38 t658.length co38)) (fun _ h_ => h_.1)))); (case side2 => exact (Kd.R_reads' HO657.out).2.1); (case side3 => refine (Kd.R_reads' (e := 57) (base := w.heap.size) (ok := fun k_ => (((True ∧ some k_ ≠ (.slice Ao16 t634.length co16 : Value).ownBlock) ∧ some k_ ≠ (.slice Ao22 t641.length co22 : Value).ownBlock) ∧ some k_ ≠ (.slice Ao30 t650.length co30 : Value).ownBlock)) (n := t658.length) (c := co38) ?_).2.2; exact (by (with_reducible repeat (first | apply Kd.R_alloc | apply Kd.R_drewN | apply Kd.R_drew)); exact (Kd.R_mono (Kd.R_far (p := ⟨gb662, 2, none⟩) (Kd.R_far (p := ⟨gb662, 1, none⟩) (Kd.R_far (p := ⟨gb662, 0, none⟩) (Kd.R_types HO660.out BK662.out (by decide)) (fun _ hk => hk.2) (.int .i64 t654)) (fun _ hk => hk.2) (.slice Ao37 t655.length co37)) (fun _ hk => hk.2) (.slice Ao38 t658.length co38)) (fun _ h_ => h_.1)))); (case side4 => exact (Kd.R_reads' HO660.out).2.1); (case side5 => refine (Kd.R_reads' (e := 3) (base := w.heap.size) (ok := fun k_ => (((True ∧ some k_ ≠ (.slice Ao15 t631.length co15 : Value).ownBlock) ∧ some k_ ≠ (.slice Ao29 t647.length co29 : Value).ownBlock) ∧ some k_ ≠ (.slice Ao37 t655.length co37 : Value).ownBlock)) (n := t638.length) (c := co21) ?_).2.2; exact (by (with_reducible repeat (first | apply Kd.R_alloc | apply Kd.R_drewN | apply Kd.R_drew)); exact (Kd.R_mono (Kd.R_far (p := ⟨gb662, 2, none⟩) (Kd.R_far (p := ⟨gb662, 1, none⟩) (Kd.R_far (p := ⟨gb662, 0, none⟩) (Kd.R_types HO640.out BK662.out (by decide)) (fun _ hk => hk.2) (.int .i64 t654)) (fun _ hk => hk.2) (.slice Ao37 t655.length co37)) (fun _ hk => hk.2) (.slice Ao38 t658.length co38)) (fun _ h_ => h_.1)))); (case side6 => exact (Kd.R_reads' HO640.out).2.1); (case side7 => refine (Kd.R_reads' (e := 57) (base := w.heap.size) (ok := fun k_ => (((True ∧ some k_ ≠ (.slice Ao16 t634.length co16 : Value).ownBlock) ∧ some k_ ≠ (.slice Ao30 t650.length co30 : Value).ownBlock) ∧ some k_ ≠ (.slice Ao38 t658.length co38 : Value).ownBlock)) (n := t641.length) (c := co22) ?_).2.2; exact (by (with_reducible repeat (first | apply Kd.R_alloc | apply Kd.R_drewN | apply Kd.R_drew)); exact (Kd.R_mono (Kd.R_far (p := ⟨gb662, 2, none⟩) (Kd.R_far (p := ⟨gb662, 1, none⟩) (Kd.R_far (p := ⟨gb662, 0, none⟩) (Kd.R_types HO643.out BK662.out (by decide)) (fun _ hk => hk.2) (.int .i64 t654)) (fun _ hk => hk.2) (.slice Ao37 t655.length co37)) (fun _ hk => hk.2) (.slice Ao38 t658.length co38)) (fun _ h_ => h_.1)))); (case side8 => exact (Kd.R_reads' HO643.out).2.1); rintro e w48 ⟨rfl, hb⟩; refine ⟨_, rfl, ?_⟩; have n0_ := Aside0.mk (Kd.R_below (by (with_reducible repeat (first | apply Kd.R_alloc | apply Kd.R_drewN | apply Kd.R_drew)); exact (Kd.R_mono (Kd.R_far (p := ⟨gb662, 2, none⟩) (Kd.R_far (p := ⟨gb662, 1, none⟩) (Kd.R_far (p := ⟨gb662, 0, none⟩) (Kd.R_types HO633.out BK662.out (by decide)) (fun _ hk => hk.2) (.int .i64 t654)) (fun _ hk => hk.2) (.slice Ao37 t655.length co37)) (fun _ hk => hk.2) (.slice Ao38 t658.length co38)) (fun _ h_ => h_.1))) hb); have n1_ := Aside0.mk (Kd.R_below (by (with_reducible repeat (first | apply Kd.R_alloc | apply Kd.R_drewN | apply Kd.R_drew)); exact (Kd.R_mono (Kd.R_far (p := ⟨gb662, 2, none⟩) (Kd.R_far (p := ⟨gb662, 1, none⟩) (Kd.R_far (p := ⟨gb662, 0, none⟩) (Kd.R_types HO636.out BK662.out (by decide)) (fun _ hk => hk.2) (.int .i64 t654)) (fun _ hk => hk.2) (.slice Ao37 t655.length co37)) (fun _ hk => hk.2) (.slice Ao38 t658.length co38)) (fun _ h_ => h_.1))) hb); have n2_ := Aside0.mk (Kd.R_below (by (with_reducible repeat (first | apply Kd.R_alloc | apply Kd.R_drewN | apply Kd.R_drew)); exact (Kd.R_mono (Kd.R_far (p := ⟨gb662, 2, none⟩) (Kd.R_far (p := ⟨gb662, 1, none⟩) (Kd.R_far (p := ⟨gb662, 0, none⟩) (Kd.R_types HO640.out BK662.out (by decide)) (fun _ hk => hk.2) (.int .i64 t654)) (fun _ hk => hk.2) (.slice Ao37 t655.length co37)) (fun _ hk => hk.2) (.slice Ao38 t658.length co38)) (fun _ h_ => h_.1))) hb); have n3_ := Aside0.mk (Kd.R_below (by (with_reducible repeat (first | apply Kd.R_alloc | apply Kd.R_drewN | apply Kd.R_drew)); exact (Kd.R_mono (Kd.R_far (p := ⟨gb662, 2, none⟩) (Kd.R_far (p := ⟨gb662, 1, none⟩) (Kd.R_far (p := ⟨gb662, 0, none⟩) (Kd.R_types HO643.out BK662.out (by decide)) (fun _ hk => hk.2) (.int .i64 t654)) (fun _ hk => hk.2) (.slice Ao37 t655.length co37)) (fun _ hk => hk.2) (.slice Ao38 t658.length co38)) (fun _ h_ => h_.1))) hb); have n4_ := Aside0.mk (Kd.R_below (by (with_reducible repeat (first | apply Kd.R_alloc | apply Kd.R_drewN | apply Kd.R_drew)); exact (Kd.R_mono (Kd.R_far (p := ⟨gb662, 2, none⟩) (Kd.R_far (p := ⟨gb662, 1, none⟩) (Kd.R_far (p := ⟨gb662, 0, none⟩) (Kd.R_types HO649.out BK662.out (by decide)) (fun _ hk => hk.2) (.int .i64 t654)) (fun _ hk => hk.2) (.slice Ao37 t655.length co37)) (fun _ hk => hk.2) (.slice Ao38 t658.length co38)) (fun _ h_ => h_.1))) hb); have n5_ := Aside0.mk (Kd.R_below (by (with_reducible repeat (first | apply Kd.R_alloc | apply Kd.R_drewN | apply Kd.R_drew)); exact (Kd.R_mono (Kd.R_far (p := ⟨gb662, 2, none⟩) (Kd.R_far (p := ⟨gb662, 1, none⟩) (Kd.R_far (p := ⟨gb662, 0, none⟩) (Kd.R_types HO652.out BK662.out (by decide)) (fun _ hk => hk.2) (.int .i64 t654)) (fun _ hk => hk.2) (.slice Ao37 t655.length co37)) (fun _ hk => hk.2) (.slice Ao38 t658.length co38)) (fun _ h_ => h_.1))) hb); have n6_ := Aside0.mk (Kd.R_below (by (with_reducible repeat (first | apply Kd.R_alloc | apply Kd.R_drewN | apply Kd.R_drew)); exact (Kd.R_mono (Kd.R_far (p := ⟨gb662, 2, none⟩) (Kd.R_far (p := ⟨gb662, 1, none⟩) (Kd.R_far (p := ⟨gb662, 0, none⟩) (Kd.R_types HO657.out BK662.out (by decide)) (fun _ hk => hk.2) (.int .i64 t654)) (fun _ hk => hk.2) (.slice Ao37 t655.length co37)) (fun _ hk => hk.2) (.slice Ao38 t658.length co38)) (fun _ h_ => h_.1))) hb); have n7_ := Aside0.mk (Kd.R_below (by (with_reducible repeat (first | apply Kd.R_alloc | apply Kd.R_drewN | apply Kd.R_drew)); exact (Kd.R_mono (Kd.R_far (p := ⟨gb662, 2, none⟩) (Kd.R_far (p := ⟨gb662, 1, none⟩) (Kd.R_far (p := ⟨gb662, 0, none⟩) (Kd.R_types HO660.out BK662.out (by decide)) (fun _ hk => hk.2) (.int .i64 t654)) (fun _ hk => hk.2) (.slice Ao37 t655.length co37)) (fun _ hk => hk.2) (.slice Ao38 t658.length co38)) (fun _ h_ => h_.1))) hb); have n8_ := Aside0.mk (blk_below (g := gb628) (o := .cells #[.int .i64 a0_0, .slice A0_1 l0_1.length c0_1, .slice A0_2 l0_2.length c0_2] 32 (0, 0)) (by (with_reducible repeat (first | refine blk_drewN ?_ _ | refine blk_drew ?_ | refine blk_alloc ?_ _)); refine blk_far ?_ NB628_662.out _; (with_reducible repeat (first | refine blk_drewN ?_ _ | refine blk_drew ?_ | refine blk_alloc ?_ _)); refine blk_far ?_ NB628_662.out _; (with_reducible repeat (first | refine blk_drewN ?_ _ | refine blk_drew ?_ | refine blk_alloc ?_ _)); refine blk_far ?_ NB628_662.out _; (with_reducible repeat (first | refine blk_drewN ?_ _ | refine blk_drew ?_ | refine blk_alloc ?_ _)); exact BK628.out) hb); have n9_ := Aside0.mk (blk_below (g := gb645) (o := .cells #[.int .i64 t637, .slice Ao21 t638.length co21, .slice Ao22 t641.length co22] 25 (0, 0)) (by (with_reducible repeat (first | refine blk_drewN ?_ _ | refine blk_drew ?_ | refine blk_alloc ?_ _)); refine blk_far ?_ NB645_662.out _; (with_reducible repeat (first | refine blk_drewN ?_ _ | refine blk_drew ?_ | refine blk_alloc ?_ _)); refine blk_far ?_ NB645_662.out _; (with_reducible repeat (first | refine blk_drewN ?_ _ | refine blk_drew ?_ | refine blk_alloc ?_ _)); refine blk_far ?_ NB645_662.out _; (with_reducible repeat (first | refine blk_drewN ?_ _ | refine blk_drew ?_ | refine blk_alloc ?_ _)); exact BK645.out) hb); have n10_ := Aside0.mk (blk_below (g := gb653) (o := .cells #[.int .i64 t646, .slice Ao29 t647.length co29, .slice Ao30 t650.length co30] 25 (0, 0)) (by (with_reducible repeat (first | refine blk_drewN ?_ _ | refine blk_drew ?_ | refine blk_alloc ?_ _)); refine blk_far ?_ NB653_662.out _; (with_reducible repeat (first | refine blk_drewN ?_ _ | refine blk_drew ?_ | refine blk_alloc ?_ _)); refine blk_far ?_ NB653_662.out _; (with_reducible repeat (first | refine blk_drewN ?_ _ | refine blk_drew ?_ | refine blk_alloc ?_ _)); refine blk_far ?_ NB653_662.out _; (with_reducible repeat (first | refine blk_drewN ?_ _ | refine blk_drew ?_ | refine blk_alloc ?_ _)); exact BK653.out) hb); have n11_ := Aside0.mk (blk_below (g := gb662) (o := .cells #[.int .i64 t654, .slice Ao37 t655.length co37, .slice Ao38 t658.length co38] 25 (0, 0)) (by (with_reducible repeat (first | refine blk_drewN ?_ _ | refine blk_drew ?_ | refine blk_alloc ?_ _)); refine blk_put (cs := #[.int .i64 t654, .slice Ao37 t655.length co37, .slice none 0 0]) ?_ 2 _ rfl; (with_reducible repeat (first | refine blk_drewN ?_ _ | refine blk_drew ?_ | refine blk_alloc ?_ _)); refine blk_put (cs := #[.int .i64 t654, .slice none 0 0, .slice none 0 0]) ?_ 1 _ rfl; (with_reducible repeat (first | refine blk_drewN ?_ _ | refine blk_drew ?_ | refine blk_alloc ?_ _)); refine blk_put (cs := #[.int .i64 0, .slice none 0 0, .slice none 0 0]) ?_ 0 _ rfl; (with_reducible repeat (first | refine blk_drewN ?_ _ | refine blk_drew ?_ | refine blk_alloc ?_ _)); exact BK662.out) hb); have n12_ := Aside0.mk (below_step (by repeat (first | (with_reducible first | exact HB.out | apply below_alloc | apply pw_below_drewN | apply below_drew1 | refine below_set ?_ GE628.out | refine below_set ?_ GE645.out | refine below_set ?_ GE653.out | refine below_set ?_ GE662.out) | exact HB.out)) hb); clear HO633; clear HO636; clear HO640; clear HO643; clear HO649; clear HO652; clear HO657; clear HO660; clear BK628; clear BK645; clear BK653; clear BK662; clear HB; have HO633 := n0_; have HO636 := n1_; have HO640 := n2_; have HO643 := n3_; have HO649 := n4_; have HO652 := n5_; have HO657 := n6_; have HO660 := n7_; have BK628 := n8_; have BK645 := n9_; have BK653 := n10_; have BK662 := n11_; have HB := n12_; clear n0_ n1_ n2_ n3_ n4_ n5_ n6_ n7_ n8_ n9_ n10_ n11_ n12_; (try clear hb); (try clear hb2); (try clear hk); (try clear hi)))
        go_meet
        case rel => exact ⟨_, ((t661 != t644)), (by first | rfl | (simp; done) | (simp [*]; done)), H', ⟨by first | omega | exact Nat.le_refl _⟩, ⟨by (with_reducible repeat (first | apply Kd.R_alloc | apply Kd.R_drewN | apply Kd.R_drew)); exact Kd.R_mono HO640.out (fun _ hk => ⟨hk.1.2, hk.2⟩)⟩, ⟨by (with_reducible repeat (first | apply Kd.R_alloc | apply Kd.R_drewN | apply Kd.R_drew)); exact Kd.R_mono HO643.out (fun _ hk => ⟨hk.1.2, hk.2⟩)⟩, ⟨by (with_reducible repeat (first | apply Kd.R_alloc | apply Kd.R_drewN | apply Kd.R_drew)); exact Kd.R_mono HO649.out (fun _ hk => ⟨hk.1.2, hk.2⟩)⟩, ⟨by (with_reducible repeat (first | apply Kd.R_alloc | apply Kd.R_drewN | apply Kd.R_drew)); exact Kd.R_mono HO652.out (fun _ hk => ⟨hk.1.2, hk.2⟩)⟩, ⟨by (with_reducible repeat (first | apply Kd.R_alloc | apply Kd.R_drewN | apply Kd.R_drew)); exact Kd.R_mono HO657.out (fun _ hk => ⟨hk.1.2, hk.2⟩)⟩, ⟨by (with_reducible repeat (first | apply Kd.R_alloc | apply Kd.R_drewN | apply Kd.R_drew)); exact Kd.R_mono HO660.out (fun _ hk => ⟨hk.1.2, hk.2⟩)⟩, ⟨by (with_reducible repeat (first | refine blk_drewN ?_ _ | refine blk_drew ?_ | refine blk_alloc ?_ _)); exact BK628.out⟩, ⟨by (with_reducible repeat (first | refine blk_drewN ?_ _ | refine blk_drew ?_ | refine blk_alloc ?_ _)); exact BK645.out⟩, ⟨by (with_reducible repeat (first | refine blk_drewN ?_ _ | refine blk_drew ?_ | refine blk_alloc ?_ _)); exact BK653.out⟩, ⟨by (with_reducible repeat (first | refine blk_drewN ?_ _ | refine blk_drew ?_ | refine blk_alloc ?_ _)); exact BK662.out⟩, ⟨by repeat (first | (with_reducible first | exact HB.out | apply below_alloc | apply pw_below_drewN | apply below_drew1 | refine below_set ?_ GE628.out | refine below_set ?_ GE645.out | refine below_set ?_ GE653.out | refine below_set ?_ GE662.out) | exact HB.out)⟩⟩
      · replace c40 := Bool.eq_false_iff.mpr c40
        subst c40
        have H1 : (laws_FnExactAdvanceEpoch.j0 k t644 t661 true a0_0 l0_1 l0_2 t637 t638 t641 t646 t647 t650 t654 t655 t658) = some r := by rw [if_neg (show ¬ (false = true) by decide)] at H; exact H
        clear H
        have H := H1
        clear H1
        have H' := Aside0.mk H
        clear H
        have hnb49 := NB662_628.out
        have hnc49 := NB628_662.out
        have hnb50 := NB662_645.out
        have hnc50 := NB645_662.out
        have hnb51 := NB662_653.out
        have hnc51 := NB653_662.out
        have hcz52_0 : w32.cell? ⟨gb662, 0, none⟩ = some (.int .i64 0) := (blk_cell BK662.out 0).trans rfl
        have hcz52_1 : w32.cell? ⟨gb662, 1, none⟩ = some (.slice none 0 0) := (blk_cell BK662.out 1).trans rfl
        have hcz52_2 : w32.cell? ⟨gb662, 2, none⟩ = some (.slice none 0 0) := (blk_cell BK662.out 2).trans rfl
        have hfz52_0 := blk_frozen BK662.out 0
        have hfz52_1 := blk_frozen BK662.out 1
        have hfz52_2 := blk_frozen BK662.out 2
        have hnb53 := NB645_628.out
        have hnc53 := NB628_645.out
        have hnb54 := NB645_653.out
        have hnc54 := NB653_645.out
        have hcz55_0 : w32.cell? ⟨gb645, 0, none⟩ = some (.int .i64 t637) := (blk_cell BK645.out 0).trans rfl
        have hcz55_1 : w32.cell? ⟨gb645, 1, none⟩ = some (.slice Ao21 t638.length co21) := (blk_cell BK645.out 1).trans rfl
        have hcz55_2 : w32.cell? ⟨gb645, 2, none⟩ = some (.slice Ao22 t641.length co22) := (blk_cell BK645.out 2).trans rfl
        have hfz55_0 := blk_frozen BK645.out 0
        have hfz55_1 := blk_frozen BK645.out 1
        have hfz55_2 := blk_frozen BK645.out 2
        go_wp2_with (first | ((with_reducible refine gate_callee (f := 15) rfl ?_); refine goesL_ (some 34) rfl rfl Try.func15 (by kernel_rfl) rfl #[.agg #[.int .i64 t654, .slice Ao37 t655.length co37, .slice Ao38 t658.length co38], .agg #[.int .i64 t637, .slice Ao21 t638.length co21, .slice Ao22 t641.length co22]] rfl (by (try simp only [List.map_toArray, List.map_cons, List.map_nil]); first | done | rfl | (simp only [List.length_drop, List.length_take]; rfl)) ?_; (with_reducible refine (laws_eqEpochs.calls k t654 _ _ t655 _ _ t658 t637 _ _ t638 _ _ t641 false _ ?side1 ?side2 ?side3 ?side4 ?side5 ?side6 ?side7 ?side8 A39.out).mono ?_); (case side1 => refine (Kd.R_reads' (e := 3) (base := w.heap.size) (ok := fun k_ => (((True ∧ some k_ ≠ (.slice Ao15 t631.length co15 : Value).ownBlock) ∧ some k_ ≠ (.slice Ao21 t638.length co21 : Value).ownBlock) ∧ some k_ ≠ (.slice Ao29 t647.length co29 : Value).ownBlock)) (n := t655.length) (c := co37) ?_).2.2; exact (by (with_reducible repeat (first | apply Kd.R_alloc | apply Kd.R_drewN | apply Kd.R_drew)); exact (Kd.R_mono (Kd.R_far (p := ⟨gb662, 2, none⟩) (Kd.R_far (p := ⟨gb662, 1, none⟩) (Kd.R_far (p := ⟨gb662, 0, none⟩) (Kd.R_types HO657.out BK662.out (by decide)) (fun _ hk => hk.2) (.int .i64 t654)) (fun _ hk => hk.2) (.slice Ao37 t655.length co37)) (fun _ hk => hk.2) (.slice Ao38 t658.length co38)) (fun _ h_ => h_.1)))); (case side2 => exact (Kd.R_reads' HO657.out).2.1); (case side3 => refine (Kd.R_reads' (e := 57) (base := w.heap.size) (ok := fun k_ => (((True ∧ some k_ ≠ (.slice Ao16 t634.length co16 : Value).ownBlock) ∧ some k_ ≠ (.slice Ao22 t641.length co22 : Value).ownBlock) ∧ some k_ ≠ (.slice Ao30 t650.length co30 : Value).ownBlock)) (n := t658.length) (c := co38) ?_).2.2; exact (by (with_reducible repeat (first | apply Kd.R_alloc | apply Kd.R_drewN | apply Kd.R_drew)); exact (Kd.R_mono (Kd.R_far (p := ⟨gb662, 2, none⟩) (Kd.R_far (p := ⟨gb662, 1, none⟩) (Kd.R_far (p := ⟨gb662, 0, none⟩) (Kd.R_types HO660.out BK662.out (by decide)) (fun _ hk => hk.2) (.int .i64 t654)) (fun _ hk => hk.2) (.slice Ao37 t655.length co37)) (fun _ hk => hk.2) (.slice Ao38 t658.length co38)) (fun _ h_ => h_.1)))); (case side4 => exact (Kd.R_reads' HO660.out).2.1); (case side5 => refine (Kd.R_reads' (e := 3) (base := w.heap.size) (ok := fun k_ => (((True ∧ some k_ ≠ (.slice Ao15 t631.length co15 : Value).ownBlock) ∧ some k_ ≠ (.slice Ao29 t647.length co29 : Value).ownBlock) ∧ some k_ ≠ (.slice Ao37 t655.length co37 : Value).ownBlock)) (n := t638.length) (c := co21) ?_).2.2; exact (by (with_reducible repeat (first | apply Kd.R_alloc | apply Kd.R_drewN | apply Kd.R_drew)); exact (Kd.R_mono (Kd.R_far (p := ⟨gb662, 2, none⟩) (Kd.R_far (p := ⟨gb662, 1, none⟩) (Kd.R_far (p := ⟨gb662, 0, none⟩) (Kd.R_types HO640.out BK662.out (by decide)) (fun _ hk => hk.2) (.int .i64 t654)) (fun _ hk => hk.2) (.slice Ao37 t655.length co37)) (fun _ hk => hk.2) (.slice Ao38 t658.length co38)) (fun _ h_ => h_.1)))); (case side6 => exact (Kd.R_reads' HO640.out).2.1); (case side7 => refine (Kd.R_reads' (e := 57) (base := w.heap.size) (ok := fun k_ => (((True ∧ some k_ ≠ (.slice Ao16 t634.length co16 : Value).ownBlock) ∧ some k_ ≠ (.slice Ao30 t650.length co30 : Value).ownBlock) ∧ some k_ ≠ (.slice Ao38 t658.length co38 : Value).ownBlock)) (n := t641.length) (c := co22) ?_).2.2; exact (by (with_reducible repeat (first | apply Kd.R_alloc | apply Kd.R_drewN | apply Kd.R_drew)); exact (Kd.R_mono (Kd.R_far (p := ⟨gb662, 2, none⟩) (Kd.R_far (p := ⟨gb662, 1, none⟩) (Kd.R_far (p := ⟨gb662, 0, none⟩) (Kd.R_types HO643.out BK662.out (by decide)) (fun _ hk => hk.2) (.int .i64 t654)) (fun _ hk => hk.2) (.slice Ao37 t655.length co37)) (fun _ hk => hk.2) (.slice Ao38 t658.length co38)) (fun _ h_ => h_.1)))); (case side8 => exact (Kd.R_reads' HO643.out).2.1); rintro e w56 ⟨rfl, hb⟩; refine ⟨_, rfl, ?_⟩; have n0_ := Aside0.mk (Kd.R_below (by (with_reducible repeat (first | apply Kd.R_alloc | apply Kd.R_drewN | apply Kd.R_drew)); exact (Kd.R_mono (Kd.R_far (p := ⟨gb662, 2, none⟩) (Kd.R_far (p := ⟨gb662, 1, none⟩) (Kd.R_far (p := ⟨gb662, 0, none⟩) (Kd.R_types HO633.out BK662.out (by decide)) (fun _ hk => hk.2) (.int .i64 t654)) (fun _ hk => hk.2) (.slice Ao37 t655.length co37)) (fun _ hk => hk.2) (.slice Ao38 t658.length co38)) (fun _ h_ => h_.1))) hb); have n1_ := Aside0.mk (Kd.R_below (by (with_reducible repeat (first | apply Kd.R_alloc | apply Kd.R_drewN | apply Kd.R_drew)); exact (Kd.R_mono (Kd.R_far (p := ⟨gb662, 2, none⟩) (Kd.R_far (p := ⟨gb662, 1, none⟩) (Kd.R_far (p := ⟨gb662, 0, none⟩) (Kd.R_types HO636.out BK662.out (by decide)) (fun _ hk => hk.2) (.int .i64 t654)) (fun _ hk => hk.2) (.slice Ao37 t655.length co37)) (fun _ hk => hk.2) (.slice Ao38 t658.length co38)) (fun _ h_ => h_.1))) hb); have n2_ := Aside0.mk (Kd.R_below (by (with_reducible repeat (first | apply Kd.R_alloc | apply Kd.R_drewN | apply Kd.R_drew)); exact (Kd.R_mono (Kd.R_far (p := ⟨gb662, 2, none⟩) (Kd.R_far (p := ⟨gb662, 1, none⟩) (Kd.R_far (p := ⟨gb662, 0, none⟩) (Kd.R_types HO640.out BK662.out (by decide)) (fun _ hk => hk.2) (.int .i64 t654)) (fun _ hk => hk.2) (.slice Ao37 t655.length co37)) (fun _ hk => hk.2) (.slice Ao38 t658.length co38)) (fun _ h_ => h_.1))) hb); have n3_ := Aside0.mk (Kd.R_below (by (with_reducible repeat (first | apply Kd.R_alloc | apply Kd.R_drewN | apply Kd.R_drew)); exact (Kd.R_mono (Kd.R_far (p := ⟨gb662, 2, none⟩) (Kd.R_far (p := ⟨gb662, 1, none⟩) (Kd.R_far (p := ⟨gb662, 0, none⟩) (Kd.R_types HO643.out BK662.out (by decide)) (fun _ hk => hk.2) (.int .i64 t654)) (fun _ hk => hk.2) (.slice Ao37 t655.length co37)) (fun _ hk => hk.2) (.slice Ao38 t658.length co38)) (fun _ h_ => h_.1))) hb); have n4_ := Aside0.mk (Kd.R_below (by (with_reducible repeat (first | apply Kd.R_alloc | apply Kd.R_drewN | apply Kd.R_drew)); exact (Kd.R_mono (Kd.R_far (p := ⟨gb662, 2, none⟩) (Kd.R_far (p := ⟨gb662, 1, none⟩) (Kd.R_far (p := ⟨gb662, 0, none⟩) (Kd.R_types HO649.out BK662.out (by decide)) (fun _ hk => hk.2) (.int .i64 t654)) (fun _ hk => hk.2) (.slice Ao37 t655.length co37)) (fun _ hk => hk.2) (.slice Ao38 t658.length co38)) (fun _ h_ => h_.1))) hb); have n5_ := Aside0.mk (Kd.R_below (by (with_reducible repeat (first | apply Kd.R_alloc | apply Kd.R_drewN | apply Kd.R_drew)); exact (Kd.R_mono (Kd.R_far (p := ⟨gb662, 2, none⟩) (Kd.R_far (p := ⟨gb662, 1, none⟩) (Kd.R_far (p := ⟨gb662, 0, none⟩) (Kd.R_types HO652.out BK662.out (by decide)) (fun _ hk => hk.2) (.int .i64 t654)) (fun _ hk => hk.2) (.slice Ao37 t655.length co37)) (fun _ hk => hk.2) (.slice Ao38 t658.length co38)) (fun _ h_ => h_.1))) hb); have n6_ := Aside0.mk (Kd.R_below (by (with_reducible repeat (first | apply Kd.R_alloc | apply Kd.R_drewN | apply Kd.R_drew)); exact (Kd.R_mono (Kd.R_far (p := ⟨gb662, 2, none⟩) (Kd.R_far (p := ⟨gb662, 1, none⟩) (Kd.R_far (p := ⟨gb662, 0, none⟩) (Kd.R_types HO657.out BK662.out (by decide)) (fun _ hk => hk.2) (.int .i64 t654)) (fun _ hk => hk.2) (.slice Ao37 t655.length co37)) (fun _ hk => hk.2) (.slice Ao38 t658.length co38)) (fun _ h_ => h_.1))) hb); have n7_ := Aside0.mk (Kd.R_below (by (with_reducible repeat (first | apply Kd.R_alloc | apply Kd.R_drewN | apply Kd.R_drew)); exact (Kd.R_mono (Kd.R_far (p := ⟨gb662, 2, none⟩) (Kd.R_far (p := ⟨gb662, 1, none⟩) (Kd.R_far (p := ⟨gb662, 0, none⟩) (Kd.R_types HO660.out BK662.out (by decide)) (fun _ hk => hk.2) (.int .i64 t654)) (fun _ hk => hk.2) (.slice Ao37 t655.length co37)) (fun _ hk => hk.2) (.slice Ao38 t658.length co38)) (fun _ h_ => h_.1))) hb); have n8_ := Aside0.mk (blk_below (g := gb628) (o := .cells #[.int .i64 a0_0, .slice A0_1 l0_1.length c0_1, .slice A0_2 l0_2.length c0_2] 32 (0, 0)) (by (with_reducible repeat (first | refine blk_drewN ?_ _ | refine blk_drew ?_ | refine blk_alloc ?_ _)); refine blk_far ?_ NB628_662.out _; (with_reducible repeat (first | refine blk_drewN ?_ _ | refine blk_drew ?_ | refine blk_alloc ?_ _)); refine blk_far ?_ NB628_662.out _; (with_reducible repeat (first | refine blk_drewN ?_ _ | refine blk_drew ?_ | refine blk_alloc ?_ _)); refine blk_far ?_ NB628_662.out _; (with_reducible repeat (first | refine blk_drewN ?_ _ | refine blk_drew ?_ | refine blk_alloc ?_ _)); exact BK628.out) hb); have n9_ := Aside0.mk (blk_below (g := gb645) (o := .cells #[.int .i64 t637, .slice Ao21 t638.length co21, .slice Ao22 t641.length co22] 25 (0, 0)) (by (with_reducible repeat (first | refine blk_drewN ?_ _ | refine blk_drew ?_ | refine blk_alloc ?_ _)); refine blk_far ?_ NB645_662.out _; (with_reducible repeat (first | refine blk_drewN ?_ _ | refine blk_drew ?_ | refine blk_alloc ?_ _)); refine blk_far ?_ NB645_662.out _; (with_reducible repeat (first | refine blk_drewN ?_ _ | refine blk_drew ?_ | refine blk_alloc ?_ _)); refine blk_far ?_ NB645_662.out _; (with_reducible repeat (first | refine blk_drewN ?_ _ | refine blk_drew ?_ | refine blk_alloc ?_ _)); exact BK645.out) hb); have n10_ := Aside0.mk (blk_below (g := gb653) (o := .cells #[.int .i64 t646, .slice Ao29 t647.length co29, .slice Ao30 t650.length co30] 25 (0, 0)) (by (with_reducible repeat (first | refine blk_drewN ?_ _ | refine blk_drew ?_ | refine blk_alloc ?_ _)); refine blk_far ?_ NB653_662.out _; (with_reducible repeat (first | refine blk_drewN ?_ _ | refine blk_drew ?_ | refine blk_alloc ?_ _)); refine blk_far ?_ NB653_662.out _; (with_reducible repeat (first | refine blk_drewN ?_ _ | refine blk_drew ?_ | refine blk_alloc ?_ _)); refine blk_far ?_ NB653_662.out _; (with_reducible repeat (first | refine blk_drewN ?_ _ | refine blk_drew ?_ | refine blk_alloc ?_ _)); exact BK653.out) hb); have n11_ := Aside0.mk (blk_below (g := gb662) (o := .cells #[.int .i64 t654, .slice Ao37 t655.length co37, .slice Ao38 t658.length co38] 25 (0, 0)) (by (with_reducible repeat (first | refine blk_drewN ?_ _ | refine blk_drew ?_ | refine blk_alloc ?_ _)); refine blk_put (cs := #[.int .i64 t654, .slice Ao37 t655.length co37, .slice none 0 0]) ?_ 2 _ rfl; (with_reducible repeat (first | refine blk_drewN ?_ _ | refine blk_drew ?_ | refine blk_alloc ?_ _)); refine blk_put (cs := #[.int .i64 t654, .slice none 0 0, .slice none 0 0]) ?_ 1 _ rfl; (with_reducible repeat (first | refine blk_drewN ?_ _ | refine blk_drew ?_ | refine blk_alloc ?_ _)); refine blk_put (cs := #[.int .i64 0, .slice none 0 0, .slice none 0 0]) ?_ 0 _ rfl; (with_reducible repeat (first | refine blk_drewN ?_ _ | refine blk_drew ?_ | refine blk_alloc ?_ _)); exact BK662.out) hb); have n12_ := Aside0.mk (below_step (by repeat (first | (with_reducible first | exact HB.out | apply below_alloc | apply pw_below_drewN | apply below_drew1 | refine below_set ?_ GE628.out | refine below_set ?_ GE645.out | refine below_set ?_ GE653.out | refine below_set ?_ GE662.out) | exact HB.out)) hb); clear HO633; clear HO636; clear HO640; clear HO643; clear HO649; clear HO652; clear HO657; clear HO660; clear BK628; clear BK645; clear BK653; clear BK662; clear HB; have HO633 := n0_; have HO636 := n1_; have HO640 := n2_; have HO643 := n3_; have HO649 := n4_; have HO652 := n5_; have HO657 := n6_; have HO660 := n7_; have BK628 := n8_; have BK645 := n9_; have BK653 := n10_; have BK662 := n11_; have HB := n12_; clear n0_ n1_ n2_ n3_ n4_ n5_ n6_ n7_ n8_ n9_ n10_ n11_ n12_; (try clear hb); (try clear hb2); (try clear hk); (try clear hi)))
        go_meet
        case rel => exact ⟨_, (true), (by first | rfl | (simp; done) | (simp [*]; done)), H', ⟨by first | omega | exact Nat.le_refl _⟩, ⟨by (with_reducible repeat (first | apply Kd.R_alloc | apply Kd.R_drewN | apply Kd.R_drew)); exact Kd.R_mono HO640.out (fun _ hk => ⟨hk.1.2, hk.2⟩)⟩, ⟨by (with_reducible repeat (first | apply Kd.R_alloc | apply Kd.R_drewN | apply Kd.R_drew)); exact Kd.R_mono HO643.out (fun _ hk => ⟨hk.1.2, hk.2⟩)⟩, ⟨by (with_reducible repeat (first | apply Kd.R_alloc | apply Kd.R_drewN | apply Kd.R_drew)); exact Kd.R_mono HO649.out (fun _ hk => ⟨hk.1.2, hk.2⟩)⟩, ⟨by (with_reducible repeat (first | apply Kd.R_alloc | apply Kd.R_drewN | apply Kd.R_drew)); exact Kd.R_mono HO652.out (fun _ hk => ⟨hk.1.2, hk.2⟩)⟩, ⟨by (with_reducible repeat (first | apply Kd.R_alloc | apply Kd.R_drewN | apply Kd.R_drew)); exact Kd.R_mono HO657.out (fun _ hk => ⟨hk.1.2, hk.2⟩)⟩, ⟨by (with_reducible repeat (first | apply Kd.R_alloc | apply Kd.R_drewN | apply Kd.R_drew)); exact Kd.R_mono HO660.out (fun _ hk => ⟨hk.1.2, hk.2⟩)⟩, ⟨by (with_reducible repeat (first | refine blk_drewN ?_ _ | refine blk_drew ?_ | refine blk_alloc ?_ _)); exact BK628.out⟩, ⟨by (with_reducible repeat (first | refine blk_drewN ?_ _ | refine blk_drew ?_ | refine blk_alloc ?_ _)); exact BK645.out⟩, ⟨by (with_reducible repeat (first | refine blk_drewN ?_ _ | refine blk_drew ?_ | refine blk_alloc ?_ _)); exact BK653.out⟩, ⟨by (with_reducible repeat (first | refine blk_drewN ?_ _ | refine blk_drew ?_ | refine blk_alloc ?_ _)); exact BK662.out⟩, ⟨by repeat (first | (with_reducible first | exact HB.out | apply below_alloc | apply pw_below_drewN | apply below_drew1 | refine below_set ?_ GE628.out | refine below_set ?_ GE645.out | refine below_set ?_ GE653.out | refine below_set ?_ GE662.out) | exact HB.out)⟩⟩
    case rest =>
      clear HC12
      try clear c1
      try clear c2
      try clear p2
      try clear c3
      try clear c4
      try clear c5
      try clear c7
      try clear c7b0
      try clear c8
      try clear c15
      try clear c18
      try clear c19
      try clear c20
      try clear c26
      try clear c27
      try clear c31
      try clear c32
      try clear c33
      try clear c34
      try clear c35
      try clear c40
      try clear c41
      try clear c42
      try clear c43
      try clear c45
      try clear c46
      try clear c49
      try clear c50
      try clear c51
      try clear c53
      try clear c54
      try clear hcz13_0
      try clear hcz13_1
      try clear hcz13_2
      try clear hcz20_0
      try clear hcz20_1
      try clear hcz20_2
      try clear hcz23_0
      try clear hcz23_1
      try clear hcz23_2
      try clear hcz28_0
      try clear hcz28_1
      try clear hcz28_2
      try clear hcz36_0
      try clear hcz36_1
      try clear hcz36_2
      try clear hcz44_0
      try clear hcz44_1
      try clear hcz44_2
      try clear hcz47_0
      try clear hcz47_1
      try clear hcz47_2
      try clear hcz52_0
      try clear hcz52_1
      try clear hcz52_2
      try clear hcz55_0
      try clear hcz55_1
      try clear hcz55_2
      try clear hcz5_0
      try clear hcz5_1
      try clear hcz5_2
      try clear hfz13_0
      try clear hfz13_1
      try clear hfz13_2
      try clear hfz20_0
      try clear hfz20_1
      try clear hfz20_2
      try clear hfz23_0
      try clear hfz23_1
      try clear hfz23_2
      try clear hfz28_0
      try clear hfz28_1
      try clear hfz28_2
      try clear hfz36_0
      try clear hfz36_1
      try clear hfz36_2
      try clear hfz44_0
      try clear hfz44_1
      try clear hfz44_2
      try clear hfz47_0
      try clear hfz47_1
      try clear hfz47_2
      try clear hfz52_0
      try clear hfz52_1
      try clear hfz52_2
      try clear hfz55_0
      try clear hfz55_1
      try clear hfz55_2
      try clear hfz5_0
      try clear hfz5_1
      try clear hfz5_2
      obtain ⟨kq, x40_11, rfl, HA, HJ11, HO_646001, HO_646002, HO_654001, HO_654002, HO_663001, HO_663002, BK628, BK645, BK653, BK662, HB⟩ := hcut
      cases kq with
      | zero => exact absurd HA.out (by simp [laws_FnExactAdvanceEpoch.j0])
      | succ kj11 =>
        have H := HA.out
        clear HA
        simp only [laws_FnExactAdvanceEpoch.j0] at H
        by_cases c57 : x40_11 = true
        · subst c57
          have H1 : (none) = some r := by rw [if_pos rfl] at H; exact H
          clear H
          have H := H1
          clear H1
          exact absurd H (by simp)
        · replace c57 := Bool.eq_false_iff.mpr c57
          subst c57
          have H1 : ((laws_toEpochs.f kj11 a0_0 l0_1 l0_2).bind fun bt664 => ((laws_eqEpochs.f kj11 t646 t647 t650 bt664.1 bt664.2.1 bt664.2.2).bind fun t671 => (if t671 = true then ((laws_markEpochs.f kj11 t646 t647 t650 1).bind fun bt672 => (if bt672.1 < 0 then (laws_FnExactAdvanceEpoch.j1 kj11 t644 true a0_0 l0_1 l0_2 t637 t638 t641 t654 t655 t658) else ((laws_eqEpochs.f kj11 t654 t655 t658 t637 t638 t641).bind fun t675 => (if t675 = true then (laws_FnExactAdvanceEpoch.j1 kj11 t644 (t661 != t644) a0_0 l0_1 l0_2 t637 t638 t641 t654 t655 t658) else (laws_FnExactAdvanceEpoch.j1 kj11 t644 true a0_0 l0_1 l0_2 t637 t638 t641 t654 t655 t658))))) else (none)))) = some r := by rw [if_neg (show ¬ (false = true) by decide)] at H; exact H
          clear H
          have H := H1
          clear H1
          replace H := Option.bind_eq_some_iff.mp H
          obtain ⟨⟨t664, t665, t668⟩, A580, H⟩ := H
          replace H : ((laws_eqEpochs.f kj11 t646 t647 t650 t664 t665 t668).bind fun t671 => (if t671 = true then ((laws_markEpochs.f kj11 t646 t647 t650 1).bind fun bt672 => (if bt672.1 < 0 then (laws_FnExactAdvanceEpoch.j1 kj11 t644 true a0_0 l0_1 l0_2 t637 t638 t641 t654 t655 t658) else ((laws_eqEpochs.f kj11 t654 t655 t658 t637 t638 t641).bind fun t675 => (if t675 = true then (laws_FnExactAdvanceEpoch.j1 kj11 t644 (t661 != t644) a0_0 l0_1 l0_2 t637 t638 t641 t654 t655 t658) else (laws_FnExactAdvanceEpoch.j1 kj11 t644 true a0_0 l0_1 l0_2 t637 t638 t641 t654 t655 t658))))) else (none))) = some r := H
          have A58 := Aside0.mk A580
          clear A580
          replace H := Option.bind_eq_some_iff.mp H
          obtain ⟨t671, A590, H⟩ := H
          replace H : (if t671 = true then ((laws_markEpochs.f kj11 t646 t647 t650 1).bind fun bt672 => (if bt672.1 < 0 then (laws_FnExactAdvanceEpoch.j1 kj11 t644 true a0_0 l0_1 l0_2 t637 t638 t641 t654 t655 t658) else ((laws_eqEpochs.f kj11 t654 t655 t658 t637 t638 t641).bind fun t675 => (if t675 = true then (laws_FnExactAdvanceEpoch.j1 kj11 t644 (t661 != t644) a0_0 l0_1 l0_2 t637 t638 t641 t654 t655 t658) else (laws_FnExactAdvanceEpoch.j1 kj11 t644 true a0_0 l0_1 l0_2 t637 t638 t641 t654 t655 t658))))) else (none)) = some r := H
          have A59 := Aside0.mk A590
          clear A590
          by_cases c60 : t671 = true
          · subst c60
            have H1 : ((laws_markEpochs.f kj11 t646 t647 t650 1).bind fun bt672 => (if bt672.1 < 0 then (laws_FnExactAdvanceEpoch.j1 kj11 t644 true a0_0 l0_1 l0_2 t637 t638 t641 t654 t655 t658) else ((laws_eqEpochs.f kj11 t654 t655 t658 t637 t638 t641).bind fun t675 => (if t675 = true then (laws_FnExactAdvanceEpoch.j1 kj11 t644 (t661 != t644) a0_0 l0_1 l0_2 t637 t638 t641 t654 t655 t658) else (laws_FnExactAdvanceEpoch.j1 kj11 t644 true a0_0 l0_1 l0_2 t637 t638 t641 t654 t655 t658))))) = some r := by rw [if_pos rfl] at H; exact H
            clear H
            have H := H1
            clear H1
            replace H := Option.bind_eq_some_iff.mp H
            obtain ⟨⟨t672, t673, t674⟩, A610, H⟩ := H
            replace H : (if t672 < 0 then (laws_FnExactAdvanceEpoch.j1 kj11 t644 true a0_0 l0_1 l0_2 t637 t638 t641 t654 t655 t658) else ((laws_eqEpochs.f kj11 t654 t655 t658 t637 t638 t641).bind fun t675 => (if t675 = true then (laws_FnExactAdvanceEpoch.j1 kj11 t644 (t661 != t644) a0_0 l0_1 l0_2 t637 t638 t641 t654 t655 t658) else (laws_FnExactAdvanceEpoch.j1 kj11 t644 true a0_0 l0_1 l0_2 t637 t638 t641 t654 t655 t658)))) = some r := H
            have A61 := Aside0.mk A610
            clear A610
            have HC62 := Aside0.mk H
            clear H
            try go_wp2
            have n0_ := Aside0.mk (Kd.R_drew HO_646001.out)
            have n1_ := Aside0.mk (Kd.R_drew HO_646002.out)
            have n2_ := Aside0.mk (Kd.R_drew HO_654001.out)
            have n3_ := Aside0.mk (Kd.R_drew HO_654002.out)
            have n4_ := Aside0.mk (Kd.R_drew HO_663001.out)
            have n5_ := Aside0.mk (Kd.R_drew HO_663002.out)
            have n6_ := Aside0.mk (blk_drew BK628.out)
            have n7_ := Aside0.mk (blk_drew BK645.out)
            have n8_ := Aside0.mk (blk_drew BK653.out)
            have n9_ := Aside0.mk (blk_drew BK662.out)
            have n10_ := Aside0.mk (below_drew1 HB.out)
            clear HO_646001
            clear HO_646002
            clear HO_654001
            clear HO_654002
            clear HO_663001
            clear HO_663002
            clear BK628
            clear BK645
            clear BK653
            clear BK662
            clear HB
            have HO_646001 := n0_
            have HO_646002 := n1_
            have HO_654001 := n2_
            have HO_654002 := n3_
            have HO_663001 := n4_
            have HO_663002 := n5_
            have BK628 := n6_
            have BK645 := n7_
            have BK653 := n8_
            have BK662 := n9_
            have HB := n10_
            clear n0_ n1_ n2_ n3_ n4_ n5_ n6_ n7_ n8_ n9_ n10_
            refine start_ (n := 5) (S := fun w' => w'.cell? ⟨gb653, 0, none⟩ = some (.int .i64 t646) ∧ w'.cell? ⟨gb653, 1, none⟩ = some (.slice Ao29 t647.length co29) ∧ w'.cell? ⟨gb653, 2, none⟩ = some (.slice Ao30 t650.length co30) ∧ w'.cell? ⟨gb628, 0, none⟩ = some (.int .i64 a0_0) ∧ w'.cell? ⟨gb628, 1, none⟩ = some (.slice A0_1 l0_1.length c0_1) ∧ w'.cell? ⟨gb628, 2, none⟩ = some (.slice A0_2 l0_2.length c0_2)) (ds := []) #[false, false, false, false, false] (by kernel_rfl) rfl rfl ⟨(blk_cell BK653.out 0).trans rfl, (blk_cell BK653.out 1).trans rfl, (blk_cell BK653.out 2).trans rfl, (blk_cell BK628.out 0).trans rfl, (blk_cell BK628.out 1).trans rfl, (blk_cell BK628.out 2).trans rfl⟩ (fun hHeld => ?_)
            generalize wc.drew = w63 at HO_646001 HO_646002 HO_654001 HO_654002 HO_663001 HO_663002 BK628 BK645 BK653 BK662 HB hHeld ⊢
            refine take_ (i := 0) (N := some 41) (v := ?_) (a' := ?_) #[true, false, false, false, false] rfl rfl (by kernel_rfl) (fun _ _ _ h => h) (Or.inl ⟨by rfl, ?_⟩) hHeld ?_ ?_
            rotate_left
            · rintro w' ⟨s0, s1, s2, s3, s4, s5⟩
              go_simp
              with_reducible rfl
            rotate_left
            · simp only [Act.put, List.setIfInBounds_toArray, List.set_cons_zero, List.set_cons_succ, i64_w, i32_w]
              rfl
            refine take_ (i := 1) (N := some 42) (v := ?_) (a' := ?_) #[true, true, false, false, false] rfl rfl (by kernel_rfl) (fun _ _ _ h => h) (Or.inl ⟨by rfl, ?_⟩) hHeld ?_ ?_
            rotate_left
            · rintro w' ⟨s0, s1, s2, s3, s4, s5⟩
              go_simp
              with_reducible rfl
            rotate_left
            · simp only [Act.put, List.setIfInBounds_toArray, List.set_cons_zero, List.set_cons_succ, i64_w, i32_w]
              rfl
            refine one_ (i := 2) (N := some 43) #[true, true, true, false, false] rfl rfl (by kernel_rfl) (by decide) (fun K hK => ?_)
            refine goes_ Try.func20 (by kernel_rfl) rfl #[.agg #[.int .i64 a0_0, .slice A0_1 l0_1.length c0_1, .slice A0_2 l0_2.length c0_2]] (by rfl) rfl rfl (by (try simp only [List.map_toArray, List.map_cons, List.map_nil]); first | done | rfl | (simp only [List.length_drop, List.length_take]; rfl)) ?_
            with_reducible refine (laws_toEpochs.calls kj11 a0_0 _ _ l0_1 _ _ l0_2 t664 t665 t668 _ ?side1 ?side2 ?side3 ?side4 A58.out).mono ?_
            (case side1 => repeat (first | exact (Kd.C_below HR0_1.out HB.out) | (with_reducible refine Kd.C_alloc ?_ _) | (with_reducible refine Kd.C_drewN ?_ _) | (with_reducible refine Kd.C_drew ?_)))
            (case side2 => exact HC0_1.out)
            (case side3 => repeat (first | exact (Kd.C_below HR0_2.out HB.out) | (with_reducible refine Kd.C_alloc ?_ _) | (with_reducible refine Kd.C_drewN ?_ _) | (with_reducible refine Kd.C_drew ?_)))
            (case side4 => exact HC0_2.out)
            rintro e w64 ⟨v666, v669, rfl, ho0, ho1, hb⟩
            refine ⟨_, rfl, ?_⟩
            have n0_ := Aside0.mk (Kd.R_elder' (by (with_reducible repeat (first | apply Kd.R_alloc | apply Kd.R_drewN | apply Kd.R_drew)); exact HO_646001.out) (Kd.R_base ho0) hb)
            have n1_ := Aside0.mk (Kd.R_elder' (by (with_reducible repeat (first | apply Kd.R_alloc | apply Kd.R_drewN | apply Kd.R_drew)); exact HO_646002.out) (Kd.R_base ho1) hb)
            have n2_ := Aside0.mk (Kd.R_elder' (by (with_reducible repeat (first | apply Kd.R_alloc | apply Kd.R_drewN | apply Kd.R_drew)); exact HO_654001.out) (Kd.R_base ho0) hb)
            have n3_ := Aside0.mk (Kd.R_elder' (by (with_reducible repeat (first | apply Kd.R_alloc | apply Kd.R_drewN | apply Kd.R_drew)); exact HO_654002.out) (Kd.R_base ho1) hb)
            have n4_ := Aside0.mk (Kd.R_elder' (by (with_reducible repeat (first | apply Kd.R_alloc | apply Kd.R_drewN | apply Kd.R_drew)); exact HO_663001.out) (Kd.R_base ho0) hb)
            have n5_ := Aside0.mk (Kd.R_elder' (by (with_reducible repeat (first | apply Kd.R_alloc | apply Kd.R_drewN | apply Kd.R_drew)); exact HO_663002.out) (Kd.R_base ho1) hb)
            have n6_ := Aside0.mk (Kd.R_lower (Kd.R_new' (Kd.R_new' (Kd.R_new' ho0 (Kd.R_lt (by (with_reducible repeat (first | apply Kd.R_alloc | apply Kd.R_drewN | apply Kd.R_drew)); exact HO_646001.out))) (Kd.R_lt (by (with_reducible repeat (first | apply Kd.R_alloc | apply Kd.R_drewN | apply Kd.R_drew)); exact HO_654001.out))) (Kd.R_lt (by (with_reducible repeat (first | apply Kd.R_alloc | apply Kd.R_drewN | apply Kd.R_drew)); exact HO_663001.out))) (below_size (by repeat (first | (with_reducible first | exact HB.out | apply below_alloc | apply pw_below_drewN | apply below_drew1 | refine below_set ?_ GE628.out | refine below_set ?_ GE645.out | refine below_set ?_ GE653.out | refine below_set ?_ GE662.out) | exact HB.out))))
            have n7_ := Aside0.mk (Kd.R_lower (Kd.R_new' (Kd.R_new' (Kd.R_new' ho1 (Kd.R_lt (by (with_reducible repeat (first | apply Kd.R_alloc | apply Kd.R_drewN | apply Kd.R_drew)); exact HO_646002.out))) (Kd.R_lt (by (with_reducible repeat (first | apply Kd.R_alloc | apply Kd.R_drewN | apply Kd.R_drew)); exact HO_654002.out))) (Kd.R_lt (by (with_reducible repeat (first | apply Kd.R_alloc | apply Kd.R_drewN | apply Kd.R_drew)); exact HO_663002.out))) (below_size (by repeat (first | (with_reducible first | exact HB.out | apply below_alloc | apply pw_below_drewN | apply below_drew1 | refine below_set ?_ GE628.out | refine below_set ?_ GE645.out | refine below_set ?_ GE653.out | refine below_set ?_ GE662.out) | exact HB.out))))
            have n8_ := Aside0.mk (blk_below (g := gb628) (o := .cells #[.int .i64 a0_0, .slice A0_1 l0_1.length c0_1, .slice A0_2 l0_2.length c0_2] 32 (0, 0)) (by (with_reducible repeat (first | refine blk_drewN ?_ _ | refine blk_drew ?_ | refine blk_alloc ?_ _)); exact BK628.out) hb)
            have n9_ := Aside0.mk (blk_below (g := gb645) (o := .cells #[.int .i64 t637, .slice Ao21 t638.length co21, .slice Ao22 t641.length co22] 25 (0, 0)) (by (with_reducible repeat (first | refine blk_drewN ?_ _ | refine blk_drew ?_ | refine blk_alloc ?_ _)); exact BK645.out) hb)
            have n10_ := Aside0.mk (blk_below (g := gb653) (o := .cells #[.int .i64 t646, .slice Ao29 t647.length co29, .slice Ao30 t650.length co30] 25 (0, 0)) (by (with_reducible repeat (first | refine blk_drewN ?_ _ | refine blk_drew ?_ | refine blk_alloc ?_ _)); exact BK653.out) hb)
            have n11_ := Aside0.mk (blk_below (g := gb662) (o := .cells #[.int .i64 t654, .slice Ao37 t655.length co37, .slice Ao38 t658.length co38] 25 (0, 0)) (by (with_reducible repeat (first | refine blk_drewN ?_ _ | refine blk_drew ?_ | refine blk_alloc ?_ _)); exact BK662.out) hb)
            have n12_ := Aside0.mk (below_step (by repeat (first | (with_reducible first | exact HB.out | apply below_alloc | apply pw_below_drewN | apply below_drew1 | refine below_set ?_ GE628.out | refine below_set ?_ GE645.out | refine below_set ?_ GE653.out | refine below_set ?_ GE662.out) | exact HB.out)) hb)
            clear HO_646001
            clear HO_646002
            clear HO_654001
            clear HO_654002
            clear HO_663001
            clear HO_663002
            clear BK628
            clear BK645
            clear BK653
            clear BK662
            clear HB
            have HO_646001 := n0_
            have HO_646002 := n1_
            have HO_654001 := n2_
            have HO_654002 := n3_
            have HO_663001 := n4_
            have HO_663002 := n5_
            have HO667 := n6_
            have HO670 := n7_
            have BK628 := n8_
            have BK645 := n9_
            have BK653 := n10_
            have BK662 := n11_
            have HB := n12_
            clear n0_ n1_ n2_ n3_ n4_ n5_ n6_ n7_ n8_ n9_ n10_ n11_ n12_
            (try clear hb)
            (try clear hb2)
            (try clear hk)
            (try clear hi)
            (try clear ho0)
            (try clear ho1)
            obtain ⟨Ao65, co65, eo65⟩ := Kd.R_slice HO667.out
            (first | subst eo65 | (injection eo65 with f1_ f2_ f3_; have f4_ := f1_.symm; have f5_ := f3_.symm; clear f1_ f2_ f3_; subst f4_; subst f5_))
            obtain ⟨Ao66, co66, eo66⟩ := Kd.R_slice HO670.out
            (first | subst eo66 | (injection eo66 with f1_ f2_ f3_; have f4_ := f1_.symm; have f5_ := f3_.symm; clear f1_ f2_ f3_; subst f4_; subst f5_))
            refine hK.out _ _ ⟨(blk_cell BK653.out 0).trans rfl, (blk_cell BK653.out 1).trans rfl, (blk_cell BK653.out 2).trans rfl, (blk_cell BK628.out 0).trans rfl, (blk_cell BK628.out 1).trans rfl, (blk_cell BK628.out 2).trans rfl⟩ (fun hHeld => ?_)
            clear hK K
            refine norm_ (a' := ?_) ?_ ?_
            rotate_left
            · show Act.put _ (some 43) _ = _
              simp only [Act.put, List.setIfInBounds_toArray, List.set_cons_zero, List.set_cons_succ, i64_w, i32_w]
              rfl
            refine one_ (i := 3) (N := some 44) #[true, true, true, true, false] rfl rfl (by kernel_rfl) (by decide) (fun K hK => ?_)
            refine goes_ Try.func15 (by kernel_rfl) rfl #[.agg #[.int .i64 t646, .slice Ao29 t647.length co29, .slice Ao30 t650.length co30], .agg #[.int .i64 t664, .slice Ao65 t665.length co65, .slice Ao66 t668.length co66]] (by rfl) rfl rfl (by (try simp only [List.map_toArray, List.map_cons, List.map_nil]); first | done | rfl | (simp only [List.length_drop, List.length_take]; rfl)) ?_
            with_reducible refine (laws_eqEpochs.calls kj11 t646 _ _ t647 _ _ t650 t664 _ _ t665 _ _ t668 true _ ?side1 ?side2 ?side3 ?side4 ?side5 ?side6 ?side7 ?side8 A59.out).mono ?_
            (case side1 => repeat (first | exact (Kd.R_reads' HO_654001.out).2.2 | (with_reducible refine Kd.C_alloc ?_ _) | (with_reducible refine Kd.C_drewN ?_ _) | (with_reducible refine Kd.C_drew ?_)))
            (case side2 => exact (Kd.R_reads' HO_654001.out).2.1)
            (case side3 => repeat (first | exact (Kd.R_reads' HO_654002.out).2.2 | (with_reducible refine Kd.C_alloc ?_ _) | (with_reducible refine Kd.C_drewN ?_ _) | (with_reducible refine Kd.C_drew ?_)))
            (case side4 => exact (Kd.R_reads' HO_654002.out).2.1)
            (case side5 => repeat (first | exact (Kd.R_reads' HO667.out).2.2 | (with_reducible refine Kd.C_alloc ?_ _) | (with_reducible refine Kd.C_drewN ?_ _) | (with_reducible refine Kd.C_drew ?_)))
            (case side6 => exact (Kd.R_reads' HO667.out).2.1)
            (case side7 => repeat (first | exact (Kd.R_reads' HO670.out).2.2 | (with_reducible refine Kd.C_alloc ?_ _) | (with_reducible refine Kd.C_drewN ?_ _) | (with_reducible refine Kd.C_drew ?_)))
            (case side8 => exact (Kd.R_reads' HO670.out).2.1)
            rintro e w67 ⟨rfl, hb⟩
            refine ⟨_, rfl, ?_⟩
            have n0_ := Aside0.mk (Kd.R_below (by (with_reducible repeat (first | apply Kd.R_alloc | apply Kd.R_drewN | apply Kd.R_drew)); exact HO_646001.out) hb)
            have n1_ := Aside0.mk (Kd.R_below (by (with_reducible repeat (first | apply Kd.R_alloc | apply Kd.R_drewN | apply Kd.R_drew)); exact HO_646002.out) hb)
            have n2_ := Aside0.mk (Kd.R_below (by (with_reducible repeat (first | apply Kd.R_alloc | apply Kd.R_drewN | apply Kd.R_drew)); exact HO_654001.out) hb)
            have n3_ := Aside0.mk (Kd.R_below (by (with_reducible repeat (first | apply Kd.R_alloc | apply Kd.R_drewN | apply Kd.R_drew)); exact HO_654002.out) hb)
            have n4_ := Aside0.mk (Kd.R_below (by (with_reducible repeat (first | apply Kd.R_alloc | apply Kd.R_drewN | apply Kd.R_drew)); exact HO_663001.out) hb)
            have n5_ := Aside0.mk (Kd.R_below (by (with_reducible repeat (first | apply Kd.R_alloc | apply Kd.R_drewN | apply Kd.R_drew)); exact HO_663002.out) hb)
            have n6_ := Aside0.mk (Kd.R_below (by (with_reducible repeat (first | apply Kd.R_alloc | apply Kd.R_drewN | apply Kd.R_drew)); exact HO667.out) hb)
            have n7_ := Aside0.mk (Kd.R_below (by (with_reducible repeat (first | apply Kd.R_alloc | apply Kd.R_drewN | apply Kd.R_drew)); exact HO670.out) hb)
            have n8_ := Aside0.mk (blk_below (g := gb628) (o := .cells #[.int .i64 a0_0, .slice A0_1 l0_1.length c0_1, .slice A0_2 l0_2.length c0_2] 32 (0, 0)) (by (with_reducible repeat (first | refine blk_drewN ?_ _ | refine blk_drew ?_ | refine blk_alloc ?_ _)); exact BK628.out) hb)
            have n9_ := Aside0.mk (blk_below (g := gb645) (o := .cells #[.int .i64 t637, .slice Ao21 t638.length co21, .slice Ao22 t641.length co22] 25 (0, 0)) (by (with_reducible repeat (first | refine blk_drewN ?_ _ | refine blk_drew ?_ | refine blk_alloc ?_ _)); exact BK645.out) hb)
            have n10_ := Aside0.mk (blk_below (g := gb653) (o := .cells #[.int .i64 t646, .slice Ao29 t647.length co29, .slice Ao30 t650.length co30] 25 (0, 0)) (by (with_reducible repeat (first | refine blk_drewN ?_ _ | refine blk_drew ?_ | refine blk_alloc ?_ _)); exact BK653.out) hb)
            have n11_ := Aside0.mk (blk_below (g := gb662) (o := .cells #[.int .i64 t654, .slice Ao37 t655.length co37, .slice Ao38 t658.length co38] 25 (0, 0)) (by (with_reducible repeat (first | refine blk_drewN ?_ _ | refine blk_drew ?_ | refine blk_alloc ?_ _)); exact BK662.out) hb)
            have n12_ := Aside0.mk (below_step (by repeat (first | (with_reducible first | exact HB.out | apply below_alloc | apply pw_below_drewN | apply below_drew1 | refine below_set ?_ GE628.out | refine below_set ?_ GE645.out | refine below_set ?_ GE653.out | refine below_set ?_ GE662.out) | exact HB.out)) hb)
            clear HO_646001
            clear HO_646002
            clear HO_654001
            clear HO_654002
            clear HO_663001
            clear HO_663002
            clear HO667
            clear HO670
            clear BK628
            clear BK645
            clear BK653
            clear BK662
            clear HB
            have HO_646001 := n0_
            have HO_646002 := n1_
            have HO_654001 := n2_
            have HO_654002 := n3_
            have HO_663001 := n4_
            have HO_663002 := n5_
            have HO667 := n6_
            have HO670 := n7_
            have BK628 := n8_
            have BK645 := n9_
            have BK653 := n10_
            have BK662 := n11_
            have HB := n12_
            clear n0_ n1_ n2_ n3_ n4_ n5_ n6_ n7_ n8_ n9_ n10_ n11_ n12_
            (try clear hb)
            (try clear hb2)
            (try clear hk)
            (try clear hi)
            refine hK.out _ _ ⟨(blk_cell BK653.out 0).trans rfl, (blk_cell BK653.out 1).trans rfl, (blk_cell BK653.out 2).trans rfl, (blk_cell BK628.out 0).trans rfl, (blk_cell BK628.out 1).trans rfl, (blk_cell BK628.out 2).trans rfl⟩ (fun hHeld => ?_)
            clear hK K
            refine norm_ (a' := ?_) ?_ ?_
            rotate_left
            · show Act.put _ (some 44) _ = _
              simp only [Act.put, List.setIfInBounds_toArray, List.set_cons_zero, List.set_cons_succ, i64_w, i32_w]
              rfl
            refine pure_ (i := 4) (N := some 45) (v := ?_) (a' := ?_) #[true, true, true, true, true] rfl rfl (by kernel_rfl) (fun _ _ _ h => h) (Or.inl ⟨by rfl, ?_⟩) ?_ ?_
            rotate_left
            · intro w'
              go_simp
              with_reducible rfl
            rotate_left
            · simp only [Act.put, List.setIfInBounds_toArray, List.set_cons_zero, List.set_cons_succ, i64_w, i32_w]
              rfl
            refine done_ (by kernel_rfl) ?_
            have hnb68 := NB653_628.out
            have hnc68 := NB628_653.out
            have hnb69 := NB653_645.out
            have hnc69 := NB645_653.out
            have hnb70 := NB653_662.out
            have hnc70 := NB662_653.out
            have hcz71_0 : w67.cell? ⟨gb653, 0, none⟩ = some (.int .i64 t646) := (blk_cell BK653.out 0).trans rfl
            have hcz71_1 : w67.cell? ⟨gb653, 1, none⟩ = some (.slice Ao29 t647.length co29) := (blk_cell BK653.out 1).trans rfl
            have hcz71_2 : w67.cell? ⟨gb653, 2, none⟩ = some (.slice Ao30 t650.length co30) := (blk_cell BK653.out 2).trans rfl
            have hfz71_0 := blk_frozen BK653.out 0
            have hfz71_1 := blk_frozen BK653.out 1
            have hfz71_2 := blk_frozen BK653.out 2
            go_upto_region 14 with (first | ((with_reducible refine gate_callee (f := 16) rfl ?_); refine goesL_ (some 48) rfl rfl Try.func16 (by kernel_rfl) rfl #[.agg #[.int .i64 t646, .slice Ao29 t647.length co29, .slice Ao30 t650.length co30], .int .i64 1] rfl (by (try simp only [List.map_toArray, List.map_cons, List.map_nil]); first | done | rfl | (simp only [List.length_drop, List.length_take]; rfl)) ?_; (with_reducible refine (laws_markEpochs.calls kj11 t646 (fun k_ => some k_ = (.slice Ao29 t647.length co29 : Value).ownBlock) (.slice Ao29 t647.length co29) t647 (fun k_ => some k_ = (.slice Ao30 t650.length co30 : Value).ownBlock) (.slice Ao30 t650.length co30) t650 1 t672 t673 t674 w _ ?side1 ?side2 ?side3 A61.out).mono ?_); (case side1 => repeat (first | (with_reducible first | exact HB.out | apply below_alloc | apply pw_below_drewN | apply below_drew1 | refine below_set ?_ GE628.out | refine below_set ?_ GE645.out | refine below_set ?_ GE653.out | refine below_set ?_ GE662.out) | exact HB.out)); (case side2 => exact Kd.R_tight rfl HO_654001.out); (case side3 => exact Kd.R_tight rfl HO_654002.out); rintro e w72 ⟨rfl, hy0, hy1, hb, hkp⟩; refine ⟨_, rfl, ?_⟩; have n0_ := Aside0.mk (Kd.R_mono (ok' := fun k_ => some k_ ≠ (.slice Ao29 t647.length co29 : Value).ownBlock ∧ some k_ ≠ (.slice Ao37 t655.length co37 : Value).ownBlock ∧ some k_ ≠ (.slice Ao65 t665.length co65 : Value).ownBlock) (Kd.R_keptB ((Kd.R_apart' HO_646001.out (Kd.R_typed HO_654002.out) (by decide))) hkp (fun k_ hk_ hs_ => Or.elim hs_ (fun e_ => (hk_.1.1.1) e_) (fun e_ => (hk_.2) e_))) (fun k_ hk_ => ⟨hk_.1.1.1.1, hk_.1.1.1.2, hk_.1.1.2⟩)); have n1_ := Aside0.mk (Kd.R_mono (ok' := fun k_ => some k_ ≠ (.slice Ao30 t650.length co30 : Value).ownBlock ∧ some k_ ≠ (.slice Ao38 t658.length co38 : Value).ownBlock ∧ some k_ ≠ (.slice Ao66 t668.length co66 : Value).ownBlock) (Kd.R_keptB ((Kd.R_apart' HO_646002.out (Kd.R_typed HO_654001.out) (by decide))) hkp (fun k_ hk_ hs_ => Or.elim hs_ (fun e_ => (hk_.2) e_) (fun e_ => (hk_.1.1.1) e_))) (fun k_ hk_ => ⟨hk_.1.1.1.1, hk_.1.1.1.2, hk_.1.1.2⟩)); have n2_ := Aside0.mk (Kd.R_reok rfl hy0 (fun k_ e_ => HO_654001.out.1 k_ e_)); have n3_ := Aside0.mk (Kd.R_reok rfl hy1 (fun k_ e_ => HO_654002.out.1 k_ e_)); have n4_ := Aside0.mk (Kd.R_mono (ok' := fun k_ => some k_ ≠ (.slice Ao21 t638.length co21 : Value).ownBlock ∧ some k_ ≠ (.slice Ao29 t647.length co29 : Value).ownBlock ∧ some k_ ≠ (.slice Ao65 t665.length co65 : Value).ownBlock) (Kd.R_keptB ((Kd.R_apart' HO_663001.out (Kd.R_typed HO_654002.out) (by decide))) hkp (fun k_ hk_ hs_ => Or.elim hs_ (fun e_ => (hk_.1.1.2) e_) (fun e_ => (hk_.2) e_))) (fun k_ hk_ => ⟨hk_.1.1.1.1, hk_.1.1.1.2, hk_.1.1.2⟩)); have n5_ := Aside0.mk (Kd.R_mono (ok' := fun k_ => some k_ ≠ (.slice Ao22 t641.length co22 : Value).ownBlock ∧ some k_ ≠ (.slice Ao30 t650.length co30 : Value).ownBlock ∧ some k_ ≠ (.slice Ao66 t668.length co66 : Value).ownBlock) (Kd.R_keptB ((Kd.R_apart' HO_663002.out (Kd.R_typed HO_654001.out) (by decide))) hkp (fun k_ hk_ hs_ => Or.elim hs_ (fun e_ => (hk_.2) e_) (fun e_ => (hk_.1.1.2) e_))) (fun k_ hk_ => ⟨hk_.1.1.1.1, hk_.1.1.1.2, hk_.1.1.2⟩)); have n6_ := Aside0.mk (blk_kept (by (with_reducible repeat (first | refine blk_drewN ?_ _ | refine blk_drew ?_ | refine blk_alloc ?_ _)); exact BK628.out) hkp (fun hs_ => Or.elim hs_ (fun e_ => (fun e_ => (Kd.R_ne HO_654001.out BK628.out (by decide)) e_) e_) (fun e_ => (fun e_ => (Kd.R_ne HO_654002.out BK628.out (by decide)) e_) e_))); have n7_ := Aside0.mk (blk_kept (by (with_reducible repeat (first | refine blk_drewN ?_ _ | refine blk_drew ?_ | refine blk_alloc ?_ _)); exact BK645.out) hkp (fun hs_ => Or.elim hs_ (fun e_ => (fun e_ => (Kd.R_ne HO_654001.out BK645.out (by decide)) e_) e_) (fun e_ => (fun e_ => (Kd.R_ne HO_654002.out BK645.out (by decide)) e_) e_))); have n8_ := Aside0.mk (blk_kept (by (with_reducible repeat (first | refine blk_drewN ?_ _ | refine blk_drew ?_ | refine blk_alloc ?_ _)); exact BK653.out) hkp (fun hs_ => Or.elim hs_ (fun e_ => (fun e_ => (Kd.R_ne HO_654001.out BK653.out (by decide)) e_) e_) (fun e_ => (fun e_ => (Kd.R_ne HO_654002.out BK653.out (by decide)) e_) e_))); have n9_ := Aside0.mk (blk_kept (by (with_reducible repeat (first | refine blk_drewN ?_ _ | refine blk_drew ?_ | refine blk_alloc ?_ _)); exact BK662.out) hkp (fun hs_ => Or.elim hs_ (fun e_ => (fun e_ => (Kd.R_ne HO_654001.out BK662.out (by decide)) e_) e_) (fun e_ => (fun e_ => (Kd.R_ne HO_654002.out BK662.out (by decide)) e_) e_))); have n10_ := Aside0.mk (Kd.R_mono (ok' := fun k_ => some k_ ≠ (.slice Ao21 t638.length co21 : Value).ownBlock ∧ some k_ ≠ (.slice Ao29 t647.length co29 : Value).ownBlock ∧ some k_ ≠ (.slice Ao37 t655.length co37 : Value).ownBlock) (Kd.R_keptB ((Kd.R_apart' HO667.out (Kd.R_typed HO_654002.out) (by decide))) hkp (fun k_ hk_ hs_ => Or.elim hs_ (fun e_ => (hk_.1.1.2) e_) (fun e_ => (hk_.2) e_))) (fun k_ hk_ => ⟨hk_.1.1.1.1.2, hk_.1.1.1.2, hk_.1.1.2⟩)); have n11_ := Aside0.mk (Kd.R_mono (ok' := fun k_ => some k_ ≠ (.slice Ao22 t641.length co22 : Value).ownBlock ∧ some k_ ≠ (.slice Ao30 t650.length co30 : Value).ownBlock ∧ some k_ ≠ (.slice Ao38 t658.length co38 : Value).ownBlock) (Kd.R_keptB ((Kd.R_apart' HO670.out (Kd.R_typed HO_654001.out) (by decide))) hkp (fun k_ hk_ hs_ => Or.elim hs_ (fun e_ => (hk_.2) e_) (fun e_ => (hk_.1.1.2) e_))) (fun k_ hk_ => ⟨hk_.1.1.1.1.2, hk_.1.1.1.2, hk_.1.1.2⟩)); have n12_ := Aside0.mk (hb); clear HO_646001; clear HO_646002; clear HO_654001; clear HO_654002; clear HO_663001; clear HO_663002; clear BK628; clear BK645; clear BK653; clear BK662; clear HO667; clear HO670; clear HB; have HO_646001 := n0_; have HO_646002 := n1_; have HO_654001 := n2_; have HO_654002 := n3_; have HO_663001 := n4_; have HO_663002 := n5_; have BK628 := n6_; have BK645 := n7_; have BK653 := n8_; have BK662 := n9_; have HO667 := n10_; have HO670 := n11_; have HB := n12_; clear n0_ n1_ n2_ n3_ n4_ n5_ n6_ n7_ n8_ n9_ n10_ n11_ n12_; (try clear hb); (try clear hkp); (try clear hy0); (try clear hy1)))
            (try simp only [Act.put, List.setIfInBounds_toArray, List.set_cons_zero, List.set_cons_succ])
            go_cut [61] (fun v61 wc => ∃ (kq : Nat) (x61_61 : Bool), v61 = .bool x61_61 ∧ Aside0 (laws_FnExactAdvanceEpoch.j1 kq t644 x61_61 a0_0 l0_1 l0_2 t637 t638 t641 t654 t655 t658 = some r) ∧ Aside0 (kq ≤ kj11) ∧ Aside0 (Kd.R (Kd.int .i64) 3 wc w.heap.size (fun k_ => some k_ ≠ ((.slice Ao29 t647.length co29) : Value).ownBlock ∧ some k_ ≠ ((.slice Ao37 t655.length co37) : Value).ownBlock) (.slice Ao21 t638.length co21) t638) ∧ Aside0 (Kd.R k57 57 wc w.heap.size (fun k_ => some k_ ≠ ((.slice Ao30 t650.length co30) : Value).ownBlock ∧ some k_ ≠ ((.slice Ao38 t658.length co38) : Value).ownBlock) (.slice Ao22 t641.length co22) t641) ∧ Aside0 (Kd.R (Kd.int .i64) 3 wc w.heap.size (fun k_ => some k_ ≠ ((.slice Ao21 t638.length co21) : Value).ownBlock ∧ some k_ ≠ ((.slice Ao37 t655.length co37) : Value).ownBlock) (.slice Ao29 t647.length co29) t673) ∧ Aside0 (Kd.R k57 57 wc w.heap.size (fun k_ => some k_ ≠ ((.slice Ao22 t641.length co22) : Value).ownBlock ∧ some k_ ≠ ((.slice Ao38 t658.length co38) : Value).ownBlock) (.slice Ao30 t650.length co30) t674) ∧ Aside0 (Kd.R (Kd.int .i64) 3 wc w.heap.size (fun k_ => some k_ ≠ ((.slice Ao21 t638.length co21) : Value).ownBlock ∧ some k_ ≠ ((.slice Ao29 t647.length co29) : Value).ownBlock) (.slice Ao37 t655.length co37) t655) ∧ Aside0 (Kd.R k57 57 wc w.heap.size (fun k_ => some k_ ≠ ((.slice Ao22 t641.length co22) : Value).ownBlock ∧ some k_ ≠ ((.slice Ao30 t650.length co30) : Value).ownBlock) (.slice Ao38 t658.length co38) t658) ∧ Aside0 (wc.heap[gb628]? = some (.cells #[.int .i64 a0_0, (.slice A0_1 l0_1.length c0_1), (.slice A0_2 l0_2.length c0_2)] 32 (0, 0))) ∧ Aside0 (wc.heap[gb645]? = some (.cells #[.int .i64 t637, (.slice Ao21 t638.length co21), (.slice Ao22 t641.length co22)] 25 (0, 0))) ∧ Aside0 (wc.heap[gb653]? = some (.cells #[.int .i64 t646, (.slice Ao29 t647.length co29), (.slice Ao30 t650.length co30)] 25 (0, 0))) ∧ Aside0 (wc.heap[gb662]? = some (.cells #[.int .i64 t654, (.slice Ao37 t655.length co37), (.slice Ao38 t658.length co38)] 25 (0, 0))) ∧ Aside0 (Below w.heap.size w wc))
            case first =>
              have H := HC62.out
              clear HC62
              by_cases c73 : t672 < 0
              · rw [if_pos c73] at H
                have c73b0 : decide (t672 < 0) = true := decide_eq_true c73
                clear c73
                (first | rw [c73b0] | (simp only [i64_w, i32_w]; rw [c73b0]) | skip)
                have H' := Aside0.mk H
                clear H
                go_wp2
                go_meet
                case rel => exact ⟨_, (true), (by first | rfl | (simp; done) | (simp [*]; done)), H', ⟨by have := HJ11.out; first | omega | exact Nat.le_refl _⟩, ⟨by (with_reducible repeat (first | apply Kd.R_alloc | apply Kd.R_drewN | apply Kd.R_drew)); exact Kd.R_mono HO_646001.out (fun _ hk => ⟨hk.1, hk.2.1⟩)⟩, ⟨by (with_reducible repeat (first | apply Kd.R_alloc | apply Kd.R_drewN | apply Kd.R_drew)); exact Kd.R_mono HO_646002.out (fun _ hk => ⟨hk.1, hk.2.1⟩)⟩, ⟨by (with_reducible repeat (first | apply Kd.R_alloc | apply Kd.R_drewN | apply Kd.R_drew)); exact Kd.R_mono HO_654001.out (fun _ hk => ⟨hk.1.1, hk.1.2⟩)⟩, ⟨by (with_reducible repeat (first | apply Kd.R_alloc | apply Kd.R_drewN | apply Kd.R_drew)); exact Kd.R_mono HO_654002.out (fun _ hk => ⟨hk.1.1, hk.1.2⟩)⟩, ⟨by (with_reducible repeat (first | apply Kd.R_alloc | apply Kd.R_drewN | apply Kd.R_drew)); exact Kd.R_mono HO_663001.out (fun _ hk => ⟨hk.1, hk.2.1⟩)⟩, ⟨by (with_reducible repeat (first | apply Kd.R_alloc | apply Kd.R_drewN | apply Kd.R_drew)); exact Kd.R_mono HO_663002.out (fun _ hk => ⟨hk.1, hk.2.1⟩)⟩, ⟨by (with_reducible repeat (first | refine blk_drewN ?_ _ | refine blk_drew ?_ | refine blk_alloc ?_ _)); exact BK628.out⟩, ⟨by (with_reducible repeat (first | refine blk_drewN ?_ _ | refine blk_drew ?_ | refine blk_alloc ?_ _)); exact BK645.out⟩, ⟨by (with_reducible repeat (first | refine blk_drewN ?_ _ | refine blk_drew ?_ | refine blk_alloc ?_ _)); exact BK653.out⟩, ⟨by (with_reducible repeat (first | refine blk_drewN ?_ _ | refine blk_drew ?_ | refine blk_alloc ?_ _)); exact BK662.out⟩, ⟨by repeat (first | (with_reducible first | exact HB.out | apply below_alloc | apply pw_below_drewN | apply below_drew1 | refine below_set ?_ GE628.out | refine below_set ?_ GE645.out | refine below_set ?_ GE653.out | refine below_set ?_ GE662.out) | exact HB.out)⟩⟩
              · rw [if_neg c73] at H
                have c73b0 : decide (t672 < 0) = false := decide_eq_false c73
                clear c73
                (first | rw [c73b0] | (simp only [i64_w, i32_w]; rw [c73b0]) | skip)
                replace H := Option.bind_eq_some_iff.mp H
                obtain ⟨t675, A740, H⟩ := H
                replace H : (if t675 = true then (laws_FnExactAdvanceEpoch.j1 kj11 t644 (t661 != t644) a0_0 l0_1 l0_2 t637 t638 t641 t654 t655 t658) else (laws_FnExactAdvanceEpoch.j1 kj11 t644 true a0_0 l0_1 l0_2 t637 t638 t641 t654 t655 t658)) = some r := H
                have A74 := Aside0.mk A740
                clear A740
                by_cases c75 : t675 = true
                · subst c75
                  have H1 : (laws_FnExactAdvanceEpoch.j1 kj11 t644 (t661 != t644) a0_0 l0_1 l0_2 t637 t638 t641 t654 t655 t658) = some r := by rw [if_pos rfl] at H; exact H
                  clear H
                  have H := H1
                  clear H1
                  have H' := Aside0.mk H
                  clear H
                  have hnb76 := NB662_628.out
                  have hnc76 := NB628_662.out
                  have hnb77 := NB662_645.out
                  have hnc77 := NB645_662.out
                  have hnb78 := NB662_653.out
                  have hnc78 := NB653_662.out
                  have hcz79_0 : w72.cell? ⟨gb662, 0, none⟩ = some (.int .i64 t654) := (blk_cell BK662.out 0).trans rfl
                  have hcz79_1 : w72.cell? ⟨gb662, 1, none⟩ = some (.slice Ao37 t655.length co37) := (blk_cell BK662.out 1).trans rfl
                  have hcz79_2 : w72.cell? ⟨gb662, 2, none⟩ = some (.slice Ao38 t658.length co38) := (blk_cell BK662.out 2).trans rfl
                  have hfz79_0 := blk_frozen BK662.out 0
                  have hfz79_1 := blk_frozen BK662.out 1
                  have hfz79_2 := blk_frozen BK662.out 2
                  have hnb80 := NB645_628.out
                  have hnc80 := NB628_645.out
                  have hnb81 := NB645_653.out
                  have hnc81 := NB653_645.out
                  have hcz82_0 : w72.cell? ⟨gb645, 0, none⟩ = some (.int .i64 t637) := (blk_cell BK645.out 0).trans rfl
                  have hcz82_1 : w72.cell? ⟨gb645, 1, none⟩ = some (.slice Ao21 t638.length co21) := (blk_cell BK645.out 1).trans rfl
                  have hcz82_2 : w72.cell? ⟨gb645, 2, none⟩ = some (.slice Ao22 t641.length co22) := (blk_cell BK645.out 2).trans rfl
                  have hfz82_0 := blk_frozen BK645.out 0
                  have hfz82_1 := blk_frozen BK645.out 1
                  have hfz82_2 := blk_frozen BK645.out 2
                  go_wp2_with (first | (go_at_call 15; (with_reducible refine (laws_eqEpochs.calls kj11 t654 _ _ t655 _ _ t658 t637 _ _ t638 _ _ t641 true _ ?side1 ?side2 ?side3 ?side4 ?side5 ?side6 ?side7 ?side8 A74.out).mono ?_); (case side1 => repeat (first | exact (Kd.R_reads' HO_663001.out).2.2 | (with_reducible refine Kd.C_alloc ?_ _) | (with_reducible refine Kd.C_drewN ?_ _) | (with_reducible refine Kd.C_drew ?_))); (case side2 => exact (Kd.R_reads' HO_663001.out).2.1); (case side3 => repeat (first | exact (Kd.R_reads' HO_663002.out).2.2 | (with_reducible refine Kd.C_alloc ?_ _) | (with_reducible refine Kd.C_drewN ?_ _) | (with_reducible refine Kd.C_drew ?_))); (case side4 => exact (Kd.R_reads' HO_663002.out).2.1); (case side5 => repeat (first | exact (Kd.R_reads' HO_646001.out).2.2 | (with_reducible refine Kd.C_alloc ?_ _) | (with_reducible refine Kd.C_drewN ?_ _) | (with_reducible refine Kd.C_drew ?_))); (case side6 => exact (Kd.R_reads' HO_646001.out).2.1); (case side7 => repeat (first | exact (Kd.R_reads' HO_646002.out).2.2 | (with_reducible refine Kd.C_alloc ?_ _) | (with_reducible refine Kd.C_drewN ?_ _) | (with_reducible refine Kd.C_drew ?_))); (case side8 => exact (Kd.R_reads' HO_646002.out).2.1); rintro e w83 ⟨rfl, hb⟩; have n0_ := Aside0.mk (Kd.R_below (by (with_reducible repeat (first | apply Kd.R_alloc | apply Kd.R_drewN | apply Kd.R_drew)); exact HO_646001.out) hb); have n1_ := Aside0.mk (Kd.R_below (by (with_reducible repeat (first | apply Kd.R_alloc | apply Kd.R_drewN | apply Kd.R_drew)); exact HO_646002.out) hb); have n2_ := Aside0.mk (Kd.R_below (by (with_reducible repeat (first | apply Kd.R_alloc | apply Kd.R_drewN | apply Kd.R_drew)); exact HO_654001.out) hb); have n3_ := Aside0.mk (Kd.R_below (by (with_reducible repeat (first | apply Kd.R_alloc | apply Kd.R_drewN | apply Kd.R_drew)); exact HO_654002.out) hb); have n4_ := Aside0.mk (Kd.R_below (by (with_reducible repeat (first | apply Kd.R_alloc | apply Kd.R_drewN | apply Kd.R_drew)); exact HO_663001.out) hb); have n5_ := Aside0.mk (Kd.R_below (by (with_reducible repeat (first | apply Kd.R_alloc | apply Kd.R_drewN | apply Kd.R_drew)); exact HO_663002.out) hb); have n6_ := Aside0.mk (Kd.R_below (by (with_reducible repeat (first | apply Kd.R_alloc | apply Kd.R_drewN | apply Kd.R_drew)); exact HO667.out) hb); have n7_ := Aside0.mk (Kd.R_below (by (with_reducible repeat (first | apply Kd.R_alloc | apply Kd.R_drewN | apply Kd.R_drew)); exact HO670.out) hb); have n8_ := Aside0.mk (blk_below (g := gb628) (o := .cells #[.int .i64 a0_0, .slice A0_1 l0_1.length c0_1, .slice A0_2 l0_2.length c0_2] 32 (0, 0)) (by (with_reducible repeat (first | refine blk_drewN ?_ _ | refine blk_drew ?_ | refine blk_alloc ?_ _)); exact BK628.out) hb); have n9_ := Aside0.mk (blk_below (g := gb645) (o := .cells #[.int .i64 t637, .slice Ao21 t638.length co21, .slice Ao22 t641.length co22] 25 (0, 0)) (by (with_reducible repeat (first | refine blk_drewN ?_ _ | refine blk_drew ?_ | refine blk_alloc ?_ _)); exact BK645.out) hb); have n10_ := Aside0.mk (blk_below (g := gb653) (o := .cells #[.int .i64 t646, .slice Ao29 t647.length co29, .slice Ao30 t650.length co30] 25 (0, 0)) (by (with_reducible repeat (first | refine blk_drewN ?_ _ | refine blk_drew ?_ | refine blk_alloc ?_ _)); exact BK653.out) hb); have n11_ := Aside0.mk (blk_below (g := gb662) (o := .cells #[.int .i64 t654, .slice Ao37 t655.length co37, .slice Ao38 t658.length co38] 25 (0, 0)) (by (with_reducible repeat (first | refine blk_drewN ?_ _ | refine blk_drew ?_ | refine blk_alloc ?_ _)); exact BK662.out) hb); have n12_ := Aside0.mk (below_step (by repeat (first | (with_reducible first | exact HB.out | apply below_alloc | apply pw_below_drewN | apply below_drew1 | refine below_set ?_ GE628.out | refine below_set ?_ GE645.out | refine below_set ?_ GE653.out | refine below_set ?_ GE662.out) | exact HB.out)) hb); clear HO_646001; clear HO_646002; clear HO_654001; clear HO_654002; clear HO_663001; clear HO_663002; clear HO667; clear HO670; clear BK628; clear BK645; clear BK653; clear BK662; clear HB; have HO_646001 := n0_; have HO_646002 := n1_; have HO_654001 := n2_; have HO_654002 := n3_; have HO_663001 := n4_; have HO_663002 := n5_; have HO667 := n6_; have HO670 := n7_; have BK628 := n8_; have BK645 := n9_; have BK653 := n10_; have BK662 := n11_; have HB := n12_; clear n0_ n1_ n2_ n3_ n4_ n5_ n6_ n7_ n8_ n9_ n10_ n11_ n12_; (try clear hb); (try clear hb2); (try clear hk); (try clear hi)))
                  go_meet
                  case rel => exact ⟨_, ((t661 != t644)), (by first | rfl | (simp; done) | (simp [*]; done)), H', ⟨by have := HJ11.out; first | omega | exact Nat.le_refl _⟩, ⟨by (with_reducible repeat (first | apply Kd.R_alloc | apply Kd.R_drewN | apply Kd.R_drew)); exact Kd.R_mono HO_646001.out (fun _ hk => ⟨hk.1, hk.2.1⟩)⟩, ⟨by (with_reducible repeat (first | apply Kd.R_alloc | apply Kd.R_drewN | apply Kd.R_drew)); exact Kd.R_mono HO_646002.out (fun _ hk => ⟨hk.1, hk.2.1⟩)⟩, ⟨by (with_reducible repeat (first | apply Kd.R_alloc | apply Kd.R_drewN | apply Kd.R_drew)); exact Kd.R_mono HO_654001.out (fun _ hk => ⟨hk.1.1, hk.1.2⟩)⟩, ⟨by (with_reducible repeat (first | apply Kd.R_alloc | apply Kd.R_drewN | apply Kd.R_drew)); exact Kd.R_mono HO_654002.out (fun _ hk => ⟨hk.1.1, hk.1.2⟩)⟩, ⟨by (with_reducible repeat (first | apply Kd.R_alloc | apply Kd.R_drewN | apply Kd.R_drew)); exact Kd.R_mono HO_663001.out (fun _ hk => ⟨hk.1, hk.2.1⟩)⟩, ⟨by (with_reducible repeat (first | apply Kd.R_alloc | apply Kd.R_drewN | apply Kd.R_drew)); exact Kd.R_mono HO_663002.out (fun _ hk => ⟨hk.1, hk.2.1⟩)⟩, ⟨by (with_reducible repeat (first | refine blk_drewN ?_ _ | refine blk_drew ?_ | refine blk_alloc ?_ _)); exact BK628.out⟩, ⟨by (with_reducible repeat (first | refine blk_drewN ?_ _ | refine blk_drew ?_ | refine blk_alloc ?_ _)); exact BK645.out⟩, ⟨by (with_reducible repeat (first | refine blk_drewN ?_ _ | refine blk_drew ?_ | refine blk_alloc ?_ _)); exact BK653.out⟩, ⟨by (with_reducible repeat (first | refine blk_drewN ?_ _ | refine blk_drew ?_ | refine blk_alloc ?_ _)); exact BK662.out⟩, ⟨by repeat (first | (with_reducible first | exact HB.out | apply below_alloc | apply pw_below_drewN | apply below_drew1 | refine below_set ?_ GE628.out | refine below_set ?_ GE645.out | refine below_set ?_ GE653.out | refine below_set ?_ GE662.out) | exact HB.out)⟩⟩
                · replace c75 := Bool.eq_false_iff.mpr c75
                  subst c75
                  have H1 : (laws_FnExactAdvanceEpoch.j1 kj11 t644 true a0_0 l0_1 l0_2 t637 t638 t641 t654 t655 t658) = some r := by rw [if_neg (show ¬ (false = true) by decide)] at H; exact H
                  clear H
                  have H := H1
                  clear H1
                  have H' := Aside0.mk H
                  clear H
                  have hnb84 := NB662_628.out
                  have hnc84 := NB628_662.out
                  have hnb85 := NB662_645.out
                  have hnc85 := NB645_662.out
                  have hnb86 := NB662_653.out
                  have hnc86 := NB653_662.out
                  have hcz87_0 : w72.cell? ⟨gb662, 0, none⟩ = some (.int .i64 t654) := (blk_cell BK662.out 0).trans rfl
                  have hcz87_1 : w72.cell? ⟨gb662, 1, none⟩ = some (.slice Ao37 t655.length co37) := (blk_cell BK662.out 1).trans rfl
                  have hcz87_2 : w72.cell? ⟨gb662, 2, none⟩ = some (.slice Ao38 t658.length co38) := (blk_cell BK662.out 2).trans rfl
                  have hfz87_0 := blk_frozen BK662.out 0
                  have hfz87_1 := blk_frozen BK662.out 1
                  have hfz87_2 := blk_frozen BK662.out 2
                  have hnb88 := NB645_628.out
                  have hnc88 := NB628_645.out
                  have hnb89 := NB645_653.out
                  have hnc89 := NB653_645.out
                  have hcz90_0 : w72.cell? ⟨gb645, 0, none⟩ = some (.int .i64 t637) := (blk_cell BK645.out 0).trans rfl
                  have hcz90_1 : w72.cell? ⟨gb645, 1, none⟩ = some (.slice Ao21 t638.length co21) := (blk_cell BK645.out 1).trans rfl
                  have hcz90_2 : w72.cell? ⟨gb645, 2, none⟩ = some (.slice Ao22 t641.length co22) := (blk_cell BK645.out 2).trans rfl
                  have hfz90_0 := blk_frozen BK645.out 0
                  have hfz90_1 := blk_frozen BK645.out 1
                  have hfz90_2 := blk_frozen BK645.out 2
                  go_wp2_with (first | (go_at_call 15; (with_reducible refine (laws_eqEpochs.calls kj11 t654 _ _ t655 _ _ t658 t637 _ _ t638 _ _ t641 false _ ?side1 ?side2 ?side3 ?side4 ?side5 ?side6 ?side7 ?side8 A74.out).mono ?_); (case side1 => repeat (first | exact (Kd.R_reads' HO_663001.out).2.2 | (with_reducible refine Kd.C_alloc ?_ _) | (with_reducible refine Kd.C_drewN ?_ _) | (with_reducible refine Kd.C_drew ?_))); (case side2 => exact (Kd.R_reads' HO_663001.out).2.1); (case side3 => repeat (first | exact (Kd.R_reads' HO_663002.out).2.2 | (with_reducible refine Kd.C_alloc ?_ _) | (with_reducible refine Kd.C_drewN ?_ _) | (with_reducible refine Kd.C_drew ?_))); (case side4 => exact (Kd.R_reads' HO_663002.out).2.1); (case side5 => repeat (first | exact (Kd.R_reads' HO_646001.out).2.2 | (with_reducible refine Kd.C_alloc ?_ _) | (with_reducible refine Kd.C_drewN ?_ _) | (with_reducible refine Kd.C_drew ?_))); (case side6 => exact (Kd.R_reads' HO_646001.out).2.1); (case side7 => repeat (first | exact (Kd.R_reads' HO_646002.out).2.2 | (with_reducible refine Kd.C_alloc ?_ _) | (with_reducible refine Kd.C_drewN ?_ _) | (with_reducible refine Kd.C_drew ?_))); (case side8 => exact (Kd.R_reads' HO_646002.out).2.1); rintro e w91 ⟨rfl, hb⟩; have n0_ := Aside0.mk (Kd.R_below (by (with_reducible repeat (first | apply Kd.R_alloc | apply Kd.R_drewN | apply Kd.R_drew)); exact HO_646001.out) hb); have n1_ := Aside0.mk (Kd.R_below (by (with_reducible repeat (first | apply Kd.R_alloc | apply Kd.R_drewN | apply Kd.R_drew)); exact HO_646002.out) hb); have n2_ := Aside0.mk (Kd.R_below (by (with_reducible repeat (first | apply Kd.R_alloc | apply Kd.R_drewN | apply Kd.R_drew)); exact HO_654001.out) hb); have n3_ := Aside0.mk (Kd.R_below (by (with_reducible repeat (first | apply Kd.R_alloc | apply Kd.R_drewN | apply Kd.R_drew)); exact HO_654002.out) hb); have n4_ := Aside0.mk (Kd.R_below (by (with_reducible repeat (first | apply Kd.R_alloc | apply Kd.R_drewN | apply Kd.R_drew)); exact HO_663001.out) hb); have n5_ := Aside0.mk (Kd.R_below (by (with_reducible repeat (first | apply Kd.R_alloc | apply Kd.R_drewN | apply Kd.R_drew)); exact HO_663002.out) hb); have n6_ := Aside0.mk (Kd.R_below (by (with_reducible repeat (first | apply Kd.R_alloc | apply Kd.R_drewN | apply Kd.R_drew)); exact HO667.out) hb); have n7_ := Aside0.mk (Kd.R_below (by (with_reducible repeat (first | apply Kd.R_alloc | apply Kd.R_drewN | apply Kd.R_drew)); exact HO670.out) hb); have n8_ := Aside0.mk (blk_below (g := gb628) (o := .cells #[.int .i64 a0_0, .slice A0_1 l0_1.length c0_1, .slice A0_2 l0_2.length c0_2] 32 (0, 0)) (by (with_reducible repeat (first | refine blk_drewN ?_ _ | refine blk_drew ?_ | refine blk_alloc ?_ _)); exact BK628.out) hb); have n9_ := Aside0.mk (blk_below (g := gb645) (o := .cells #[.int .i64 t637, .slice Ao21 t638.length co21, .slice Ao22 t641.length co22] 25 (0, 0)) (by (with_reducible repeat (first | refine blk_drewN ?_ _ | refine blk_drew ?_ | refine blk_alloc ?_ _)); exact BK645.out) hb); have n10_ := Aside0.mk (blk_below (g := gb653) (o := .cells #[.int .i64 t646, .slice Ao29 t647.length co29, .slice Ao30 t650.length co30] 25 (0, 0)) (by (with_reducible repeat (first | refine blk_drewN ?_ _ | refine blk_drew ?_ | refine blk_alloc ?_ _)); exact BK653.out) hb); have n11_ := Aside0.mk (blk_below (g := gb662) (o := .cells #[.int .i64 t654, .slice Ao37 t655.length co37, .slice Ao38 t658.length co38] 25 (0, 0)) (by (with_reducible repeat (first | refine blk_drewN ?_ _ | refine blk_drew ?_ | refine blk_alloc ?_ _)); exact BK662.out) hb); have n12_ := Aside0.mk (below_step (by repeat (first | (with_reducible first | exact HB.out | apply below_alloc | apply pw_below_drewN | apply below_drew1 | refine below_set ?_ GE628.out | refine below_set ?_ GE645.out | refine below_set ?_ GE653.out | refine below_set ?_ GE662.out) | exact HB.out)) hb); clear HO_646001; clear HO_646002; clear HO_654001; clear HO_654002; clear HO_663001; clear HO_663002; clear HO667; clear HO670; clear BK628; clear BK645; clear BK653; clear BK662; clear HB; have HO_646001 := n0_; have HO_646002 := n1_; have HO_654001 := n2_; have HO_654002 := n3_; have HO_663001 := n4_; have HO_663002 := n5_; have HO667 := n6_; have HO670 := n7_; have BK628 := n8_; have BK645 := n9_; have BK653 := n10_; have BK662 := n11_; have HB := n12_; clear n0_ n1_ n2_ n3_ n4_ n5_ n6_ n7_ n8_ n9_ n10_ n11_ n12_; (try clear hb); (try clear hb2); (try clear hk); (try clear hi)))
                  go_meet
                  case rel => exact ⟨_, (true), (by first | rfl | (simp; done) | (simp [*]; done)), H', ⟨by have := HJ11.out; first | omega | exact Nat.le_refl _⟩, ⟨by (with_reducible repeat (first | apply Kd.R_alloc | apply Kd.R_drewN | apply Kd.R_drew)); exact Kd.R_mono HO_646001.out (fun _ hk => ⟨hk.1, hk.2.1⟩)⟩, ⟨by (with_reducible repeat (first | apply Kd.R_alloc | apply Kd.R_drewN | apply Kd.R_drew)); exact Kd.R_mono HO_646002.out (fun _ hk => ⟨hk.1, hk.2.1⟩)⟩, ⟨by (with_reducible repeat (first | apply Kd.R_alloc | apply Kd.R_drewN | apply Kd.R_drew)); exact Kd.R_mono HO_654001.out (fun _ hk => ⟨hk.1.1, hk.1.2⟩)⟩, ⟨by (with_reducible repeat (first | apply Kd.R_alloc | apply Kd.R_drewN | apply Kd.R_drew)); exact Kd.R_mono HO_654002.out (fun _ hk => ⟨hk.1.1, hk.1.2⟩)⟩, ⟨by (with_reducible repeat (first | apply Kd.R_alloc | apply Kd.R_drewN | apply Kd.R_drew)); exact Kd.R_mono HO_663001.out (fun _ hk => ⟨hk.1, hk.2.1⟩)⟩, ⟨by (with_reducible repeat (first | apply Kd.R_alloc | apply Kd.R_drewN | apply Kd.R_drew)); exact Kd.R_mono HO_663002.out (fun _ hk => ⟨hk.1, hk.2.1⟩)⟩, ⟨by (with_reducible repeat (first | refine blk_drewN ?_ _ | refine blk_drew ?_ | refine blk_alloc ?_ _)); exact BK628.out⟩, ⟨by (with_reducible repeat (first | refine blk_drewN ?_ _ | refine blk_drew ?_ | refine blk_alloc ?_ _)); exact BK645.out⟩, ⟨by (with_reducible repeat (first | refine blk_drewN ?_ _ | refine blk_drew ?_ | refine blk_alloc ?_ _)); exact BK653.out⟩, ⟨by (with_reducible repeat (first | refine blk_drewN ?_ _ | refine blk_drew ?_ | refine blk_alloc ?_ _)); exact BK662.out⟩, ⟨by repeat (first | (with_reducible first | exact HB.out | apply below_alloc | apply pw_below_drewN | apply below_drew1 | refine below_set ?_ GE628.out | refine below_set ?_ GE645.out | refine below_set ?_ GE653.out | refine below_set ?_ GE662.out) | exact HB.out)⟩⟩
            case rest =>
              clear HC62
              try clear c1
              try clear c2
              try clear p2
              try clear c3
              try clear c4
              try clear c5
              try clear c6
              try clear c7
              try clear c7b0
              try clear c8
              try clear c15
              try clear c16
              try clear c18
              try clear c19
              try clear c20
              try clear c26
              try clear c27
              try clear c31
              try clear c32
              try clear c33
              try clear c34
              try clear c35
              try clear c40
              try clear c41
              try clear c42
              try clear c43
              try clear c45
              try clear c46
              try clear c49
              try clear c50
              try clear c51
              try clear c53
              try clear c54
              try clear c57
              try clear c60
              try clear c68
              try clear c69
              try clear c70
              try clear c73
              try clear c73b0
              try clear c75
              try clear c76
              try clear c77
              try clear c78
              try clear c80
              try clear c81
              try clear c84
              try clear c85
              try clear c86
              try clear c88
              try clear c89
              try clear hcz13_0
              try clear hcz13_1
              try clear hcz13_2
              try clear hcz20_0
              try clear hcz20_1
              try clear hcz20_2
              try clear hcz23_0
              try clear hcz23_1
              try clear hcz23_2
              try clear hcz28_0
              try clear hcz28_1
              try clear hcz28_2
              try clear hcz36_0
              try clear hcz36_1
              try clear hcz36_2
              try clear hcz44_0
              try clear hcz44_1
              try clear hcz44_2
              try clear hcz47_0
              try clear hcz47_1
              try clear hcz47_2
              try clear hcz52_0
              try clear hcz52_1
              try clear hcz52_2
              try clear hcz55_0
              try clear hcz55_1
              try clear hcz55_2
              try clear hcz5_0
              try clear hcz5_1
              try clear hcz5_2
              try clear hcz71_0
              try clear hcz71_1
              try clear hcz71_2
              try clear hcz79_0
              try clear hcz79_1
              try clear hcz79_2
              try clear hcz82_0
              try clear hcz82_1
              try clear hcz82_2
              try clear hcz87_0
              try clear hcz87_1
              try clear hcz87_2
              try clear hcz90_0
              try clear hcz90_1
              try clear hcz90_2
              try clear hfz13_0
              try clear hfz13_1
              try clear hfz13_2
              try clear hfz20_0
              try clear hfz20_1
              try clear hfz20_2
              try clear hfz23_0
              try clear hfz23_1
              try clear hfz23_2
              try clear hfz28_0
              try clear hfz28_1
              try clear hfz28_2
              try clear hfz36_0
              try clear hfz36_1
              try clear hfz36_2
              try clear hfz44_0
              try clear hfz44_1
              try clear hfz44_2
              try clear hfz47_0
              try clear hfz47_1
              try clear hfz47_2
              try clear hfz52_0
              try clear hfz52_1
              try clear hfz52_2
              try clear hfz55_0
              try clear hfz55_1
              try clear hfz55_2
              try clear hfz5_0
              try clear hfz5_1
              try clear hfz5_2
              try clear hfz71_0
              try clear hfz71_1
              try clear hfz71_2
              try clear hfz79_0
              try clear hfz79_1
              try clear hfz79_2
              try clear hfz82_0
              try clear hfz82_1
              try clear hfz82_2
              try clear hfz87_0
              try clear hfz87_1
              try clear hfz87_2
              try clear hfz90_0
              try clear hfz90_1
              try clear hfz90_2
              try clear p2
              obtain ⟨kq, x61_61, rfl, HA, HJ61, HO_646001, HO_646002, HO_654001, HO_654002, HO_663001, HO_663002, BK628, BK645, BK653, BK662, HB⟩ := hcut
              have hl654001_61 := (Kd.R_reads' HO_654001.out).1
              rw [hl654001_61] at HO_654001
              (try simp only [hl654001_61])
              (try simp only [hl654001_61] at BK628)
              (try simp only [hl654001_61] at BK645)
              (try simp only [hl654001_61] at BK653)
              (try simp only [hl654001_61] at BK662)
              (try simp only [hl654001_61] at HO_646001)
              (try simp only [hl654001_61] at HO_646002)
              (try simp only [hl654001_61] at HO_654002)
              (try simp only [hl654001_61] at HO_663001)
              (try simp only [hl654001_61] at HO_663002)
              have hl654002_61 := (Kd.R_reads' HO_654002.out).1
              rw [hl654002_61] at HO_654002
              (try simp only [hl654002_61])
              (try simp only [hl654002_61] at BK628)
              (try simp only [hl654002_61] at BK645)
              (try simp only [hl654002_61] at BK653)
              (try simp only [hl654002_61] at BK662)
              (try simp only [hl654002_61] at HO_646001)
              (try simp only [hl654002_61] at HO_646002)
              (try simp only [hl654002_61] at HO_654001)
              (try simp only [hl654002_61] at HO_663001)
              (try simp only [hl654002_61] at HO_663002)
              cases kq with
              | zero => exact absurd HA.out (by simp [laws_FnExactAdvanceEpoch.j1])
              | succ kj61 =>
                have H := HA.out
                clear HA
                simp only [laws_FnExactAdvanceEpoch.j1] at H
                by_cases c92 : x61_61 = true
                · subst c92
                  have H1 : (none) = some r := by rw [if_pos rfl] at H; exact H
                  clear H
                  have H := H1
                  clear H1
                  exact absurd H (by simp)
                · replace c92 := Bool.eq_false_iff.mpr c92
                  subst c92
                  have H1 : ((laws_markEpochs.f kj61 t654 t655 t658 1).bind fun bt676 => ((laws_heldEpochs.f kj61 t654 bt676.2.1 bt676.2.2 1).bind fun t679 => (if t679 < 0 then (none) else (if t679 = bt676.1 then ((laws_toEpochs.f kj61 a0_0 l0_1 l0_2).bind fun bt680 => ((impl_AdvanceEpoch.f kj61 bt680.1 bt680.2.1 bt680.2.2).bind fun bt687 => ((laws_eqEpochs.f kj61 bt687.1 bt687.2.1 bt687.2.2.1 t637 t638 t641).bind fun t696 => (if t696 = true then (laws_FnExactAdvanceEpoch.j2 kj61 bt676.1 (bt687.2.2.2 != t644) t654 bt676.2.1 bt676.2.2) else (laws_FnExactAdvanceEpoch.j2 kj61 bt676.1 true t654 bt676.2.1 bt676.2.2))))) else (none))))) = some r := by rw [if_neg (show ¬ (false = true) by decide)] at H; exact H
                  clear H
                  have H := H1
                  clear H1
                  replace H := Option.bind_eq_some_iff.mp H
                  obtain ⟨⟨t676, t677, t678⟩, A930, H⟩ := H
                  replace H : ((laws_heldEpochs.f kj61 t654 t677 t678 1).bind fun t679 => (if t679 < 0 then (none) else (if t679 = t676 then ((laws_toEpochs.f kj61 a0_0 l0_1 l0_2).bind fun bt680 => ((impl_AdvanceEpoch.f kj61 bt680.1 bt680.2.1 bt680.2.2).bind fun bt687 => ((laws_eqEpochs.f kj61 bt687.1 bt687.2.1 bt687.2.2.1 t637 t638 t641).bind fun t696 => (if t696 = true then (laws_FnExactAdvanceEpoch.j2 kj61 t676 (bt687.2.2.2 != t644) t654 t677 t678) else (laws_FnExactAdvanceEpoch.j2 kj61 t676 true t654 t677 t678))))) else (none)))) = some r := H
                  have A93 := Aside0.mk A930
                  clear A930
                  replace H := Option.bind_eq_some_iff.mp H
                  obtain ⟨t679, A940, H⟩ := H
                  replace H : (if t679 < 0 then (none) else (if t679 = t676 then ((laws_toEpochs.f kj61 a0_0 l0_1 l0_2).bind fun bt680 => ((impl_AdvanceEpoch.f kj61 bt680.1 bt680.2.1 bt680.2.2).bind fun bt687 => ((laws_eqEpochs.f kj61 bt687.1 bt687.2.1 bt687.2.2.1 t637 t638 t641).bind fun t696 => (if t696 = true then (laws_FnExactAdvanceEpoch.j2 kj61 t676 (bt687.2.2.2 != t644) t654 t677 t678) else (laws_FnExactAdvanceEpoch.j2 kj61 t676 true t654 t677 t678))))) else (none))) = some r := H
                  have A94 := Aside0.mk A940
                  clear A940
                  by_cases c95 : t679 < 0
                  · rw [if_pos c95] at H
                    exact absurd H (by simp)
                  · rw [if_neg c95] at H
                    have c95b0 : decide (t679 < 0) = false := decide_eq_false c95
                    clear c95
                    by_cases c96 : t679 = t676
                    · rw [if_pos c96] at H
                      have c96b0 : (t679 == t676) = true := beq_iff_eq.mpr c96
                      have c96b1 : (t679 != t676) = false := bne_eq_false_iff_eq.mpr c96
                      clear c96
                      replace H := Option.bind_eq_some_iff.mp H
                      obtain ⟨⟨t680, t681, t684⟩, A970, H⟩ := H
                      replace H : ((impl_AdvanceEpoch.f kj61 t680 t681 t684).bind fun bt687 => ((laws_eqEpochs.f kj61 bt687.1 bt687.2.1 bt687.2.2.1 t637 t638 t641).bind fun t696 => (if t696 = true then (laws_FnExactAdvanceEpoch.j2 kj61 t676 (bt687.2.2.2 != t644) t654 t677 t678) else (laws_FnExactAdvanceEpoch.j2 kj61 t676 true t654 t677 t678)))) = some r := H
                      have A97 := Aside0.mk A970
                      clear A970
                      replace H := Option.bind_eq_some_iff.mp H
                      obtain ⟨⟨t687, t688, t691, t694⟩, A980, H⟩ := H
                      replace H : ((laws_eqEpochs.f kj61 t687 t688 t691 t637 t638 t641).bind fun t696 => (if t696 = true then (laws_FnExactAdvanceEpoch.j2 kj61 t676 (t694 != t644) t654 t677 t678) else (laws_FnExactAdvanceEpoch.j2 kj61 t676 true t654 t677 t678))) = some r := H
                      have A98 := Aside0.mk A980
                      clear A980
                      have HC99 := Aside0.mk H
                      clear H
                      have hnb100 := NB662_628.out
                      have hnc100 := NB628_662.out
                      have hnb101 := NB662_645.out
                      have hnc101 := NB645_662.out
                      have hnb102 := NB662_653.out
                      have hnc102 := NB653_662.out
                      have hcz103_0 : wc.cell? ⟨gb662, 0, none⟩ = some (.int .i64 t654) := (blk_cell BK662.out 0).trans rfl
                      have hcz103_1 : wc.cell? ⟨gb662, 1, none⟩ = some (.slice Ao37 t655.length co37) := (blk_cell BK662.out 1).trans rfl
                      have hcz103_2 : wc.cell? ⟨gb662, 2, none⟩ = some (.slice Ao38 t658.length co38) := (blk_cell BK662.out 2).trans rfl
                      have hfz103_0 := blk_frozen BK662.out 0
                      have hfz103_1 := blk_frozen BK662.out 1
                      have hfz103_2 := blk_frozen BK662.out 2
                      go_upto_region 25 with (first | ((with_reducible refine gate_callee (f := 16) rfl ?_); refine goesL_ (some 64) rfl rfl Try.func16 (by kernel_rfl) rfl #[.agg #[.int .i64 t654, .slice Ao37 t655.length co37, .slice Ao38 t658.length co38], .int .i64 1] rfl (by (try simp only [List.map_toArray, List.map_cons, List.map_nil]); first | done | rfl | (simp only [List.length_drop, List.length_take]; rfl)) ?_; (with_reducible refine (laws_markEpochs.calls kj61 t654 (fun k_ => some k_ = (.slice Ao37 t655.length co37 : Value).ownBlock) (.slice Ao37 t655.length co37) t655 (fun k_ => some k_ = (.slice Ao38 t658.length co38 : Value).ownBlock) (.slice Ao38 t658.length co38) t658 1 t676 t677 t678 w _ ?side1 ?side2 ?side3 A93.out).mono ?_); (case side1 => repeat (first | (with_reducible first | exact HB.out | apply below_alloc | apply pw_below_drewN | apply below_drew1 | refine below_set ?_ GE628.out | refine below_set ?_ GE645.out | refine below_set ?_ GE653.out | refine below_set ?_ GE662.out) | exact HB.out)); (case side2 => exact Kd.R_tight rfl HO_663001.out); (case side3 => exact Kd.R_tight rfl HO_663002.out); rintro e w104 ⟨rfl, hy0, hy1, hb, hkp⟩; refine ⟨_, rfl, ?_⟩; have n0_ := Aside0.mk (Kd.R_mono (ok' := fun k_ => some k_ ≠ (.slice Ao29 t673.length co29 : Value).ownBlock ∧ some k_ ≠ (.slice Ao37 t655.length co37 : Value).ownBlock) (Kd.R_keptB ((Kd.R_apart' HO_646001.out (Kd.R_typed HO_663002.out) (by decide))) hkp (fun k_ hk_ hs_ => Or.elim hs_ (fun e_ => (hk_.1.2) e_) (fun e_ => (hk_.2) e_))) (fun k_ hk_ => ⟨hk_.1.1.1, hk_.1.1.2⟩)); have n1_ := Aside0.mk (Kd.R_mono (ok' := fun k_ => some k_ ≠ (.slice Ao30 t674.length co30 : Value).ownBlock ∧ some k_ ≠ (.slice Ao38 t658.length co38 : Value).ownBlock) (Kd.R_keptB ((Kd.R_apart' HO_646002.out (Kd.R_typed HO_663001.out) (by decide))) hkp (fun k_ hk_ hs_ => Or.elim hs_ (fun e_ => (hk_.2) e_) (fun e_ => (hk_.1.2) e_))) (fun k_ hk_ => ⟨hk_.1.1.1, hk_.1.1.2⟩)); have n2_ := Aside0.mk (Kd.R_mono (ok' := fun k_ => some k_ ≠ (.slice Ao21 t638.length co21 : Value).ownBlock ∧ some k_ ≠ (.slice Ao37 t655.length co37 : Value).ownBlock) (Kd.R_keptB ((Kd.R_apart' HO_654001.out (Kd.R_typed HO_663002.out) (by decide))) hkp (fun k_ hk_ hs_ => Or.elim hs_ (fun e_ => (hk_.1.2) e_) (fun e_ => (hk_.2) e_))) (fun k_ hk_ => ⟨hk_.1.1.1, hk_.1.1.2⟩)); have n3_ := Aside0.mk (Kd.R_mono (ok' := fun k_ => some k_ ≠ (.slice Ao22 t641.length co22 : Value).ownBlock ∧ some k_ ≠ (.slice Ao38 t658.length co38 : Value).ownBlock) (Kd.R_keptB ((Kd.R_apart' HO_654002.out (Kd.R_typed HO_663001.out) (by decide))) hkp (fun k_ hk_ hs_ => Or.elim hs_ (fun e_ => (hk_.2) e_) (fun e_ => (hk_.1.2) e_))) (fun k_ hk_ => ⟨hk_.1.1.1, hk_.1.1.2⟩)); have n4_ := Aside0.mk (Kd.R_reok rfl hy0 (fun k_ e_ => HO_663001.out.1 k_ e_)); have n5_ := Aside0.mk (Kd.R_reok rfl hy1 (fun k_ e_ => HO_663002.out.1 k_ e_)); have n6_ := Aside0.mk (blk_kept (by (with_reducible repeat (first | refine blk_drewN ?_ _ | refine blk_drew ?_ | refine blk_alloc ?_ _)); exact BK628.out) hkp (fun hs_ => Or.elim hs_ (fun e_ => (fun e_ => (Kd.R_ne HO_663001.out BK628.out (by decide)) e_) e_) (fun e_ => (fun e_ => (Kd.R_ne HO_663002.out BK628.out (by decide)) e_) e_))); have n7_ := Aside0.mk (blk_kept (by (with_reducible repeat (first | refine blk_drewN ?_ _ | refine blk_drew ?_ | refine blk_alloc ?_ _)); exact BK645.out) hkp (fun hs_ => Or.elim hs_ (fun e_ => (fun e_ => (Kd.R_ne HO_663001.out BK645.out (by decide)) e_) e_) (fun e_ => (fun e_ => (Kd.R_ne HO_663002.out BK645.out (by decide)) e_) e_))); have n8_ := Aside0.mk (blk_kept (by (with_reducible repeat (first | refine blk_drewN ?_ _ | refine blk_drew ?_ | refine blk_alloc ?_ _)); exact BK653.out) hkp (fun hs_ => Or.elim hs_ (fun e_ => (fun e_ => (Kd.R_ne HO_663001.out BK653.out (by decide)) e_) e_) (fun e_ => (fun e_ => (Kd.R_ne HO_663002.out BK653.out (by decide)) e_) e_))); have n9_ := Aside0.mk (blk_kept (by (with_reducible repeat (first | refine blk_drewN ?_ _ | refine blk_drew ?_ | refine blk_alloc ?_ _)); exact BK662.out) hkp (fun hs_ => Or.elim hs_ (fun e_ => (fun e_ => (Kd.R_ne HO_663001.out BK662.out (by decide)) e_) e_) (fun e_ => (fun e_ => (Kd.R_ne HO_663002.out BK662.out (by decide)) e_) e_))); have n10_ := Aside0.mk (hb); clear HO_646001; clear HO_646002; clear HO_654001; clear HO_654002; clear HO_663001; clear HO_663002; clear BK628; clear BK645; clear BK653; clear BK662; clear HB; have HO_646001 := n0_; have HO_646002 := n1_; have HO_654001 := n2_; have HO_654002 := n3_; have HO_663001 := n4_; have HO_663002 := n5_; have BK628 := n6_; have BK645 := n7_; have BK653 := n8_; have BK662 := n9_; have HB := n10_; clear n0_ n1_ n2_ n3_ n4_ n5_ n6_ n7_ n8_ n9_ n10_; (try clear hb); (try clear hkp); (try clear hy0); (try clear hy1); have hcz105_0 : w104.cell? ⟨gb662, 0, none⟩ = some (.int .i64 t654) := (blk_cell BK662.out 0).trans rfl; have hcz105_1 : w104.cell? ⟨gb662, 1, none⟩ = some (.slice Ao37 t655.length co37) := (blk_cell BK662.out 1).trans rfl; have hcz105_2 : w104.cell? ⟨gb662, 2, none⟩ = some (.slice Ao38 t658.length co38) := (blk_cell BK662.out 2).trans rfl; have hfz105_0 := blk_frozen BK662.out 0; have hfz105_1 := blk_frozen BK662.out 1; have hfz105_2 := blk_frozen BK662.out 2) | ((with_reducible refine gate_callee (f := 17) rfl ?_); refine goesL_ (some 67) rfl rfl Try.func17 (by kernel_rfl) rfl #[.agg #[.int .i64 t654, .slice Ao37 t677.length co37, .slice Ao38 t678.length co38], .int .i64 1] rfl (by (try simp only [List.map_toArray, List.map_cons, List.map_nil]); first | done | (rw [show t677.length = t655.length from (Kd.R_reads' HO_663001.out).1.symm, show t678.length = t658.length from (Kd.R_reads' HO_663002.out).1.symm] <;> rfl) | rfl | (simp only [List.length_drop, List.length_take]; rfl)) ?_; (with_reducible refine (laws_heldEpochs.calls kj61 t654 _ _ t677 _ _ t678 1 t679 _ ?side1 ?side2 ?side3 ?side4 A94.out).mono ?_); (case side1 => repeat (first | exact (Kd.R_reads' HO_663001.out).2.2 | (with_reducible refine Kd.C_alloc ?_ _) | (with_reducible refine Kd.C_drewN ?_ _) | (with_reducible refine Kd.C_drew ?_))); (case side2 => rw [show t677.length = t655.length from (Kd.R_reads' HO_663001.out).1.symm]; exact (Kd.R_reads' HO_663001.out).2.1); (case side3 => repeat (first | exact (Kd.R_reads' HO_663002.out).2.2 | (with_reducible refine Kd.C_alloc ?_ _) | (with_reducible refine Kd.C_drewN ?_ _) | (with_reducible refine Kd.C_drew ?_))); (case side4 => rw [show t678.length = t658.length from (Kd.R_reads' HO_663002.out).1.symm]; exact (Kd.R_reads' HO_663002.out).2.1); rintro e w106 ⟨rfl, hb⟩; refine ⟨_, rfl, ?_⟩; have n0_ := Aside0.mk (Kd.R_below (by (with_reducible repeat (first | apply Kd.R_alloc | apply Kd.R_drewN | apply Kd.R_drew)); exact HO_646001.out) hb); have n1_ := Aside0.mk (Kd.R_below (by (with_reducible repeat (first | apply Kd.R_alloc | apply Kd.R_drewN | apply Kd.R_drew)); exact HO_646002.out) hb); have n2_ := Aside0.mk (Kd.R_below (by (with_reducible repeat (first | apply Kd.R_alloc | apply Kd.R_drewN | apply Kd.R_drew)); exact HO_654001.out) hb); have n3_ := Aside0.mk (Kd.R_below (by (with_reducible repeat (first | apply Kd.R_alloc | apply Kd.R_drewN | apply Kd.R_drew)); exact HO_654002.out) hb); have n4_ := Aside0.mk (Kd.R_below (by (with_reducible repeat (first | apply Kd.R_alloc | apply Kd.R_drewN | apply Kd.R_drew)); exact HO_663001.out) hb); have n5_ := Aside0.mk (Kd.R_below (by (with_reducible repeat (first | apply Kd.R_alloc | apply Kd.R_drewN | apply Kd.R_drew)); exact HO_663002.out) hb); have n6_ := Aside0.mk (blk_below (g := gb628) (o := .cells #[.int .i64 a0_0, .slice A0_1 l0_1.length c0_1, .slice A0_2 l0_2.length c0_2] 32 (0, 0)) (by (with_reducible repeat (first | refine blk_drewN ?_ _ | refine blk_drew ?_ | refine blk_alloc ?_ _)); exact BK628.out) hb); have n7_ := Aside0.mk (blk_below (g := gb645) (o := .cells #[.int .i64 t637, .slice Ao21 t638.length co21, .slice Ao22 t641.length co22] 25 (0, 0)) (by (with_reducible repeat (first | refine blk_drewN ?_ _ | refine blk_drew ?_ | refine blk_alloc ?_ _)); exact BK645.out) hb); have n8_ := Aside0.mk (blk_below (g := gb653) (o := .cells #[.int .i64 t646, .slice Ao29 t673.length co29, .slice Ao30 t674.length co30] 25 (0, 0)) (by (with_reducible repeat (first | refine blk_drewN ?_ _ | refine blk_drew ?_ | refine blk_alloc ?_ _)); exact BK653.out) hb); have n9_ := Aside0.mk (blk_below (g := gb662) (o := .cells #[.int .i64 t654, .slice Ao37 t655.length co37, .slice Ao38 t658.length co38] 25 (0, 0)) (by (with_reducible repeat (first | refine blk_drewN ?_ _ | refine blk_drew ?_ | refine blk_alloc ?_ _)); exact BK662.out) hb); have n10_ := Aside0.mk (below_step (by repeat (first | (with_reducible first | exact HB.out | apply below_alloc | apply pw_below_drewN | apply below_drew1 | refine below_set ?_ GE628.out | refine below_set ?_ GE645.out | refine below_set ?_ GE653.out | refine below_set ?_ GE662.out) | exact HB.out)) hb); clear HO_646001; clear HO_646002; clear HO_654001; clear HO_654002; clear HO_663001; clear HO_663002; clear BK628; clear BK645; clear BK653; clear BK662; clear HB; have HO_646001 := n0_; have HO_646002 := n1_; have HO_654001 := n2_; have HO_654002 := n3_; have HO_663001 := n4_; have HO_663002 := n5_; have BK628 := n6_; have BK645 := n7_; have BK653 := n8_; have BK662 := n9_; have HB := n10_; clear n0_ n1_ n2_ n3_ n4_ n5_ n6_ n7_ n8_ n9_ n10_; (try clear hb); (try clear hb2); (try clear hk); (try clear hi); have hnb107 := NB628_645.out; have hnc107 := NB645_628.out; have hnb108 := NB628_653.out; have hnc108 := NB653_628.out; have hcz109_0 : w106.cell? ⟨gb628, 0, none⟩ = some (.int .i64 a0_0) := (blk_cell BK628.out 0).trans rfl; have hcz109_1 : w106.cell? ⟨gb628, 1, none⟩ = some (.slice A0_1 l0_1.length c0_1) := (blk_cell BK628.out 1).trans rfl; have hcz109_2 : w106.cell? ⟨gb628, 2, none⟩ = some (.slice A0_2 l0_2.length c0_2) := (blk_cell BK628.out 2).trans rfl; have hfz109_0 := blk_frozen BK628.out 0; have hfz109_1 := blk_frozen BK628.out 1; have hfz109_2 := blk_frozen BK628.out 2) | ((with_reducible refine gate_callee (f := 20) rfl ?_); refine goesL_ (some 75) rfl rfl Try.func20 (by kernel_rfl) rfl #[.agg #[.int .i64 a0_0, .slice A0_1 l0_1.length c0_1, .slice A0_2 l0_2.length c0_2]] rfl (by (try simp only [List.map_toArray, List.map_cons, List.map_nil]); first | done | rfl | (simp only [List.length_drop, List.length_take]; rfl)) ?_; (with_reducible refine (laws_toEpochs.calls kj61 a0_0 _ _ l0_1 _ _ l0_2 t680 t681 t684 _ ?side1 ?side2 ?side3 ?side4 A97.out).mono ?_); (case side1 => repeat (first | exact (Kd.C_below HR0_1.out HB.out) | (with_reducible refine Kd.C_alloc ?_ _) | (with_reducible refine Kd.C_drewN ?_ _) | (with_reducible refine Kd.C_drew ?_))); (case side2 => exact HC0_1.out); (case side3 => repeat (first | exact (Kd.C_below HR0_2.out HB.out) | (with_reducible refine Kd.C_alloc ?_ _) | (with_reducible refine Kd.C_drewN ?_ _) | (with_reducible refine Kd.C_drew ?_))); (case side4 => exact HC0_2.out); rintro e w110 ⟨v682, v685, rfl, ho0, ho1, hb⟩; refine ⟨_, rfl, ?_⟩; have n0_ := Aside0.mk (Kd.R_elder' (by (with_reducible repeat (first | apply Kd.R_alloc | apply Kd.R_drewN | apply Kd.R_drew)); exact HO_646001.out) (Kd.R_base ho0) hb); have n1_ := Aside0.mk (Kd.R_elder' (by (with_reducible repeat (first | apply Kd.R_alloc | apply Kd.R_drewN | apply Kd.R_drew)); exact HO_646002.out) (Kd.R_base ho1) hb); have n2_ := Aside0.mk (Kd.R_elder' (by (with_reducible repeat (first | apply Kd.R_alloc | apply Kd.R_drewN | apply Kd.R_drew)); exact HO_654001.out) (Kd.R_base ho0) hb); have n3_ := Aside0.mk (Kd.R_elder' (by (with_reducible repeat (first | apply Kd.R_alloc | apply Kd.R_drewN | apply Kd.R_drew)); exact HO_654002.out) (Kd.R_base ho1) hb); have n4_ := Aside0.mk (Kd.R_elder' (by (with_reducible repeat (first | apply Kd.R_alloc | apply Kd.R_drewN | apply Kd.R_drew)); exact HO_663001.out) (Kd.R_base ho0) hb); have n5_ := Aside0.mk (Kd.R_elder' (by (with_reducible repeat (first | apply Kd.R_alloc | apply Kd.R_drewN | apply Kd.R_drew)); exact HO_663002.out) (Kd.R_base ho1) hb); have n6_ := Aside0.mk (Kd.R_lower (Kd.R_new' (Kd.R_new' (Kd.R_new' ho0 (Kd.R_lt (by (with_reducible repeat (first | apply Kd.R_alloc | apply Kd.R_drewN | apply Kd.R_drew)); exact HO_646001.out))) (Kd.R_lt (by (with_reducible repeat (first | apply Kd.R_alloc | apply Kd.R_drewN | apply Kd.R_drew)); exact HO_654001.out))) (Kd.R_lt (by (with_reducible repeat (first | apply Kd.R_alloc | apply Kd.R_drewN | apply Kd.R_drew)); exact HO_663001.out))) (below_size (by repeat (first | (with_reducible first | exact HB.out | apply below_alloc | apply pw_below_drewN | apply below_drew1 | refine below_set ?_ GE628.out | refine below_set ?_ GE645.out | refine below_set ?_ GE653.out | refine below_set ?_ GE662.out) | exact HB.out)))); have n7_ := Aside0.mk (Kd.R_lower (Kd.R_new' (Kd.R_new' (Kd.R_new' ho1 (Kd.R_lt (by (with_reducible repeat (first | apply Kd.R_alloc | apply Kd.R_drewN | apply Kd.R_drew)); exact HO_646002.out))) (Kd.R_lt (by (with_reducible repeat (first | apply Kd.R_alloc | apply Kd.R_drewN | apply Kd.R_drew)); exact HO_654002.out))) (Kd.R_lt (by (with_reducible repeat (first | apply Kd.R_alloc | apply Kd.R_drewN | apply Kd.R_drew)); exact HO_663002.out))) (below_size (by repeat (first | (with_reducible first | exact HB.out | apply below_alloc | apply pw_below_drewN | apply below_drew1 | refine below_set ?_ GE628.out | refine below_set ?_ GE645.out | refine below_set ?_ GE653.out | refine below_set ?_ GE662.out) | exact HB.out)))); have n8_ := Aside0.mk (blk_below (g := gb628) (o := .cells #[.int .i64 a0_0, .slice A0_1 l0_1.length c0_1, .slice A0_2 l0_2.length c0_2] 32 (0, 0)) (by (with_reducible repeat (first | refine blk_drewN ?_ _ | refine blk_drew ?_ | refine blk_alloc ?_ _)); exact BK628.out) hb); have n9_ := Aside0.mk (blk_below (g := gb645) (o := .cells #[.int .i64 t637, .slice Ao21 t638.length co21, .slice Ao22 t641.length co22] 25 (0, 0)) (by (with_reducible repeat (first | refine blk_drewN ?_ _ | refine blk_drew ?_ | refine blk_alloc ?_ _)); exact BK645.out) hb); have n10_ := Aside0.mk (blk_below (g := gb653) (o := .cells #[.int .i64 t646, .slice Ao29 t673.length co29, .slice Ao30 t674.length co30] 25 (0, 0)) (by (with_reducible repeat (first | refine blk_drewN ?_ _ | refine blk_drew ?_ | refine blk_alloc ?_ _)); exact BK653.out) hb); have n11_ := Aside0.mk (blk_below (g := gb662) (o := .cells #[.int .i64 t654, .slice Ao37 t655.length co37, .slice Ao38 t658.length co38] 25 (0, 0)) (by (with_reducible repeat (first | refine blk_drewN ?_ _ | refine blk_drew ?_ | refine blk_alloc ?_ _)); exact BK662.out) hb); have n12_ := Aside0.mk (below_step (by repeat (first | (with_reducible first | exact HB.out | apply below_alloc | apply pw_below_drewN | apply below_drew1 | refine below_set ?_ GE628.out | refine below_set ?_ GE645.out | refine below_set ?_ GE653.out | refine below_set ?_ GE662.out) | exact HB.out)) hb); clear HO_646001; clear HO_646002; clear HO_654001; clear HO_654002; clear HO_663001; clear HO_663002; clear BK628; clear BK645; clear BK653; clear BK662; clear HB; have HO_646001 := n0_; have HO_646002 := n1_; have HO_654001 := n2_; have HO_654002 := n3_; have HO_663001 := n4_; have HO_663002 := n5_; have HO683 := n6_; have HO686 := n7_; have BK628 := n8_; have BK645 := n9_; have BK653 := n10_; have BK662 := n11_; have HB := n12_; clear n0_ n1_ n2_ n3_ n4_ n5_ n6_ n7_ n8_ n9_ n10_ n11_ n12_; (try clear hb); (try clear hb2); (try clear hk); (try clear hi); (try clear ho0); (try clear ho1); obtain ⟨Ao111, co111, eo111⟩ := Kd.R_slice HO683.out; subst eo111; obtain ⟨Ao112, co112, eo112⟩ := Kd.R_slice HO686.out; subst eo112) | ((with_reducible refine gate_callee (f := 32) rfl ?_); refine goesL_ (some 76) rfl rfl Try.func32 (by kernel_rfl) rfl #[.agg #[.int .i64 t680, .slice Ao111 t681.length co111, .slice Ao112 t684.length co112]] rfl (by (try simp only [List.map_toArray, List.map_cons, List.map_nil]); first | done | rfl | (simp only [List.length_drop, List.length_take]; rfl)) ?_; (with_reducible refine (impl_AdvanceEpoch.calls kj61 t680 _ _ t681 _ _ t684 t687 t688 t691 t694 _ ?side1 ?side2 ?side3 ?side4 A98.out).mono ?_); (case side1 => repeat (first | exact (Kd.R_reads' HO683.out).2.2 | (with_reducible refine Kd.C_alloc ?_ _) | (with_reducible refine Kd.C_drewN ?_ _) | (with_reducible refine Kd.C_drew ?_))); (case side2 => exact (Kd.R_reads' HO683.out).2.1); (case side3 => repeat (first | exact (Kd.R_reads' HO686.out).2.2 | (with_reducible refine Kd.C_alloc ?_ _) | (with_reducible refine Kd.C_drewN ?_ _) | (with_reducible refine Kd.C_drew ?_))); (case side4 => exact (Kd.R_reads' HO686.out).2.1); rintro e w113 ⟨v689, v692, rfl, ho0, ho1, hb⟩; refine ⟨_, rfl, ?_⟩; have n0_ := Aside0.mk (Kd.R_elder' (by (with_reducible repeat (first | apply Kd.R_alloc | apply Kd.R_drewN | apply Kd.R_drew)); exact HO_646001.out) (Kd.R_base ho0) hb); have n1_ := Aside0.mk (Kd.R_elder' (by (with_reducible repeat (first | apply Kd.R_alloc | apply Kd.R_drewN | apply Kd.R_drew)); exact HO_646002.out) (Kd.R_base ho1) hb); have n2_ := Aside0.mk (Kd.R_elder' (by (with_reducible repeat (first | apply Kd.R_alloc | apply Kd.R_drewN | apply Kd.R_drew)); exact HO_654001.out) (Kd.R_base ho0) hb); have n3_ := Aside0.mk (Kd.R_elder' (by (with_reducible repeat (first | apply Kd.R_alloc | apply Kd.R_drewN | apply Kd.R_drew)); exact HO_654002.out) (Kd.R_base ho1) hb); have n4_ := Aside0.mk (Kd.R_elder' (by (with_reducible repeat (first | apply Kd.R_alloc | apply Kd.R_drewN | apply Kd.R_drew)); exact HO_663001.out) (Kd.R_base ho0) hb); have n5_ := Aside0.mk (Kd.R_elder' (by (with_reducible repeat (first | apply Kd.R_alloc | apply Kd.R_drewN | apply Kd.R_drew)); exact HO_663002.out) (Kd.R_base ho1) hb); have n6_ := Aside0.mk (Kd.R_elder' (by (with_reducible repeat (first | apply Kd.R_alloc | apply Kd.R_drewN | apply Kd.R_drew)); exact HO683.out) (Kd.R_base ho0) hb); have n7_ := Aside0.mk (Kd.R_elder' (by (with_reducible repeat (first | apply Kd.R_alloc | apply Kd.R_drewN | apply Kd.R_drew)); exact HO686.out) (Kd.R_base ho1) hb); have n8_ := Aside0.mk (Kd.R_lower (Kd.R_new' (Kd.R_new' (Kd.R_new' (Kd.R_new' ho0 (Kd.R_lt (by (with_reducible repeat (first | apply Kd.R_alloc | apply Kd.R_drewN | apply Kd.R_drew)); exact HO_646001.out))) (Kd.R_lt (by (with_reducible repeat (first | apply Kd.R_alloc | apply Kd.R_drewN | apply Kd.R_drew)); exact HO_654001.out))) (Kd.R_lt (by (with_reducible repeat (first | apply Kd.R_alloc | apply Kd.R_drewN | apply Kd.R_drew)); exact HO_663001.out))) (Kd.R_lt (by (with_reducible repeat (first | apply Kd.R_alloc | apply Kd.R_drewN | apply Kd.R_drew)); exact HO683.out))) (below_size (by repeat (first | (with_reducible first | exact HB.out | apply below_alloc | apply pw_below_drewN | apply below_drew1 | refine below_set ?_ GE628.out | refine below_set ?_ GE645.out | refine below_set ?_ GE653.out | refine below_set ?_ GE662.out) | exact HB.out)))); have n9_ := Aside0.mk (Kd.R_lower (Kd.R_new' (Kd.R_new' (Kd.R_new' (Kd.R_new' ho1 (Kd.R_lt (by (with_reducible repeat (first | apply Kd.R_alloc | apply Kd.R_drewN | apply Kd.R_drew)); exact HO_646002.out))) (Kd.R_lt (by (with_reducible repeat (first | apply Kd.R_alloc | apply Kd.R_drewN | apply Kd.R_drew)); exact HO_654002.out))) (Kd.R_lt (by (with_reducible repeat (first | apply Kd.R_alloc | apply Kd.R_drewN | apply Kd.R_drew)); exact HO_663002.out))) (Kd.R_lt (by (with_reducible repeat (first | apply Kd.R_alloc | apply Kd.R_drewN | apply Kd.R_drew)); exact HO686.out))) (below_size (by repeat (first | (with_reducible first | exact HB.out | apply below_alloc | apply pw_below_drewN | apply below_drew1 | refine below_set ?_ GE628.out | refine below_set ?_ GE645.out | refine below_set ?_ GE653.out | refine below_set ?_ GE662.out) | exact HB.out)))); have n10_ := Aside0.mk (blk_below (g := gb628) (o := .cells #[.int .i64 a0_0, .slice A0_1 l0_1.length c0_1, .slice A0_2 l0_2.length c0_2] 32 (0, 0)) (by (with_reducible repeat (first | refine blk_drewN ?_ _ | refine blk_drew ?_ | refine blk_alloc ?_ _)); exact BK628.out) hb); have n11_ := Aside0.mk (blk_below (g := gb645) (o := .cells #[.int .i64 t637, .slice Ao21 t638.length co21, .slice Ao22 t641.length co22] 25 (0, 0)) (by (with_reducible repeat (first | refine blk_drewN ?_ _ | refine blk_drew ?_ | refine blk_alloc ?_ _)); exact BK645.out) hb); have n12_ := Aside0.mk (blk_below (g := gb653) (o := .cells #[.int .i64 t646, .slice Ao29 t673.length co29, .slice Ao30 t674.length co30] 25 (0, 0)) (by (with_reducible repeat (first | refine blk_drewN ?_ _ | refine blk_drew ?_ | refine blk_alloc ?_ _)); exact BK653.out) hb); have n13_ := Aside0.mk (blk_below (g := gb662) (o := .cells #[.int .i64 t654, .slice Ao37 t655.length co37, .slice Ao38 t658.length co38] 25 (0, 0)) (by (with_reducible repeat (first | refine blk_drewN ?_ _ | refine blk_drew ?_ | refine blk_alloc ?_ _)); exact BK662.out) hb); have n14_ := Aside0.mk (below_step (by repeat (first | (with_reducible first | exact HB.out | apply below_alloc | apply pw_below_drewN | apply below_drew1 | refine below_set ?_ GE628.out | refine below_set ?_ GE645.out | refine below_set ?_ GE653.out | refine below_set ?_ GE662.out) | exact HB.out)) hb); clear HO_646001; clear HO_646002; clear HO_654001; clear HO_654002; clear HO_663001; clear HO_663002; clear HO683; clear HO686; clear BK628; clear BK645; clear BK653; clear BK662; clear HB; have HO_646001 := n0_; have HO_646002 := n1_; have HO_654001 := n2_; have HO_654002 := n3_; have HO_663001 := n4_; have HO_663002 := n5_; have HO683 := n6_; have HO686 := n7_; have HO690 := n8_; have HO693 := n9_; have BK628 := n10_; have BK645 := n11_; have BK653 := n12_; have BK662 := n13_; have HB := n14_; clear n0_ n1_ n2_ n3_ n4_ n5_ n6_ n7_ n8_ n9_ n10_ n11_ n12_ n13_ n14_; (try clear hb); (try clear hb2); (try clear hk); (try clear hi); (try clear ho0); (try clear ho1)) | ((with_reducible refine gate_dst (N := 12) rfl ?_); refine box_event ?hg (N := 12) ?hd (cs := #[.int .i64 0, .slice none 0 0, .slice none 0 0]) (t := 25) ?hr ?_; (case hd => rfl); (case hg => rfl); (case hr => first | (go_simp; done) | (go_simp; rfl)); intro gb695 hg w114 hbox hb; have n0_ := Aside0.mk (Kd.R_below (by (with_reducible repeat (first | apply Kd.R_alloc | apply Kd.R_drewN | apply Kd.R_drew)); exact HO_646001.out) hb); have n1_ := Aside0.mk (Kd.R_below (by (with_reducible repeat (first | apply Kd.R_alloc | apply Kd.R_drewN | apply Kd.R_drew)); exact HO_646002.out) hb); have n2_ := Aside0.mk (Kd.R_below (by (with_reducible repeat (first | apply Kd.R_alloc | apply Kd.R_drewN | apply Kd.R_drew)); exact HO_654001.out) hb); have n3_ := Aside0.mk (Kd.R_below (by (with_reducible repeat (first | apply Kd.R_alloc | apply Kd.R_drewN | apply Kd.R_drew)); exact HO_654002.out) hb); have n4_ := Aside0.mk (Kd.R_below (by (with_reducible repeat (first | apply Kd.R_alloc | apply Kd.R_drewN | apply Kd.R_drew)); exact HO_663001.out) hb); have n5_ := Aside0.mk (Kd.R_below (by (with_reducible repeat (first | apply Kd.R_alloc | apply Kd.R_drewN | apply Kd.R_drew)); exact HO_663002.out) hb); have n6_ := Aside0.mk (Kd.R_below (by (with_reducible repeat (first | apply Kd.R_alloc | apply Kd.R_drewN | apply Kd.R_drew)); exact HO683.out) hb); have n7_ := Aside0.mk (Kd.R_below (by (with_reducible repeat (first | apply Kd.R_alloc | apply Kd.R_drewN | apply Kd.R_drew)); exact HO686.out) hb); have n8_ := Aside0.mk (Kd.R_below (by (with_reducible repeat (first | apply Kd.R_alloc | apply Kd.R_drewN | apply Kd.R_drew)); exact HO690.out) hb); have n9_ := Aside0.mk (Kd.R_below (by (with_reducible repeat (first | apply Kd.R_alloc | apply Kd.R_drewN | apply Kd.R_drew)); exact HO693.out) hb); have n10_ := Aside0.mk (blk_below (g := gb628) (o := .cells #[.int .i64 a0_0, .slice A0_1 l0_1.length c0_1, .slice A0_2 l0_2.length c0_2] 32 (0, 0)) (by (with_reducible repeat (first | refine blk_drewN ?_ _ | refine blk_drew ?_ | refine blk_alloc ?_ _)); exact BK628.out) hb); have n11_ := Aside0.mk (blk_below (g := gb645) (o := .cells #[.int .i64 t637, .slice Ao21 t638.length co21, .slice Ao22 t641.length co22] 25 (0, 0)) (by (with_reducible repeat (first | refine blk_drewN ?_ _ | refine blk_drew ?_ | refine blk_alloc ?_ _)); exact BK645.out) hb); have n12_ := Aside0.mk (blk_below (g := gb653) (o := .cells #[.int .i64 t646, .slice Ao29 t673.length co29, .slice Ao30 t674.length co30] 25 (0, 0)) (by (with_reducible repeat (first | refine blk_drewN ?_ _ | refine blk_drew ?_ | refine blk_alloc ?_ _)); exact BK653.out) hb); have n13_ := Aside0.mk (blk_below (g := gb662) (o := .cells #[.int .i64 t654, .slice Ao37 t655.length co37, .slice Ao38 t658.length co38] 25 (0, 0)) (by (with_reducible repeat (first | refine blk_drewN ?_ _ | refine blk_drew ?_ | refine blk_alloc ?_ _)); exact BK662.out) hb); have n14_ := Aside0.mk (below_step (by repeat (first | (with_reducible first | exact HB.out | apply below_alloc | apply pw_below_drewN | apply below_drew1 | refine below_set ?_ GE628.out | refine below_set ?_ GE645.out | refine below_set ?_ GE653.out | refine below_set ?_ GE662.out) | exact HB.out)) hb); have n15_ := Aside0.mk (hbox); have n16_ := Aside0.mk ((by rw [hg]; exact (below_size (by repeat (first | (with_reducible first | exact HB.out | apply below_alloc | apply pw_below_drewN | apply below_drew1 | refine below_set ?_ GE628.out | refine below_set ?_ GE645.out | refine below_set ?_ GE653.out | refine below_set ?_ GE662.out) | exact HB.out))) : w.heap.size ≤ gb695)); have n17_ := Aside0.mk ((by rw [hg]; exact (below_size (by repeat (first | (with_reducible first | exact HB.out | apply below_alloc | apply pw_below_drewN | apply below_drew1 | refine below_set ?_ GE628.out | refine below_set ?_ GE645.out | refine below_set ?_ GE653.out | refine below_set ?_ GE662.out) | exact HB.out))) : w.heap.size ≤ gb695)); have n18_ := Aside0.mk ((by rw [hg]; exact Nat.ne_of_lt (blk_lt (g := gb628) (o := .cells #[.int .i64 a0_0, .slice A0_1 l0_1.length c0_1, .slice A0_2 l0_2.length c0_2] 32 (0, 0)) (by (with_reducible repeat (first | refine blk_drewN ?_ _ | refine blk_drew ?_ | refine blk_alloc ?_ _)); exact BK628.out)) : gb628 ≠ gb695)); have n19_ := Aside0.mk ((by rw [hg]; exact Nat.ne_of_gt (blk_lt (g := gb628) (o := .cells #[.int .i64 a0_0, .slice A0_1 l0_1.length c0_1, .slice A0_2 l0_2.length c0_2] 32 (0, 0)) (by (with_reducible repeat (first | refine blk_drewN ?_ _ | refine blk_drew ?_ | refine blk_alloc ?_ _)); exact BK628.out)) : gb695 ≠ gb628)); have n20_ := Aside0.mk ((by rw [hg]; exact Nat.ne_of_lt (blk_lt (g := gb645) (o := .cells #[.int .i64 t637, .slice Ao21 t638.length co21, .slice Ao22 t641.length co22] 25 (0, 0)) (by (with_reducible repeat (first | refine blk_drewN ?_ _ | refine blk_drew ?_ | refine blk_alloc ?_ _)); exact BK645.out)) : gb645 ≠ gb695)); have n21_ := Aside0.mk ((by rw [hg]; exact Nat.ne_of_gt (blk_lt (g := gb645) (o := .cells #[.int .i64 t637, .slice Ao21 t638.length co21, .slice Ao22 t641.length co22] 25 (0, 0)) (by (with_reducible repeat (first | refine blk_drewN ?_ _ | refine blk_drew ?_ | refine blk_alloc ?_ _)); exact BK645.out)) : gb695 ≠ gb645)); have n22_ := Aside0.mk ((by rw [hg]; exact Nat.ne_of_lt (blk_lt (g := gb653) (o := .cells #[.int .i64 t646, .slice Ao29 t673.length co29, .slice Ao30 t674.length co30] 25 (0, 0)) (by (with_reducible repeat (first | refine blk_drewN ?_ _ | refine blk_drew ?_ | refine blk_alloc ?_ _)); exact BK653.out)) : gb653 ≠ gb695)); have n23_ := Aside0.mk ((by rw [hg]; exact Nat.ne_of_gt (blk_lt (g := gb653) (o := .cells #[.int .i64 t646, .slice Ao29 t673.length co29, .slice Ao30 t674.length co30] 25 (0, 0)) (by (with_reducible repeat (first | refine blk_drewN ?_ _ | refine blk_drew ?_ | refine blk_alloc ?_ _)); exact BK653.out)) : gb695 ≠ gb653)); have n24_ := Aside0.mk ((by rw [hg]; exact Nat.ne_of_lt (blk_lt (g := gb662) (o := .cells #[.int .i64 t654, .slice Ao37 t655.length co37, .slice Ao38 t658.length co38] 25 (0, 0)) (by (with_reducible repeat (first | refine blk_drewN ?_ _ | refine blk_drew ?_ | refine blk_alloc ?_ _)); exact BK662.out)) : gb662 ≠ gb695)); have n25_ := Aside0.mk ((by rw [hg]; exact Nat.ne_of_gt (blk_lt (g := gb662) (o := .cells #[.int .i64 t654, .slice Ao37 t655.length co37, .slice Ao38 t658.length co38] 25 (0, 0)) (by (with_reducible repeat (first | refine blk_drewN ?_ _ | refine blk_drew ?_ | refine blk_alloc ?_ _)); exact BK662.out)) : gb695 ≠ gb662)); clear HO_646001; clear HO_646002; clear HO_654001; clear HO_654002; clear HO_663001; clear HO_663002; clear HO683; clear HO686; clear HO690; clear HO693; clear BK628; clear BK645; clear BK653; clear BK662; clear HB; have HO_646001 := n0_; have HO_646002 := n1_; have HO_654001 := n2_; have HO_654002 := n3_; have HO_663001 := n4_; have HO_663002 := n5_; have HO683 := n6_; have HO686 := n7_; have HO690 := n8_; have HO693 := n9_; have BK628 := n10_; have BK645 := n11_; have BK653 := n12_; have BK662 := n13_; have HB := n14_; have BK695 := n15_; have GW695 := n16_; have GE695 := n17_; have NB628_695 := n18_; have NB695_628 := n19_; have NB645_695 := n20_; have NB695_645 := n21_; have NB653_695 := n22_; have NB695_653 := n23_; have NB662_695 := n24_; have NB695_662 := n25_; clear n0_ n1_ n2_ n3_ n4_ n5_ n6_ n7_ n8_ n9_ n10_ n11_ n12_ n13_ n14_ n15_ n16_ n17_ n18_ n19_ n20_ n21_ n22_ n23_ n24_ n25_; clear hb hbox hg; have hnb115 := NB695_628.out; have hnc115 := NB628_695.out; have hnb116 := NB695_645.out; have hnc116 := NB645_695.out; have hnb117 := NB695_653.out; have hnc117 := NB653_695.out; have hnb118 := NB695_662.out; have hnc118 := NB662_695.out; have hcz119_0 : w114.cell? ⟨gb695, 0, none⟩ = some (.int .i64 0) := (blk_cell BK695.out 0).trans rfl; have hcz119_1 : w114.cell? ⟨gb695, 1, none⟩ = some (.slice none 0 0) := (blk_cell BK695.out 1).trans rfl; have hcz119_2 : w114.cell? ⟨gb695, 2, none⟩ = some (.slice none 0 0) := (blk_cell BK695.out 2).trans rfl; have hfz119_0 := blk_frozen BK695.out 0; have hfz119_1 := blk_frozen BK695.out 1; have hfz119_2 := blk_frozen BK695.out 2; obtain ⟨Ao120, co120, eo120⟩ := Kd.R_slice HO690.out; subst eo120; obtain ⟨Ao121, co121, eo121⟩ := Kd.R_slice HO693.out; subst eo121))
                      (try simp only [Act.put, List.setIfInBounds_toArray, List.set_cons_zero, List.set_cons_succ])
                      go_cut [87] (fun v87 wc => ∃ (kq : Nat) (x87_98 : Bool), v87 = .bool x87_98 ∧ Aside0 (laws_FnExactAdvanceEpoch.j2 kq t676 x87_98 t654 t677 t678 = some r) ∧ Aside0 (kq ≤ kj61) ∧ Aside0 (Kd.R (Kd.int .i64) 3 wc w.heap.size (fun k_ => some k_ ≠ ((.slice Ao29 t673.length co29) : Value).ownBlock ∧ some k_ ≠ ((.slice Ao37 t655.length co37) : Value).ownBlock ∧ some k_ ≠ ((.slice Ao120 t688.length co120) : Value).ownBlock) (.slice Ao21 t638.length co21) t638) ∧ Aside0 (Kd.R k57 57 wc w.heap.size (fun k_ => some k_ ≠ ((.slice Ao30 t674.length co30) : Value).ownBlock ∧ some k_ ≠ ((.slice Ao38 t658.length co38) : Value).ownBlock ∧ some k_ ≠ ((.slice Ao121 t691.length co121) : Value).ownBlock) (.slice Ao22 t641.length co22) t641) ∧ Aside0 (Kd.R (Kd.int .i64) 3 wc w.heap.size (fun k_ => some k_ ≠ ((.slice Ao21 t638.length co21) : Value).ownBlock ∧ some k_ ≠ ((.slice Ao37 t655.length co37) : Value).ownBlock ∧ some k_ ≠ ((.slice Ao120 t688.length co120) : Value).ownBlock) (.slice Ao29 t673.length co29) t673) ∧ Aside0 (Kd.R k57 57 wc w.heap.size (fun k_ => some k_ ≠ ((.slice Ao22 t641.length co22) : Value).ownBlock ∧ some k_ ≠ ((.slice Ao38 t658.length co38) : Value).ownBlock ∧ some k_ ≠ ((.slice Ao121 t691.length co121) : Value).ownBlock) (.slice Ao30 t674.length co30) t674) ∧ Aside0 (Kd.R (Kd.int .i64) 3 wc w.heap.size (fun k_ => some k_ ≠ ((.slice Ao21 t638.length co21) : Value).ownBlock ∧ some k_ ≠ ((.slice Ao29 t673.length co29) : Value).ownBlock ∧ some k_ ≠ ((.slice Ao120 t688.length co120) : Value).ownBlock) (.slice Ao37 t655.length co37) t677) ∧ Aside0 (Kd.R k57 57 wc w.heap.size (fun k_ => some k_ ≠ ((.slice Ao22 t641.length co22) : Value).ownBlock ∧ some k_ ≠ ((.slice Ao30 t674.length co30) : Value).ownBlock ∧ some k_ ≠ ((.slice Ao121 t691.length co121) : Value).ownBlock) (.slice Ao38 t658.length co38) t678) ∧ Aside0 (Kd.R (Kd.int .i64) 3 wc w.heap.size (fun k_ => some k_ ≠ ((.slice Ao21 t638.length co21) : Value).ownBlock ∧ some k_ ≠ ((.slice Ao29 t673.length co29) : Value).ownBlock ∧ some k_ ≠ ((.slice Ao37 t655.length co37) : Value).ownBlock) (.slice Ao120 t688.length co120) t688) ∧ Aside0 (Kd.R k57 57 wc w.heap.size (fun k_ => some k_ ≠ ((.slice Ao22 t641.length co22) : Value).ownBlock ∧ some k_ ≠ ((.slice Ao30 t674.length co30) : Value).ownBlock ∧ some k_ ≠ ((.slice Ao38 t658.length co38) : Value).ownBlock) (.slice Ao121 t691.length co121) t691) ∧ Aside0 (wc.heap[gb628]? = some (.cells #[.int .i64 a0_0, (.slice A0_1 l0_1.length c0_1), (.slice A0_2 l0_2.length c0_2)] 32 (0, 0))) ∧ Aside0 (wc.heap[gb645]? = some (.cells #[.int .i64 t637, (.slice Ao21 t638.length co21), (.slice Ao22 t641.length co22)] 25 (0, 0))) ∧ Aside0 (wc.heap[gb653]? = some (.cells #[.int .i64 t646, (.slice Ao29 t673.length co29), (.slice Ao30 t674.length co30)] 25 (0, 0))) ∧ Aside0 (wc.heap[gb662]? = some (.cells #[.int .i64 t654, (.slice Ao37 t655.length co37), (.slice Ao38 t658.length co38)] 25 (0, 0))) ∧ Aside0 (wc.heap[gb695]? = some (.cells #[.int .i64 t687, (.slice Ao120 t688.length co120), (.slice Ao121 t691.length co121)] 25 (0, 0))) ∧ Aside0 (Below w.heap.size w wc))
                      case first =>
                        have H := HC99.out
                        clear HC99
                        replace H := Option.bind_eq_some_iff.mp H
                        obtain ⟨t696, A1220, H⟩ := H
                        replace H : (if t696 = true then (laws_FnExactAdvanceEpoch.j2 kj61 t676 (t694 != t644) t654 t677 t678) else (laws_FnExactAdvanceEpoch.j2 kj61 t676 true t654 t677 t678)) = some r := H
                        have A122 := Aside0.mk A1220
                        clear A1220
                        by_cases c123 : t696 = true
                        · subst c123
                          have H1 : (laws_FnExactAdvanceEpoch.j2 kj61 t676 (t694 != t644) t654 t677 t678) = some r := by rw [if_pos rfl] at H; exact H
                          clear H
                          have H := H1
                          clear H1
                          have H' := Aside0.mk H
                          clear H
                          have hnb124 := NB695_628.out
                          have hnc124 := NB628_695.out
                          have hnb125 := NB695_645.out
                          have hnc125 := NB645_695.out
                          have hnb126 := NB695_653.out
                          have hnc126 := NB653_695.out
                          have hnb127 := NB695_662.out
                          have hnc127 := NB662_695.out
                          have hcz128_0 : w114.cell? ⟨gb695, 0, none⟩ = some (.int .i64 0) := (blk_cell BK695.out 0).trans rfl
                          have hcz128_1 : w114.cell? ⟨gb695, 1, none⟩ = some (.slice none 0 0) := (blk_cell BK695.out 1).trans rfl
                          have hcz128_2 : w114.cell? ⟨gb695, 2, none⟩ = some (.slice none 0 0) := (blk_cell BK695.out 2).trans rfl
                          have hfz128_0 := blk_frozen BK695.out 0
                          have hfz128_1 := blk_frozen BK695.out 1
                          have hfz128_2 := blk_frozen BK695.out 2
                          have hnb129 := NB645_628.out
                          have hnc129 := NB628_645.out
                          have hnb130 := NB645_653.out
                          have hnc130 := NB653_645.out
                          have hnb131 := NB645_662.out
                          have hnc131 := NB662_645.out
                          have hcz132_0 : w114.cell? ⟨gb645, 0, none⟩ = some (.int .i64 t637) := (blk_cell BK645.out 0).trans rfl
                          have hcz132_1 : w114.cell? ⟨gb645, 1, none⟩ = some (.slice Ao21 t638.length co21) := (blk_cell BK645.out 1).trans rfl
                          have hcz132_2 : w114.cell? ⟨gb645, 2, none⟩ = some (.slice Ao22 t641.length co22) := (blk_cell BK645.out 2).trans rfl
                          have hfz132_0 := blk_frozen BK645.out 0
                          have hfz132_1 := blk_frozen BK645.out 1
                          have hfz132_2 := blk_frozen BK645.out 2
                          go_wp2_with (first | ((with_reducible refine gate_callee (f := 15) rfl ?_); refine goesL_ (some 81) rfl rfl Try.func15 (by kernel_rfl) rfl #[.agg #[.int .i64 t687, .slice Ao120 t688.length co120, .slice Ao121 t691.length co121], .agg #[.int .i64 t637, .slice Ao21 t638.length co21, .slice Ao22 t641.length co22]] rfl (by (try simp only [List.map_toArray, List.map_cons, List.map_nil]); first | done | rfl | (simp only [List.length_drop, List.length_take]; rfl)) ?_; (with_reducible refine (laws_eqEpochs.calls kj61 t687 _ _ t688 _ _ t691 t637 _ _ t638 _ _ t641 true _ ?side1 ?side2 ?side3 ?side4 ?side5 ?side6 ?side7 ?side8 A122.out).mono ?_); (case side1 => refine (Kd.R_reads' (e := 3) (base := w.heap.size) (ok := fun k_ => ((((True ∧ some k_ ≠ (.slice Ao21 t638.length co21 : Value).ownBlock) ∧ some k_ ≠ (.slice Ao29 t673.length co29 : Value).ownBlock) ∧ some k_ ≠ (.slice Ao37 t655.length co37 : Value).ownBlock) ∧ some k_ ≠ (.slice Ao111 t681.length co111 : Value).ownBlock)) (n := t688.length) (c := co120) ?_).2.2; exact (by (with_reducible repeat (first | apply Kd.R_alloc | apply Kd.R_drewN | apply Kd.R_drew)); exact (Kd.R_mono (Kd.R_far (p := ⟨gb695, 2, none⟩) (Kd.R_far (p := ⟨gb695, 1, none⟩) (Kd.R_far (p := ⟨gb695, 0, none⟩) (Kd.R_types HO690.out BK695.out (by decide)) (fun _ hk => hk.2) (.int .i64 t687)) (fun _ hk => hk.2) (.slice Ao120 t688.length co120)) (fun _ hk => hk.2) (.slice Ao121 t691.length co121)) (fun _ h_ => h_.1)))); (case side2 => exact (Kd.R_reads' HO690.out).2.1); (case side3 => refine (Kd.R_reads' (e := 57) (base := w.heap.size) (ok := fun k_ => ((((True ∧ some k_ ≠ (.slice Ao22 t641.length co22 : Value).ownBlock) ∧ some k_ ≠ (.slice Ao30 t674.length co30 : Value).ownBlock) ∧ some k_ ≠ (.slice Ao38 t658.length co38 : Value).ownBlock) ∧ some k_ ≠ (.slice Ao112 t684.length co112 : Value).ownBlock)) (n := t691.length) (c := co121) ?_).2.2; exact (by (with_reducible repeat (first | apply Kd.R_alloc | apply Kd.R_drewN | apply Kd.R_drew)); exact (Kd.R_mono (Kd.R_far (p := ⟨gb695, 2, none⟩) (Kd.R_far (p := ⟨gb695, 1, none⟩) (Kd.R_far (p := ⟨gb695, 0, none⟩) (Kd.R_types HO693.out BK695.out (by decide)) (fun _ hk => hk.2) (.int .i64 t687)) (fun _ hk => hk.2) (.slice Ao120 t688.length co120)) (fun _ hk => hk.2) (.slice Ao121 t691.length co121)) (fun _ h_ => h_.1)))); (case side4 => exact (Kd.R_reads' HO693.out).2.1); (case side5 => refine (Kd.R_reads' (e := 3) (base := w.heap.size) (ok := fun k_ => (((some k_ ≠ (.slice Ao29 t673.length co29 : Value).ownBlock ∧ some k_ ≠ (.slice Ao37 t655.length co37 : Value).ownBlock) ∧ some k_ ≠ (.slice Ao111 t681.length co111 : Value).ownBlock) ∧ some k_ ≠ (.slice Ao120 t688.length co120 : Value).ownBlock)) (n := t638.length) (c := co21) ?_).2.2; exact (by (with_reducible repeat (first | apply Kd.R_alloc | apply Kd.R_drewN | apply Kd.R_drew)); exact (Kd.R_mono (Kd.R_far (p := ⟨gb695, 2, none⟩) (Kd.R_far (p := ⟨gb695, 1, none⟩) (Kd.R_far (p := ⟨gb695, 0, none⟩) (Kd.R_types HO_646001.out BK695.out (by decide)) (fun _ hk => hk.2) (.int .i64 t687)) (fun _ hk => hk.2) (.slice Ao120 t688.length co120)) (fun _ hk => hk.2) (.slice Ao121 t691.length co121)) (fun _ h_ => h_.1)))); (case side6 => exact (Kd.R_reads' HO_646001.out).2.1); (case side7 => refine (Kd.R_reads' (e := 57) (base := w.heap.size) (ok := fun k_ => (((some k_ ≠ (.slice Ao30 t674.length co30 : Value).ownBlock ∧ some k_ ≠ (.slice Ao38 t658.length co38 : Value).ownBlock) ∧ some k_ ≠ (.slice Ao112 t684.length co112 : Value).ownBlock) ∧ some k_ ≠ (.slice Ao121 t691.length co121 : Value).ownBlock)) (n := t641.length) (c := co22) ?_).2.2; exact (by (with_reducible repeat (first | apply Kd.R_alloc | apply Kd.R_drewN | apply Kd.R_drew)); exact (Kd.R_mono (Kd.R_far (p := ⟨gb695, 2, none⟩) (Kd.R_far (p := ⟨gb695, 1, none⟩) (Kd.R_far (p := ⟨gb695, 0, none⟩) (Kd.R_types HO_646002.out BK695.out (by decide)) (fun _ hk => hk.2) (.int .i64 t687)) (fun _ hk => hk.2) (.slice Ao120 t688.length co120)) (fun _ hk => hk.2) (.slice Ao121 t691.length co121)) (fun _ h_ => h_.1)))); (case side8 => exact (Kd.R_reads' HO_646002.out).2.1); rintro e w133 ⟨rfl, hb⟩; refine ⟨_, rfl, ?_⟩; have n0_ := Aside0.mk (Kd.R_below (by (with_reducible repeat (first | apply Kd.R_alloc | apply Kd.R_drewN | apply Kd.R_drew)); exact (Kd.R_mono (Kd.R_far (p := ⟨gb695, 2, none⟩) (Kd.R_far (p := ⟨gb695, 1, none⟩) (Kd.R_far (p := ⟨gb695, 0, none⟩) (Kd.R_types HO_646001.out BK695.out (by decide)) (fun _ hk => hk.2) (.int .i64 t687)) (fun _ hk => hk.2) (.slice Ao120 t688.length co120)) (fun _ hk => hk.2) (.slice Ao121 t691.length co121)) (fun _ h_ => h_.1))) hb); have n1_ := Aside0.mk (Kd.R_below (by (with_reducible repeat (first | apply Kd.R_alloc | apply Kd.R_drewN | apply Kd.R_drew)); exact (Kd.R_mono (Kd.R_far (p := ⟨gb695, 2, none⟩) (Kd.R_far (p := ⟨gb695, 1, none⟩) (Kd.R_far (p := ⟨gb695, 0, none⟩) (Kd.R_types HO_646002.out BK695.out (by decide)) (fun _ hk => hk.2) (.int .i64 t687)) (fun _ hk => hk.2) (.slice Ao120 t688.length co120)) (fun _ hk => hk.2) (.slice Ao121 t691.length co121)) (fun _ h_ => h_.1))) hb); have n2_ := Aside0.mk (Kd.R_below (by (with_reducible repeat (first | apply Kd.R_alloc | apply Kd.R_drewN | apply Kd.R_drew)); exact (Kd.R_mono (Kd.R_far (p := ⟨gb695, 2, none⟩) (Kd.R_far (p := ⟨gb695, 1, none⟩) (Kd.R_far (p := ⟨gb695, 0, none⟩) (Kd.R_types HO_654001.out BK695.out (by decide)) (fun _ hk => hk.2) (.int .i64 t687)) (fun _ hk => hk.2) (.slice Ao120 t688.length co120)) (fun _ hk => hk.2) (.slice Ao121 t691.length co121)) (fun _ h_ => h_.1))) hb); have n3_ := Aside0.mk (Kd.R_below (by (with_reducible repeat (first | apply Kd.R_alloc | apply Kd.R_drewN | apply Kd.R_drew)); exact (Kd.R_mono (Kd.R_far (p := ⟨gb695, 2, none⟩) (Kd.R_far (p := ⟨gb695, 1, none⟩) (Kd.R_far (p := ⟨gb695, 0, none⟩) (Kd.R_types HO_654002.out BK695.out (by decide)) (fun _ hk => hk.2) (.int .i64 t687)) (fun _ hk => hk.2) (.slice Ao120 t688.length co120)) (fun _ hk => hk.2) (.slice Ao121 t691.length co121)) (fun _ h_ => h_.1))) hb); have n4_ := Aside0.mk (Kd.R_below (by (with_reducible repeat (first | apply Kd.R_alloc | apply Kd.R_drewN | apply Kd.R_drew)); exact (Kd.R_mono (Kd.R_far (p := ⟨gb695, 2, none⟩) (Kd.R_far (p := ⟨gb695, 1, none⟩) (Kd.R_far (p := ⟨gb695, 0, none⟩) (Kd.R_types HO_663001.out BK695.out (by decide)) (fun _ hk => hk.2) (.int .i64 t687)) (fun _ hk => hk.2) (.slice Ao120 t688.length co120)) (fun _ hk => hk.2) (.slice Ao121 t691.length co121)) (fun _ h_ => h_.1))) hb); have n5_ := Aside0.mk (Kd.R_below (by (with_reducible repeat (first | apply Kd.R_alloc | apply Kd.R_drewN | apply Kd.R_drew)); exact (Kd.R_mono (Kd.R_far (p := ⟨gb695, 2, none⟩) (Kd.R_far (p := ⟨gb695, 1, none⟩) (Kd.R_far (p := ⟨gb695, 0, none⟩) (Kd.R_types HO_663002.out BK695.out (by decide)) (fun _ hk => hk.2) (.int .i64 t687)) (fun _ hk => hk.2) (.slice Ao120 t688.length co120)) (fun _ hk => hk.2) (.slice Ao121 t691.length co121)) (fun _ h_ => h_.1))) hb); have n6_ := Aside0.mk (Kd.R_below (by (with_reducible repeat (first | apply Kd.R_alloc | apply Kd.R_drewN | apply Kd.R_drew)); exact (Kd.R_mono (Kd.R_far (p := ⟨gb695, 2, none⟩) (Kd.R_far (p := ⟨gb695, 1, none⟩) (Kd.R_far (p := ⟨gb695, 0, none⟩) (Kd.R_types HO683.out BK695.out (by decide)) (fun _ hk => hk.2) (.int .i64 t687)) (fun _ hk => hk.2) (.slice Ao120 t688.length co120)) (fun _ hk => hk.2) (.slice Ao121 t691.length co121)) (fun _ h_ => h_.1))) hb); have n7_ := Aside0.mk (Kd.R_below (by (with_reducible repeat (first | apply Kd.R_alloc | apply Kd.R_drewN | apply Kd.R_drew)); exact (Kd.R_mono (Kd.R_far (p := ⟨gb695, 2, none⟩) (Kd.R_far (p := ⟨gb695, 1, none⟩) (Kd.R_far (p := ⟨gb695, 0, none⟩) (Kd.R_types HO686.out BK695.out (by decide)) (fun _ hk => hk.2) (.int .i64 t687)) (fun _ hk => hk.2) (.slice Ao120 t688.length co120)) (fun _ hk => hk.2) (.slice Ao121 t691.length co121)) (fun _ h_ => h_.1))) hb); have n8_ := Aside0.mk (Kd.R_below (by (with_reducible repeat (first | apply Kd.R_alloc | apply Kd.R_drewN | apply Kd.R_drew)); exact (Kd.R_mono (Kd.R_far (p := ⟨gb695, 2, none⟩) (Kd.R_far (p := ⟨gb695, 1, none⟩) (Kd.R_far (p := ⟨gb695, 0, none⟩) (Kd.R_types HO690.out BK695.out (by decide)) (fun _ hk => hk.2) (.int .i64 t687)) (fun _ hk => hk.2) (.slice Ao120 t688.length co120)) (fun _ hk => hk.2) (.slice Ao121 t691.length co121)) (fun _ h_ => h_.1))) hb); have n9_ := Aside0.mk (Kd.R_below (by (with_reducible repeat (first | apply Kd.R_alloc | apply Kd.R_drewN | apply Kd.R_drew)); exact (Kd.R_mono (Kd.R_far (p := ⟨gb695, 2, none⟩) (Kd.R_far (p := ⟨gb695, 1, none⟩) (Kd.R_far (p := ⟨gb695, 0, none⟩) (Kd.R_types HO693.out BK695.out (by decide)) (fun _ hk => hk.2) (.int .i64 t687)) (fun _ hk => hk.2) (.slice Ao120 t688.length co120)) (fun _ hk => hk.2) (.slice Ao121 t691.length co121)) (fun _ h_ => h_.1))) hb); have n10_ := Aside0.mk (blk_below (g := gb628) (o := .cells #[.int .i64 a0_0, .slice A0_1 l0_1.length c0_1, .slice A0_2 l0_2.length c0_2] 32 (0, 0)) (by (with_reducible repeat (first | refine blk_drewN ?_ _ | refine blk_drew ?_ | refine blk_alloc ?_ _)); refine blk_far ?_ NB628_695.out _; (with_reducible repeat (first | refine blk_drewN ?_ _ | refine blk_drew ?_ | refine blk_alloc ?_ _)); refine blk_far ?_ NB628_695.out _; (with_reducible repeat (first | refine blk_drewN ?_ _ | refine blk_drew ?_ | refine blk_alloc ?_ _)); refine blk_far ?_ NB628_695.out _; (with_reducible repeat (first | refine blk_drewN ?_ _ | refine blk_drew ?_ | refine blk_alloc ?_ _)); exact BK628.out) hb); have n11_ := Aside0.mk (blk_below (g := gb645) (o := .cells #[.int .i64 t637, .slice Ao21 t638.length co21, .slice Ao22 t641.length co22] 25 (0, 0)) (by (with_reducible repeat (first | refine blk_drewN ?_ _ | refine blk_drew ?_ | refine blk_alloc ?_ _)); refine blk_far ?_ NB645_695.out _; (with_reducible repeat (first | refine blk_drewN ?_ _ | refine blk_drew ?_ | refine blk_alloc ?_ _)); refine blk_far ?_ NB645_695.out _; (with_reducible repeat (first | refine blk_drewN ?_ _ | refine blk_drew ?_ | refine blk_alloc ?_ _)); refine blk_far ?_ NB645_695.out _; (with_reducible repeat (first | refine blk_drewN ?_ _ | refine blk_drew ?_ | refine blk_alloc ?_ _)); exact BK645.out) hb); have n12_ := Aside0.mk (blk_below (g := gb653) (o := .cells #[.int .i64 t646, .slice Ao29 t673.length co29, .slice Ao30 t674.length co30] 25 (0, 0)) (by (with_reducible repeat (first | refine blk_drewN ?_ _ | refine blk_drew ?_ | refine blk_alloc ?_ _)); refine blk_far ?_ NB653_695.out _; (with_reducible repeat (first | refine blk_drewN ?_ _ | refine blk_drew ?_ | refine blk_alloc ?_ _)); refine blk_far ?_ NB653_695.out _; (with_reducible repeat (first | refine blk_drewN ?_ _ | refine blk_drew ?_ | refine blk_alloc ?_ _)); refine blk_far ?_ NB653_695.out _; (with_reducible repeat (first | refine blk_drewN ?_ _ | refine blk_drew ?_ | refine blk_alloc ?_ _)); exact BK653.out) hb); have n13_ := Aside0.mk (blk_below (g := gb662) (o := .cells #[.int .i64 t654, .slice Ao37 t655.length co37, .slice Ao38 t658.length co38] 25 (0, 0)) (by (with_reducible repeat (first | refine blk_drewN ?_ _ | refine blk_drew ?_ | refine blk_alloc ?_ _)); refine blk_far ?_ NB662_695.out _; (with_reducible repeat (first | refine blk_drewN ?_ _ | refine blk_drew ?_ | refine blk_alloc ?_ _)); refine blk_far ?_ NB662_695.out _; (with_reducible repeat (first | refine blk_drewN ?_ _ | refine blk_drew ?_ | refine blk_alloc ?_ _)); refine blk_far ?_ NB662_695.out _; (with_reducible repeat (first | refine blk_drewN ?_ _ | refine blk_drew ?_ | refine blk_alloc ?_ _)); exact BK662.out) hb); have n14_ := Aside0.mk (blk_below (g := gb695) (o := .cells #[.int .i64 t687, .slice Ao120 t688.length co120, .slice Ao121 t691.length co121] 25 (0, 0)) (by (with_reducible repeat (first | refine blk_drewN ?_ _ | refine blk_drew ?_ | refine blk_alloc ?_ _)); refine blk_put (cs := #[.int .i64 t687, .slice Ao120 t688.length co120, .slice none 0 0]) ?_ 2 _ rfl; (with_reducible repeat (first | refine blk_drewN ?_ _ | refine blk_drew ?_ | refine blk_alloc ?_ _)); refine blk_put (cs := #[.int .i64 t687, .slice none 0 0, .slice none 0 0]) ?_ 1 _ rfl; (with_reducible repeat (first | refine blk_drewN ?_ _ | refine blk_drew ?_ | refine blk_alloc ?_ _)); refine blk_put (cs := #[.int .i64 0, .slice none 0 0, .slice none 0 0]) ?_ 0 _ rfl; (with_reducible repeat (first | refine blk_drewN ?_ _ | refine blk_drew ?_ | refine blk_alloc ?_ _)); exact BK695.out) hb); have n15_ := Aside0.mk (below_step (by repeat (first | (with_reducible first | exact HB.out | apply below_alloc | apply pw_below_drewN | apply below_drew1 | refine below_set ?_ GE628.out | refine below_set ?_ GE645.out | refine below_set ?_ GE653.out | refine below_set ?_ GE662.out | refine below_set ?_ GE695.out) | exact HB.out)) hb); clear HO_646001; clear HO_646002; clear HO_654001; clear HO_654002; clear HO_663001; clear HO_663002; clear HO683; clear HO686; clear HO690; clear HO693; clear BK628; clear BK645; clear BK653; clear BK662; clear BK695; clear HB; have HO_646001 := n0_; have HO_646002 := n1_; have HO_654001 := n2_; have HO_654002 := n3_; have HO_663001 := n4_; have HO_663002 := n5_; have HO683 := n6_; have HO686 := n7_; have HO690 := n8_; have HO693 := n9_; have BK628 := n10_; have BK645 := n11_; have BK653 := n12_; have BK662 := n13_; have BK695 := n14_; have HB := n15_; clear n0_ n1_ n2_ n3_ n4_ n5_ n6_ n7_ n8_ n9_ n10_ n11_ n12_ n13_ n14_ n15_; (try clear hb); (try clear hb2); (try clear hk); (try clear hi)))
                          go_meet
                          case rel => exact ⟨_, ((t694 != t644)), (by first | rfl | (simp; done) | (simp [*]; done)), H', ⟨by have := HJ11.out; have := HJ61.out; first | omega | exact Nat.le_refl _⟩, ⟨by (try simp only [hl654001_61]); (try simp only [hl654002_61]); (with_reducible repeat (first | apply Kd.R_alloc | apply Kd.R_drewN | apply Kd.R_drew)); exact Kd.R_mono HO_646001.out (fun _ hk => ⟨hk.1.1.1, ⟨hk.1.1.2, hk.2⟩⟩)⟩, ⟨by (try simp only [hl654001_61]); (try simp only [hl654002_61]); (with_reducible repeat (first | apply Kd.R_alloc | apply Kd.R_drewN | apply Kd.R_drew)); exact Kd.R_mono HO_646002.out (fun _ hk => ⟨hk.1.1.1, ⟨hk.1.1.2, hk.2⟩⟩)⟩, ⟨by (try simp only [hl654001_61]); (try simp only [hl654002_61]); (with_reducible repeat (first | apply Kd.R_alloc | apply Kd.R_drewN | apply Kd.R_drew)); exact Kd.R_mono HO_654001.out (fun _ hk => ⟨hk.1.1.1, ⟨hk.1.1.2, hk.2⟩⟩)⟩, ⟨by (try simp only [hl654001_61]); (try simp only [hl654002_61]); (with_reducible repeat (first | apply Kd.R_alloc | apply Kd.R_drewN | apply Kd.R_drew)); exact Kd.R_mono HO_654002.out (fun _ hk => ⟨hk.1.1.1, ⟨hk.1.1.2, hk.2⟩⟩)⟩, ⟨by (try simp only [hl654001_61]); (try simp only [hl654002_61]); (with_reducible repeat (first | apply Kd.R_alloc | apply Kd.R_drewN | apply Kd.R_drew)); exact Kd.R_mono HO_663001.out (fun _ hk => ⟨hk.1.1.1, ⟨hk.1.1.2, hk.2⟩⟩)⟩, ⟨by (try simp only [hl654001_61]); (try simp only [hl654002_61]); (with_reducible repeat (first | apply Kd.R_alloc | apply Kd.R_drewN | apply Kd.R_drew)); exact Kd.R_mono HO_663002.out (fun _ hk => ⟨hk.1.1.1, ⟨hk.1.1.2, hk.2⟩⟩)⟩, ⟨by (try simp only [hl654001_61]); (try simp only [hl654002_61]); (with_reducible repeat (first | apply Kd.R_alloc | apply Kd.R_drewN | apply Kd.R_drew)); exact Kd.R_mono HO690.out (fun _ hk => ⟨hk.1.1.1.2, ⟨hk.1.1.2, hk.1.2⟩⟩)⟩, ⟨by (try simp only [hl654001_61]); (try simp only [hl654002_61]); (with_reducible repeat (first | apply Kd.R_alloc | apply Kd.R_drewN | apply Kd.R_drew)); exact Kd.R_mono HO693.out (fun _ hk => ⟨hk.1.1.1.2, ⟨hk.1.1.2, hk.1.2⟩⟩)⟩, ⟨by (try simp only [hl654001_61]); (try simp only [hl654002_61]); (with_reducible repeat (first | refine blk_drewN ?_ _ | refine blk_drew ?_ | refine blk_alloc ?_ _)); exact BK628.out⟩, ⟨by (try simp only [hl654001_61]); (try simp only [hl654002_61]); (with_reducible repeat (first | refine blk_drewN ?_ _ | refine blk_drew ?_ | refine blk_alloc ?_ _)); exact BK645.out⟩, ⟨by (try simp only [hl654001_61]); (try simp only [hl654002_61]); (with_reducible repeat (first | refine blk_drewN ?_ _ | refine blk_drew ?_ | refine blk_alloc ?_ _)); exact BK653.out⟩, ⟨by (try simp only [hl654001_61]); (try simp only [hl654002_61]); (with_reducible repeat (first | refine blk_drewN ?_ _ | refine blk_drew ?_ | refine blk_alloc ?_ _)); exact BK662.out⟩, ⟨by (try simp only [hl654001_61]); (try simp only [hl654002_61]); (with_reducible repeat (first | refine blk_drewN ?_ _ | refine blk_drew ?_ | refine blk_alloc ?_ _)); exact BK695.out⟩, ⟨by repeat (first | (with_reducible first | exact HB.out | apply below_alloc | apply pw_below_drewN | apply below_drew1 | refine below_set ?_ GE628.out | refine below_set ?_ GE645.out | refine below_set ?_ GE653.out | refine below_set ?_ GE662.out | refine below_set ?_ GE695.out) | exact HB.out)⟩⟩
                        · replace c123 := Bool.eq_false_iff.mpr c123
                          subst c123
                          have H1 : (laws_FnExactAdvanceEpoch.j2 kj61 t676 true t654 t677 t678) = some r := by rw [if_neg (show ¬ (false = true) by decide)] at H; exact H
                          clear H
                          have H := H1
                          clear H1
                          have H' := Aside0.mk H
                          clear H
                          have hnb134 := NB695_628.out
                          have hnc134 := NB628_695.out
                          have hnb135 := NB695_645.out
                          have hnc135 := NB645_695.out
                          have hnb136 := NB695_653.out
                          have hnc136 := NB653_695.out
                          have hnb137 := NB695_662.out
                          have hnc137 := NB662_695.out
                          have hcz138_0 : w114.cell? ⟨gb695, 0, none⟩ = some (.int .i64 0) := (blk_cell BK695.out 0).trans rfl
                          have hcz138_1 : w114.cell? ⟨gb695, 1, none⟩ = some (.slice none 0 0) := (blk_cell BK695.out 1).trans rfl
                          have hcz138_2 : w114.cell? ⟨gb695, 2, none⟩ = some (.slice none 0 0) := (blk_cell BK695.out 2).trans rfl
                          have hfz138_0 := blk_frozen BK695.out 0
                          have hfz138_1 := blk_frozen BK695.out 1
                          have hfz138_2 := blk_frozen BK695.out 2
                          have hnb139 := NB645_628.out
                          have hnc139 := NB628_645.out
                          have hnb140 := NB645_653.out
                          have hnc140 := NB653_645.out
                          have hnb141 := NB645_662.out
                          have hnc141 := NB662_645.out
                          have hcz142_0 : w114.cell? ⟨gb645, 0, none⟩ = some (.int .i64 t637) := (blk_cell BK645.out 0).trans rfl
                          have hcz142_1 : w114.cell? ⟨gb645, 1, none⟩ = some (.slice Ao21 t638.length co21) := (blk_cell BK645.out 1).trans rfl
                          have hcz142_2 : w114.cell? ⟨gb645, 2, none⟩ = some (.slice Ao22 t641.length co22) := (blk_cell BK645.out 2).trans rfl
                          have hfz142_0 := blk_frozen BK645.out 0
                          have hfz142_1 := blk_frozen BK645.out 1
                          have hfz142_2 := blk_frozen BK645.out 2
                          go_wp2_with (first | ((with_reducible refine gate_callee (f := 15) rfl ?_); refine goesL_ (some 81) rfl rfl Try.func15 (by kernel_rfl) rfl #[.agg #[.int .i64 t687, .slice Ao120 t688.length co120, .slice Ao121 t691.length co121], .agg #[.int .i64 t637, .slice Ao21 t638.length co21, .slice Ao22 t641.length co22]] rfl (by (try simp only [List.map_toArray, List.map_cons, List.map_nil]); first | done | rfl | (simp only [List.length_drop, List.length_take]; rfl)) ?_; (with_reducible refine (laws_eqEpochs.calls kj61 t687 _ _ t688 _ _ t691 t637 _ _ t638 _ _ t641 false _ ?side1 ?side2 ?side3 ?side4 ?side5 ?side6 ?side7 ?side8 A122.out).mono ?_); (case side1 => refine (Kd.R_reads' (e := 3) (base := w.heap.size) (ok := fun k_ => ((((True ∧ some k_ ≠ (.slice Ao21 t638.length co21 : Value).ownBlock) ∧ some k_ ≠ (.slice Ao29 t673.length co29 : Value).ownBlock) ∧ some k_ ≠ (.slice Ao37 t655.length co37 : Value).ownBlock) ∧ some k_ ≠ (.slice Ao111 t681.length co111 : Value).ownBlock)) (n := t688.length) (c := co120) ?_).2.2; exact (by (with_reducible repeat (first | apply Kd.R_alloc | apply Kd.R_drewN | apply Kd.R_drew)); exact (Kd.R_mono (Kd.R_far (p := ⟨gb695, 2, none⟩) (Kd.R_far (p := ⟨gb695, 1, none⟩) (Kd.R_far (p := ⟨gb695, 0, none⟩) (Kd.R_types HO690.out BK695.out (by decide)) (fun _ hk => hk.2) (.int .i64 t687)) (fun _ hk => hk.2) (.slice Ao120 t688.length co120)) (fun _ hk => hk.2) (.slice Ao121 t691.length co121)) (fun _ h_ => h_.1)))); (case side2 => exact (Kd.R_reads' HO690.out).2.1); (case side3 => refine (Kd.R_reads' (e := 57) (base := w.heap.size) (ok := fun k_ => ((((True ∧ some k_ ≠ (.slice Ao22 t641.length co22 : Value).ownBlock) ∧ some k_ ≠ (.slice Ao30 t674.length co30 : Value).ownBlock) ∧ some k_ ≠ (.slice Ao38 t658.length co38 : Value).ownBlock) ∧ some k_ ≠ (.slice Ao112 t684.length co112 : Value).ownBlock)) (n := t691.length) (c := co121) ?_).2.2; exact (by (with_reducible repeat (first | apply Kd.R_alloc | apply Kd.R_drewN | apply Kd.R_drew)); exact (Kd.R_mono (Kd.R_far (p := ⟨gb695, 2, none⟩) (Kd.R_far (p := ⟨gb695, 1, none⟩) (Kd.R_far (p := ⟨gb695, 0, none⟩) (Kd.R_types HO693.out BK695.out (by decide)) (fun _ hk => hk.2) (.int .i64 t687)) (fun _ hk => hk.2) (.slice Ao120 t688.length co120)) (fun _ hk => hk.2) (.slice Ao121 t691.length co121)) (fun _ h_ => h_.1)))); (case side4 => exact (Kd.R_reads' HO693.out).2.1); (case side5 => refine (Kd.R_reads' (e := 3) (base := w.heap.size) (ok := fun k_ => (((some k_ ≠ (.slice Ao29 t673.length co29 : Value).ownBlock ∧ some k_ ≠ (.slice Ao37 t655.length co37 : Value).ownBlock) ∧ some k_ ≠ (.slice Ao111 t681.length co111 : Value).ownBlock) ∧ some k_ ≠ (.slice Ao120 t688.length co120 : Value).ownBlock)) (n := t638.length) (c := co21) ?_).2.2; exact (by (with_reducible repeat (first | apply Kd.R_alloc | apply Kd.R_drewN | apply Kd.R_drew)); exact (Kd.R_mono (Kd.R_far (p := ⟨gb695, 2, none⟩) (Kd.R_far (p := ⟨gb695, 1, none⟩) (Kd.R_far (p := ⟨gb695, 0, none⟩) (Kd.R_types HO_646001.out BK695.out (by decide)) (fun _ hk => hk.2) (.int .i64 t687)) (fun _ hk => hk.2) (.slice Ao120 t688.length co120)) (fun _ hk => hk.2) (.slice Ao121 t691.length co121)) (fun _ h_ => h_.1)))); (case side6 => exact (Kd.R_reads' HO_646001.out).2.1); (case side7 => refine (Kd.R_reads' (e := 57) (base := w.heap.size) (ok := fun k_ => (((some k_ ≠ (.slice Ao30 t674.length co30 : Value).ownBlock ∧ some k_ ≠ (.slice Ao38 t658.length co38 : Value).ownBlock) ∧ some k_ ≠ (.slice Ao112 t684.length co112 : Value).ownBlock) ∧ some k_ ≠ (.slice Ao121 t691.length co121 : Value).ownBlock)) (n := t641.length) (c := co22) ?_).2.2; exact (by (with_reducible repeat (first | apply Kd.R_alloc | apply Kd.R_drewN | apply Kd.R_drew)); exact (Kd.R_mono (Kd.R_far (p := ⟨gb695, 2, none⟩) (Kd.R_far (p := ⟨gb695, 1, none⟩) (Kd.R_far (p := ⟨gb695, 0, none⟩) (Kd.R_types HO_646002.out BK695.out (by decide)) (fun _ hk => hk.2) (.int .i64 t687)) (fun _ hk => hk.2) (.slice Ao120 t688.length co120)) (fun _ hk => hk.2) (.slice Ao121 t691.length co121)) (fun _ h_ => h_.1)))); (case side8 => exact (Kd.R_reads' HO_646002.out).2.1); rintro e w143 ⟨rfl, hb⟩; refine ⟨_, rfl, ?_⟩; have n0_ := Aside0.mk (Kd.R_below (by (with_reducible repeat (first | apply Kd.R_alloc | apply Kd.R_drewN | apply Kd.R_drew)); exact (Kd.R_mono (Kd.R_far (p := ⟨gb695, 2, none⟩) (Kd.R_far (p := ⟨gb695, 1, none⟩) (Kd.R_far (p := ⟨gb695, 0, none⟩) (Kd.R_types HO_646001.out BK695.out (by decide)) (fun _ hk => hk.2) (.int .i64 t687)) (fun _ hk => hk.2) (.slice Ao120 t688.length co120)) (fun _ hk => hk.2) (.slice Ao121 t691.length co121)) (fun _ h_ => h_.1))) hb); have n1_ := Aside0.mk (Kd.R_below (by (with_reducible repeat (first | apply Kd.R_alloc | apply Kd.R_drewN | apply Kd.R_drew)); exact (Kd.R_mono (Kd.R_far (p := ⟨gb695, 2, none⟩) (Kd.R_far (p := ⟨gb695, 1, none⟩) (Kd.R_far (p := ⟨gb695, 0, none⟩) (Kd.R_types HO_646002.out BK695.out (by decide)) (fun _ hk => hk.2) (.int .i64 t687)) (fun _ hk => hk.2) (.slice Ao120 t688.length co120)) (fun _ hk => hk.2) (.slice Ao121 t691.length co121)) (fun _ h_ => h_.1))) hb); have n2_ := Aside0.mk (Kd.R_below (by (with_reducible repeat (first | apply Kd.R_alloc | apply Kd.R_drewN | apply Kd.R_drew)); exact (Kd.R_mono (Kd.R_far (p := ⟨gb695, 2, none⟩) (Kd.R_far (p := ⟨gb695, 1, none⟩) (Kd.R_far (p := ⟨gb695, 0, none⟩) (Kd.R_types HO_654001.out BK695.out (by decide)) (fun _ hk => hk.2) (.int .i64 t687)) (fun _ hk => hk.2) (.slice Ao120 t688.length co120)) (fun _ hk => hk.2) (.slice Ao121 t691.length co121)) (fun _ h_ => h_.1))) hb); have n3_ := Aside0.mk (Kd.R_below (by (with_reducible repeat (first | apply Kd.R_alloc | apply Kd.R_drewN | apply Kd.R_drew)); exact (Kd.R_mono (Kd.R_far (p := ⟨gb695, 2, none⟩) (Kd.R_far (p := ⟨gb695, 1, none⟩) (Kd.R_far (p := ⟨gb695, 0, none⟩) (Kd.R_types HO_654002.out BK695.out (by decide)) (fun _ hk => hk.2) (.int .i64 t687)) (fun _ hk => hk.2) (.slice Ao120 t688.length co120)) (fun _ hk => hk.2) (.slice Ao121 t691.length co121)) (fun _ h_ => h_.1))) hb); have n4_ := Aside0.mk (Kd.R_below (by (with_reducible repeat (first | apply Kd.R_alloc | apply Kd.R_drewN | apply Kd.R_drew)); exact (Kd.R_mono (Kd.R_far (p := ⟨gb695, 2, none⟩) (Kd.R_far (p := ⟨gb695, 1, none⟩) (Kd.R_far (p := ⟨gb695, 0, none⟩) (Kd.R_types HO_663001.out BK695.out (by decide)) (fun _ hk => hk.2) (.int .i64 t687)) (fun _ hk => hk.2) (.slice Ao120 t688.length co120)) (fun _ hk => hk.2) (.slice Ao121 t691.length co121)) (fun _ h_ => h_.1))) hb); have n5_ := Aside0.mk (Kd.R_below (by (with_reducible repeat (first | apply Kd.R_alloc | apply Kd.R_drewN | apply Kd.R_drew)); exact (Kd.R_mono (Kd.R_far (p := ⟨gb695, 2, none⟩) (Kd.R_far (p := ⟨gb695, 1, none⟩) (Kd.R_far (p := ⟨gb695, 0, none⟩) (Kd.R_types HO_663002.out BK695.out (by decide)) (fun _ hk => hk.2) (.int .i64 t687)) (fun _ hk => hk.2) (.slice Ao120 t688.length co120)) (fun _ hk => hk.2) (.slice Ao121 t691.length co121)) (fun _ h_ => h_.1))) hb); have n6_ := Aside0.mk (Kd.R_below (by (with_reducible repeat (first | apply Kd.R_alloc | apply Kd.R_drewN | apply Kd.R_drew)); exact (Kd.R_mono (Kd.R_far (p := ⟨gb695, 2, none⟩) (Kd.R_far (p := ⟨gb695, 1, none⟩) (Kd.R_far (p := ⟨gb695, 0, none⟩) (Kd.R_types HO683.out BK695.out (by decide)) (fun _ hk => hk.2) (.int .i64 t687)) (fun _ hk => hk.2) (.slice Ao120 t688.length co120)) (fun _ hk => hk.2) (.slice Ao121 t691.length co121)) (fun _ h_ => h_.1))) hb); have n7_ := Aside0.mk (Kd.R_below (by (with_reducible repeat (first | apply Kd.R_alloc | apply Kd.R_drewN | apply Kd.R_drew)); exact (Kd.R_mono (Kd.R_far (p := ⟨gb695, 2, none⟩) (Kd.R_far (p := ⟨gb695, 1, none⟩) (Kd.R_far (p := ⟨gb695, 0, none⟩) (Kd.R_types HO686.out BK695.out (by decide)) (fun _ hk => hk.2) (.int .i64 t687)) (fun _ hk => hk.2) (.slice Ao120 t688.length co120)) (fun _ hk => hk.2) (.slice Ao121 t691.length co121)) (fun _ h_ => h_.1))) hb); have n8_ := Aside0.mk (Kd.R_below (by (with_reducible repeat (first | apply Kd.R_alloc | apply Kd.R_drewN | apply Kd.R_drew)); exact (Kd.R_mono (Kd.R_far (p := ⟨gb695, 2, none⟩) (Kd.R_far (p := ⟨gb695, 1, none⟩) (Kd.R_far (p := ⟨gb695, 0, none⟩) (Kd.R_types HO690.out BK695.out (by decide)) (fun _ hk => hk.2) (.int .i64 t687)) (fun _ hk => hk.2) (.slice Ao120 t688.length co120)) (fun _ hk => hk.2) (.slice Ao121 t691.length co121)) (fun _ h_ => h_.1))) hb); have n9_ := Aside0.mk (Kd.R_below (by (with_reducible repeat (first | apply Kd.R_alloc | apply Kd.R_drewN | apply Kd.R_drew)); exact (Kd.R_mono (Kd.R_far (p := ⟨gb695, 2, none⟩) (Kd.R_far (p := ⟨gb695, 1, none⟩) (Kd.R_far (p := ⟨gb695, 0, none⟩) (Kd.R_types HO693.out BK695.out (by decide)) (fun _ hk => hk.2) (.int .i64 t687)) (fun _ hk => hk.2) (.slice Ao120 t688.length co120)) (fun _ hk => hk.2) (.slice Ao121 t691.length co121)) (fun _ h_ => h_.1))) hb); have n10_ := Aside0.mk (blk_below (g := gb628) (o := .cells #[.int .i64 a0_0, .slice A0_1 l0_1.length c0_1, .slice A0_2 l0_2.length c0_2] 32 (0, 0)) (by (with_reducible repeat (first | refine blk_drewN ?_ _ | refine blk_drew ?_ | refine blk_alloc ?_ _)); refine blk_far ?_ NB628_695.out _; (with_reducible repeat (first | refine blk_drewN ?_ _ | refine blk_drew ?_ | refine blk_alloc ?_ _)); refine blk_far ?_ NB628_695.out _; (with_reducible repeat (first | refine blk_drewN ?_ _ | refine blk_drew ?_ | refine blk_alloc ?_ _)); refine blk_far ?_ NB628_695.out _; (with_reducible repeat (first | refine blk_drewN ?_ _ | refine blk_drew ?_ | refine blk_alloc ?_ _)); exact BK628.out) hb); have n11_ := Aside0.mk (blk_below (g := gb645) (o := .cells #[.int .i64 t637, .slice Ao21 t638.length co21, .slice Ao22 t641.length co22] 25 (0, 0)) (by (with_reducible repeat (first | refine blk_drewN ?_ _ | refine blk_drew ?_ | refine blk_alloc ?_ _)); refine blk_far ?_ NB645_695.out _; (with_reducible repeat (first | refine blk_drewN ?_ _ | refine blk_drew ?_ | refine blk_alloc ?_ _)); refine blk_far ?_ NB645_695.out _; (with_reducible repeat (first | refine blk_drewN ?_ _ | refine blk_drew ?_ | refine blk_alloc ?_ _)); refine blk_far ?_ NB645_695.out _; (with_reducible repeat (first | refine blk_drewN ?_ _ | refine blk_drew ?_ | refine blk_alloc ?_ _)); exact BK645.out) hb); have n12_ := Aside0.mk (blk_below (g := gb653) (o := .cells #[.int .i64 t646, .slice Ao29 t673.length co29, .slice Ao30 t674.length co30] 25 (0, 0)) (by (with_reducible repeat (first | refine blk_drewN ?_ _ | refine blk_drew ?_ | refine blk_alloc ?_ _)); refine blk_far ?_ NB653_695.out _; (with_reducible repeat (first | refine blk_drewN ?_ _ | refine blk_drew ?_ | refine blk_alloc ?_ _)); refine blk_far ?_ NB653_695.out _; (with_reducible repeat (first | refine blk_drewN ?_ _ | refine blk_drew ?_ | refine blk_alloc ?_ _)); refine blk_far ?_ NB653_695.out _; (with_reducible repeat (first | refine blk_drewN ?_ _ | refine blk_drew ?_ | refine blk_alloc ?_ _)); exact BK653.out) hb); have n13_ := Aside0.mk (blk_below (g := gb662) (o := .cells #[.int .i64 t654, .slice Ao37 t655.length co37, .slice Ao38 t658.length co38] 25 (0, 0)) (by (with_reducible repeat (first | refine blk_drewN ?_ _ | refine blk_drew ?_ | refine blk_alloc ?_ _)); refine blk_far ?_ NB662_695.out _; (with_reducible repeat (first | refine blk_drewN ?_ _ | refine blk_drew ?_ | refine blk_alloc ?_ _)); refine blk_far ?_ NB662_695.out _; (with_reducible repeat (first | refine blk_drewN ?_ _ | refine blk_drew ?_ | refine blk_alloc ?_ _)); refine blk_far ?_ NB662_695.out _; (with_reducible repeat (first | refine blk_drewN ?_ _ | refine blk_drew ?_ | refine blk_alloc ?_ _)); exact BK662.out) hb); have n14_ := Aside0.mk (blk_below (g := gb695) (o := .cells #[.int .i64 t687, .slice Ao120 t688.length co120, .slice Ao121 t691.length co121] 25 (0, 0)) (by (with_reducible repeat (first | refine blk_drewN ?_ _ | refine blk_drew ?_ | refine blk_alloc ?_ _)); refine blk_put (cs := #[.int .i64 t687, .slice Ao120 t688.length co120, .slice none 0 0]) ?_ 2 _ rfl; (with_reducible repeat (first | refine blk_drewN ?_ _ | refine blk_drew ?_ | refine blk_alloc ?_ _)); refine blk_put (cs := #[.int .i64 t687, .slice none 0 0, .slice none 0 0]) ?_ 1 _ rfl; (with_reducible repeat (first | refine blk_drewN ?_ _ | refine blk_drew ?_ | refine blk_alloc ?_ _)); refine blk_put (cs := #[.int .i64 0, .slice none 0 0, .slice none 0 0]) ?_ 0 _ rfl; (with_reducible repeat (first | refine blk_drewN ?_ _ | refine blk_drew ?_ | refine blk_alloc ?_ _)); exact BK695.out) hb); have n15_ := Aside0.mk (below_step (by repeat (first | (with_reducible first | exact HB.out | apply below_alloc | apply pw_below_drewN | apply below_drew1 | refine below_set ?_ GE628.out | refine below_set ?_ GE645.out | refine below_set ?_ GE653.out | refine below_set ?_ GE662.out | refine below_set ?_ GE695.out) | exact HB.out)) hb); clear HO_646001; clear HO_646002; clear HO_654001; clear HO_654002; clear HO_663001; clear HO_663002; clear HO683; clear HO686; clear HO690; clear HO693; clear BK628; clear BK645; clear BK653; clear BK662; clear BK695; clear HB; have HO_646001 := n0_; have HO_646002 := n1_; have HO_654001 := n2_; have HO_654002 := n3_; have HO_663001 := n4_; have HO_663002 := n5_; have HO683 := n6_; have HO686 := n7_; have HO690 := n8_; have HO693 := n9_; have BK628 := n10_; have BK645 := n11_; have BK653 := n12_; have BK662 := n13_; have BK695 := n14_; have HB := n15_; clear n0_ n1_ n2_ n3_ n4_ n5_ n6_ n7_ n8_ n9_ n10_ n11_ n12_ n13_ n14_ n15_; (try clear hb); (try clear hb2); (try clear hk); (try clear hi)))
                          go_meet
                          case rel => exact ⟨_, (true), (by first | rfl | (simp; done) | (simp [*]; done)), H', ⟨by have := HJ11.out; have := HJ61.out; first | omega | exact Nat.le_refl _⟩, ⟨by (try simp only [hl654001_61]); (try simp only [hl654002_61]); (with_reducible repeat (first | apply Kd.R_alloc | apply Kd.R_drewN | apply Kd.R_drew)); exact Kd.R_mono HO_646001.out (fun _ hk => ⟨hk.1.1.1, ⟨hk.1.1.2, hk.2⟩⟩)⟩, ⟨by (try simp only [hl654001_61]); (try simp only [hl654002_61]); (with_reducible repeat (first | apply Kd.R_alloc | apply Kd.R_drewN | apply Kd.R_drew)); exact Kd.R_mono HO_646002.out (fun _ hk => ⟨hk.1.1.1, ⟨hk.1.1.2, hk.2⟩⟩)⟩, ⟨by (try simp only [hl654001_61]); (try simp only [hl654002_61]); (with_reducible repeat (first | apply Kd.R_alloc | apply Kd.R_drewN | apply Kd.R_drew)); exact Kd.R_mono HO_654001.out (fun _ hk => ⟨hk.1.1.1, ⟨hk.1.1.2, hk.2⟩⟩)⟩, ⟨by (try simp only [hl654001_61]); (try simp only [hl654002_61]); (with_reducible repeat (first | apply Kd.R_alloc | apply Kd.R_drewN | apply Kd.R_drew)); exact Kd.R_mono HO_654002.out (fun _ hk => ⟨hk.1.1.1, ⟨hk.1.1.2, hk.2⟩⟩)⟩, ⟨by (try simp only [hl654001_61]); (try simp only [hl654002_61]); (with_reducible repeat (first | apply Kd.R_alloc | apply Kd.R_drewN | apply Kd.R_drew)); exact Kd.R_mono HO_663001.out (fun _ hk => ⟨hk.1.1.1, ⟨hk.1.1.2, hk.2⟩⟩)⟩, ⟨by (try simp only [hl654001_61]); (try simp only [hl654002_61]); (with_reducible repeat (first | apply Kd.R_alloc | apply Kd.R_drewN | apply Kd.R_drew)); exact Kd.R_mono HO_663002.out (fun _ hk => ⟨hk.1.1.1, ⟨hk.1.1.2, hk.2⟩⟩)⟩, ⟨by (try simp only [hl654001_61]); (try simp only [hl654002_61]); (with_reducible repeat (first | apply Kd.R_alloc | apply Kd.R_drewN | apply Kd.R_drew)); exact Kd.R_mono HO690.out (fun _ hk => ⟨hk.1.1.1.2, ⟨hk.1.1.2, hk.1.2⟩⟩)⟩, ⟨by (try simp only [hl654001_61]); (try simp only [hl654002_61]); (with_reducible repeat (first | apply Kd.R_alloc | apply Kd.R_drewN | apply Kd.R_drew)); exact Kd.R_mono HO693.out (fun _ hk => ⟨hk.1.1.1.2, ⟨hk.1.1.2, hk.1.2⟩⟩)⟩, ⟨by (try simp only [hl654001_61]); (try simp only [hl654002_61]); (with_reducible repeat (first | refine blk_drewN ?_ _ | refine blk_drew ?_ | refine blk_alloc ?_ _)); exact BK628.out⟩, ⟨by (try simp only [hl654001_61]); (try simp only [hl654002_61]); (with_reducible repeat (first | refine blk_drewN ?_ _ | refine blk_drew ?_ | refine blk_alloc ?_ _)); exact BK645.out⟩, ⟨by (try simp only [hl654001_61]); (try simp only [hl654002_61]); (with_reducible repeat (first | refine blk_drewN ?_ _ | refine blk_drew ?_ | refine blk_alloc ?_ _)); exact BK653.out⟩, ⟨by (try simp only [hl654001_61]); (try simp only [hl654002_61]); (with_reducible repeat (first | refine blk_drewN ?_ _ | refine blk_drew ?_ | refine blk_alloc ?_ _)); exact BK662.out⟩, ⟨by (try simp only [hl654001_61]); (try simp only [hl654002_61]); (with_reducible repeat (first | refine blk_drewN ?_ _ | refine blk_drew ?_ | refine blk_alloc ?_ _)); exact BK695.out⟩, ⟨by repeat (first | (with_reducible first | exact HB.out | apply below_alloc | apply pw_below_drewN | apply below_drew1 | refine below_set ?_ GE628.out | refine below_set ?_ GE645.out | refine below_set ?_ GE653.out | refine below_set ?_ GE662.out | refine below_set ?_ GE695.out) | exact HB.out)⟩⟩
                      case rest =>
                        clear HC99
                        try clear c1
                        try clear c2
                        try clear p2
                        try clear c3
                        try clear c4
                        try clear c5
                        try clear c6
                        try clear c7
                        try clear c7b0
                        try clear c8
                        try clear c9
                        try clear c10
                        try clear c11
                        try clear c12
                        try clear c13
                        try clear c14
                        try clear c15
                        try clear c16
                        try clear c17
                        try clear c18
                        try clear c19
                        try clear c20
                        try clear c26
                        try clear c27
                        try clear c31
                        try clear c32
                        try clear c33
                        try clear c34
                        try clear c35
                        try clear c40
                        try clear c41
                        try clear c42
                        try clear c43
                        try clear c45
                        try clear c46
                        try clear c49
                        try clear c50
                        try clear c51
                        try clear c53
                        try clear c54
                        try clear c57
                        try clear c60
                        try clear c68
                        try clear c69
                        try clear c70
                        try clear c73
                        try clear c73b0
                        try clear c75
                        try clear c76
                        try clear c77
                        try clear c78
                        try clear c80
                        try clear c81
                        try clear c84
                        try clear c85
                        try clear c86
                        try clear c88
                        try clear c89
                        try clear c92
                        try clear c95
                        try clear c95b0
                        try clear c96
                        try clear c96b0
                        try clear c96b1
                        try clear c100
                        try clear c101
                        try clear c102
                        try clear c107
                        try clear c108
                        try clear c115
                        try clear c116
                        try clear c117
                        try clear c118
                        try clear c123
                        try clear c124
                        try clear c125
                        try clear c126
                        try clear c127
                        try clear c129
                        try clear c130
                        try clear c131
                        try clear c134
                        try clear c135
                        try clear c136
                        try clear c137
                        try clear c139
                        try clear c140
                        try clear c141
                        try clear hcz103_0
                        try clear hcz103_1
                        try clear hcz103_2
                        try clear hcz105_0
                        try clear hcz105_1
                        try clear hcz105_2
                        try clear hcz109_0
                        try clear hcz109_1
                        try clear hcz109_2
                        try clear hcz119_0
                        try clear hcz119_1
                        try clear hcz119_2
                        try clear hcz128_0
                        try clear hcz128_1
                        try clear hcz128_2
                        try clear hcz132_0
                        try clear hcz132_1
                        try clear hcz132_2
                        try clear hcz138_0
                        try clear hcz138_1
                        try clear hcz138_2
                        try clear hcz13_0
                        try clear hcz13_1
                        try clear hcz13_2
                        try clear hcz142_0
                        try clear hcz142_1
                        try clear hcz142_2
                        try clear hcz20_0
                        try clear hcz20_1
                        try clear hcz20_2
                        try clear hcz23_0
                        try clear hcz23_1
                        try clear hcz23_2
                        try clear hcz28_0
                        try clear hcz28_1
                        try clear hcz28_2
                        try clear hcz36_0
                        try clear hcz36_1
                        try clear hcz36_2
                        try clear hcz44_0
                        try clear hcz44_1
                        try clear hcz44_2
                        try clear hcz47_0
                        try clear hcz47_1
                        try clear hcz47_2
                        try clear hcz52_0
                        try clear hcz52_1
                        try clear hcz52_2
                        try clear hcz55_0
                        try clear hcz55_1
                        try clear hcz55_2
                        try clear hcz5_0
                        try clear hcz5_1
                        try clear hcz5_2
                        try clear hcz71_0
                        try clear hcz71_1
                        try clear hcz71_2
                        try clear hcz79_0
                        try clear hcz79_1
                        try clear hcz79_2
                        try clear hcz82_0
                        try clear hcz82_1
                        try clear hcz82_2
                        try clear hcz87_0
                        try clear hcz87_1
                        try clear hcz87_2
                        try clear hcz90_0
                        try clear hcz90_1
                        try clear hcz90_2
                        try clear hfz103_0
                        try clear hfz103_1
                        try clear hfz103_2
                        try clear hfz105_0
                        try clear hfz105_1
                        try clear hfz105_2
                        try clear hfz109_0
                        try clear hfz109_1
                        try clear hfz109_2
                        try clear hfz119_0
                        try clear hfz119_1
                        try clear hfz119_2
                        try clear hfz128_0
                        try clear hfz128_1
                        try clear hfz128_2
                        try clear hfz132_0
                        try clear hfz132_1
                        try clear hfz132_2
                        try clear hfz138_0
                        try clear hfz138_1
                        try clear hfz138_2
                        try clear hfz13_0
                        try clear hfz13_1
                        try clear hfz13_2
                        try clear hfz142_0
                        try clear hfz142_1
                        try clear hfz142_2
                        try clear hfz20_0
                        try clear hfz20_1
                        try clear hfz20_2
                        try clear hfz23_0
                        try clear hfz23_1
                        try clear hfz23_2
                        try clear hfz28_0
                        try clear hfz28_1
                        try clear hfz28_2
                        try clear hfz36_0
                        try clear hfz36_1
                        try clear hfz36_2
                        try clear hfz44_0
                        try clear hfz44_1
                        try clear hfz44_2
                        try clear hfz47_0
                        try clear hfz47_1
                        try clear hfz47_2
                        try clear hfz52_0
                        try clear hfz52_1
                        try clear hfz52_2
                        try clear hfz55_0
                        try clear hfz55_1
                        try clear hfz55_2
                        try clear hfz5_0
                        try clear hfz5_1
                        try clear hfz5_2
                        try clear hfz71_0
                        try clear hfz71_1
                        try clear hfz71_2
                        try clear hfz79_0
                        try clear hfz79_1
                        try clear hfz79_2
                        try clear hfz82_0
                        try clear hfz82_1
                        try clear hfz82_2
                        try clear hfz87_0
                        try clear hfz87_1
                        try clear hfz87_2
                        try clear hfz90_0
                        try clear hfz90_1
                        try clear hfz90_2
                        try clear p2
                        obtain ⟨kq, x87_98, rfl, HA, HJ98, HO_646001, HO_646002, HO_654001, HO_654002, HO_663001, HO_663002, HO_696001, HO_696002, BK628, BK645, BK653, BK662, BK695, HB⟩ := hcut
                        have hl663001_98 := (Kd.R_reads' HO_663001.out).1
                        rw [hl663001_98] at HO_663001
                        (try simp only [hl663001_98])
                        (try simp only [hl663001_98] at BK628)
                        (try simp only [hl663001_98] at BK645)
                        (try simp only [hl663001_98] at BK653)
                        (try simp only [hl663001_98] at BK662)
                        (try simp only [hl663001_98] at BK695)
                        (try simp only [hl663001_98] at HO_646001)
                        (try simp only [hl663001_98] at HO_646002)
                        (try simp only [hl663001_98] at HO_654001)
                        (try simp only [hl663001_98] at HO_654002)
                        (try simp only [hl663001_98] at HO_663002)
                        (try simp only [hl663001_98] at HO_696001)
                        (try simp only [hl663001_98] at HO_696002)
                        have hl663002_98 := (Kd.R_reads' HO_663002.out).1
                        rw [hl663002_98] at HO_663002
                        (try simp only [hl663002_98])
                        (try simp only [hl663002_98] at BK628)
                        (try simp only [hl663002_98] at BK645)
                        (try simp only [hl663002_98] at BK653)
                        (try simp only [hl663002_98] at BK662)
                        (try simp only [hl663002_98] at BK695)
                        (try simp only [hl663002_98] at HO_646001)
                        (try simp only [hl663002_98] at HO_646002)
                        (try simp only [hl663002_98] at HO_654001)
                        (try simp only [hl663002_98] at HO_654002)
                        (try simp only [hl663002_98] at HO_663001)
                        (try simp only [hl663002_98] at HO_696001)
                        (try simp only [hl663002_98] at HO_696002)
                        cases kq with
                        | zero => exact absurd HA.out (by simp [laws_FnExactAdvanceEpoch.j2])
                        | succ kj98 =>
                          have H := HA.out
                          clear HA
                          simp only [laws_FnExactAdvanceEpoch.j2] at H
                          by_cases c144 : x87_98 = true
                          · subst c144
                            have H1 : (none) = some r := by rw [if_pos rfl] at H; exact H
                            clear H
                            have H := H1
                            clear H1
                            exact absurd H (by simp)
                          · replace c144 := Bool.eq_false_iff.mpr c144
                            subst c144
                            have H1 : ((laws_heldEpochs.f kj98 t654 t677 t678 1).bind fun t697 => (if t697 < 0 then (none) else (if t697 = t676 then (some true) else (none)))) = some r := by rw [if_neg (show ¬ (false = true) by decide)] at H; exact H
                            clear H
                            have H := H1
                            clear H1
                            replace H := Option.bind_eq_some_iff.mp H
                            obtain ⟨t697, A1450, H⟩ := H
                            replace H : (if t697 < 0 then (none) else (if t697 = t676 then (some true) else (none))) = some r := H
                            have A145 := Aside0.mk A1450
                            clear A1450
                            by_cases c146 : t697 < 0
                            · rw [if_pos c146] at H
                              exact absurd H (by simp)
                            · rw [if_neg c146] at H
                              have c146b0 : decide (t697 < 0) = false := decide_eq_false c146
                              clear c146
                              by_cases c147 : t697 = t676
                              · rw [if_pos c147] at H
                                have c147b0 : (t697 == t676) = true := beq_iff_eq.mpr c147
                                have c147b1 : (t697 != t676) = false := bne_eq_false_iff_eq.mpr c147
                                clear c147
                                obtain rfl := Option.some.inj H
                                have hnb148 := NB662_628.out
                                have hnc148 := NB628_662.out
                                have hnb149 := NB662_645.out
                                have hnc149 := NB645_662.out
                                have hnb150 := NB662_653.out
                                have hnc150 := NB653_662.out
                                have hnb151 := NB662_695.out
                                have hnc151 := NB695_662.out
                                have hcz152_0 : wc.cell? ⟨gb662, 0, none⟩ = some (.int .i64 t654) := (blk_cell BK662.out 0).trans rfl
                                have hcz152_1 : wc.cell? ⟨gb662, 1, none⟩ = some (.slice Ao37 t677.length co37) := (blk_cell BK662.out 1).trans rfl
                                have hcz152_2 : wc.cell? ⟨gb662, 2, none⟩ = some (.slice Ao38 t678.length co38) := (blk_cell BK662.out 2).trans rfl
                                have hfz152_0 := blk_frozen BK662.out 0
                                have hfz152_1 := blk_frozen BK662.out 1
                                have hfz152_2 := blk_frozen BK662.out 2
                                go_wp2_with (first | ((with_reducible refine gate_callee (f := 17) rfl ?_); refine goesL_ (some 90) rfl rfl Try.func17 (by kernel_rfl) rfl #[.agg #[.int .i64 t654, .slice Ao37 t677.length co37, .slice Ao38 t678.length co38], .int .i64 1] rfl (by (try simp only [List.map_toArray, List.map_cons, List.map_nil]); first | done | rfl | (simp only [List.length_drop, List.length_take]; rfl)) ?_; (with_reducible refine (laws_heldEpochs.calls kj98 t654 _ _ t677 _ _ t678 1 t697 _ ?side1 ?side2 ?side3 ?side4 A145.out).mono ?_); (case side1 => repeat (first | exact (Kd.R_reads' HO_663001.out).2.2 | (with_reducible refine Kd.C_alloc ?_ _) | (with_reducible refine Kd.C_drewN ?_ _) | (with_reducible refine Kd.C_drew ?_))); (case side2 => exact (Kd.R_reads' HO_663001.out).2.1); (case side3 => repeat (first | exact (Kd.R_reads' HO_663002.out).2.2 | (with_reducible refine Kd.C_alloc ?_ _) | (with_reducible refine Kd.C_drewN ?_ _) | (with_reducible refine Kd.C_drew ?_))); (case side4 => exact (Kd.R_reads' HO_663002.out).2.1); rintro e w153 ⟨rfl, hb⟩; refine ⟨_, rfl, ?_⟩; have n0_ := Aside0.mk (Kd.R_below (by (with_reducible repeat (first | apply Kd.R_alloc | apply Kd.R_drewN | apply Kd.R_drew)); exact HO_646001.out) hb); have n1_ := Aside0.mk (Kd.R_below (by (with_reducible repeat (first | apply Kd.R_alloc | apply Kd.R_drewN | apply Kd.R_drew)); exact HO_646002.out) hb); have n2_ := Aside0.mk (Kd.R_below (by (with_reducible repeat (first | apply Kd.R_alloc | apply Kd.R_drewN | apply Kd.R_drew)); exact HO_654001.out) hb); have n3_ := Aside0.mk (Kd.R_below (by (with_reducible repeat (first | apply Kd.R_alloc | apply Kd.R_drewN | apply Kd.R_drew)); exact HO_654002.out) hb); have n4_ := Aside0.mk (Kd.R_below (by (with_reducible repeat (first | apply Kd.R_alloc | apply Kd.R_drewN | apply Kd.R_drew)); exact HO_663001.out) hb); have n5_ := Aside0.mk (Kd.R_below (by (with_reducible repeat (first | apply Kd.R_alloc | apply Kd.R_drewN | apply Kd.R_drew)); exact HO_663002.out) hb); have n6_ := Aside0.mk (Kd.R_below (by (with_reducible repeat (first | apply Kd.R_alloc | apply Kd.R_drewN | apply Kd.R_drew)); exact HO_696001.out) hb); have n7_ := Aside0.mk (Kd.R_below (by (with_reducible repeat (first | apply Kd.R_alloc | apply Kd.R_drewN | apply Kd.R_drew)); exact HO_696002.out) hb); have n8_ := Aside0.mk (blk_below (g := gb628) (o := .cells #[.int .i64 a0_0, .slice A0_1 l0_1.length c0_1, .slice A0_2 l0_2.length c0_2] 32 (0, 0)) (by (with_reducible repeat (first | refine blk_drewN ?_ _ | refine blk_drew ?_ | refine blk_alloc ?_ _)); exact BK628.out) hb); have n9_ := Aside0.mk (blk_below (g := gb645) (o := .cells #[.int .i64 t637, .slice Ao21 t638.length co21, .slice Ao22 t641.length co22] 25 (0, 0)) (by (with_reducible repeat (first | refine blk_drewN ?_ _ | refine blk_drew ?_ | refine blk_alloc ?_ _)); exact BK645.out) hb); have n10_ := Aside0.mk (blk_below (g := gb653) (o := .cells #[.int .i64 t646, .slice Ao29 t673.length co29, .slice Ao30 t674.length co30] 25 (0, 0)) (by (with_reducible repeat (first | refine blk_drewN ?_ _ | refine blk_drew ?_ | refine blk_alloc ?_ _)); exact BK653.out) hb); have n11_ := Aside0.mk (blk_below (g := gb662) (o := .cells #[.int .i64 t654, .slice Ao37 t677.length co37, .slice Ao38 t678.length co38] 25 (0, 0)) (by (with_reducible repeat (first | refine blk_drewN ?_ _ | refine blk_drew ?_ | refine blk_alloc ?_ _)); exact BK662.out) hb); have n12_ := Aside0.mk (blk_below (g := gb695) (o := .cells #[.int .i64 t687, .slice Ao120 t688.length co120, .slice Ao121 t691.length co121] 25 (0, 0)) (by (with_reducible repeat (first | refine blk_drewN ?_ _ | refine blk_drew ?_ | refine blk_alloc ?_ _)); exact BK695.out) hb); have n13_ := Aside0.mk (below_step (by repeat (first | (with_reducible first | exact HB.out | apply below_alloc | apply pw_below_drewN | apply below_drew1 | refine below_set ?_ GE628.out | refine below_set ?_ GE645.out | refine below_set ?_ GE653.out | refine below_set ?_ GE662.out | refine below_set ?_ GE695.out) | exact HB.out)) hb); clear HO_646001; clear HO_646002; clear HO_654001; clear HO_654002; clear HO_663001; clear HO_663002; clear HO_696001; clear HO_696002; clear BK628; clear BK645; clear BK653; clear BK662; clear BK695; clear HB; have HO_646001 := n0_; have HO_646002 := n1_; have HO_654001 := n2_; have HO_654002 := n3_; have HO_663001 := n4_; have HO_663002 := n5_; have HO_696001 := n6_; have HO_696002 := n7_; have BK628 := n8_; have BK645 := n9_; have BK653 := n10_; have BK662 := n11_; have BK695 := n12_; have HB := n13_; clear n0_ n1_ n2_ n3_ n4_ n5_ n6_ n7_ n8_ n9_ n10_ n11_ n12_ n13_; (try clear hb); (try clear hb2); (try clear hk); (try clear hi)))
                                go_ret
                                exact ⟨by first | rfl | (simp [errW_none, errW_some] <;> rfl) | (simp [*, errW_none, errW_some] <;> rfl), by repeat (first | (with_reducible first | exact HB.out | apply below_alloc | apply pw_below_drewN | apply below_drew1 | refine below_set ?_ GE628.out | refine below_set ?_ GE645.out | refine below_set ?_ GE653.out | refine below_set ?_ GE662.out | refine below_set ?_ GE695.out) | exact HB.out)⟩
                              · rw [if_neg c147] at H
                                exact absurd H (by simp)
                    · rw [if_neg c96] at H
                      exact absurd H (by simp)
          · replace c60 := Bool.eq_false_iff.mpr c60
            subst c60
            have H1 : (none) = some r := by rw [if_neg (show ¬ (false = true) by decide)] at H; exact H
            clear H
            have H := H1
            clear H1
            exact absurd H (by simp)

end Go.Proofs.Ytdbhpcekjcohdaa.Q
