import Derived.Test.YtdbhpcekjcohdaaU0
import Derived.Test.YtdbhpcekjcohdaaG24
import Derived.Test.YtdbhpcekjcohdaaG28
import Derived.Test.YtdbhpcekjcohdaaG29
import Derived.Test.YtdbhpcekjcohdaaG46
namespace Go.Proofs.Ytdbhpcekjcohdaa.Q
open Go.RowKit Go.Proofs.YtdbhpcekjcohdaaW.PrintWords Go.Proofs.YtdbhpcekjcohdaaW.PrintLast Go.Proofs.YtdbhpcekjcohdaaW.PrintMore
attribute [local go_sem] max2_int min2_int max_two min_two max_three min_three max_four min_four   -- for this text's walks alone
set_option linter.unusedVariables false
set_option linter.unusedSimpArgs false

/-! ### laws_FnExactUnpinLook: function 6 -/
mutual
def laws_FnExactUnpinLook.j0 : Nat → Int → Bool → Bool → Bool → Int → List Int → List (S70) → Int → List Int → List (S57) → Int → List Int → List (S57) → Int → List Int → List (S57) → Option (Bool)
  | 0, _, _, _, _, _, _, _, _, _, _, _, _, _, _, _, _ => none
  | k + 1, x1, x7, x10, x44, x402000, x402001, x402002, x419000, x419001, x419002, x427000, x427001, x427002, x436000, x436001, x436002 => if x44 = true then (none) else ((laws_toEpochs.f k x402000 x402001 x402002).bind fun bt437 => ((laws_eqEpochs.f k x427000 x427001 x427002 bt437.1 bt437.2.1 bt437.2.2).bind fun t444 => (if t444 = true then ((laws_markEpochs.f k x427000 x427001 x427002 1).bind fun bt445 => (if bt445.1 < 0 then (laws_FnExactUnpinLook.j1 k x1 x7 true x402000 x402001 x402002 x419000 x419001 x419002 x436000 x436001 x436002) else ((laws_eqEpochs.f k x436000 x436001 x436002 x419000 x419001 x419002).bind fun t448 => (if t448 = true then (laws_FnExactUnpinLook.j1 k x1 x7 (x10 != x7) x402000 x402001 x402002 x419000 x419001 x419002 x436000 x436001 x436002) else (laws_FnExactUnpinLook.j1 k x1 x7 true x402000 x402001 x402002 x419000 x419001 x419002 x436000 x436001 x436002))))) else (none))))
def laws_FnExactUnpinLook.j1 : Nat → Int → Bool → Bool → Int → List Int → List (S70) → Int → List Int → List (S57) → Int → List Int → List (S57) → Option (Bool)
  | 0, _, _, _, _, _, _, _, _, _, _, _, _ => none
  | k + 1, x1, x7, x65, x402000, x402001, x402002, x419000, x419001, x419002, x436000, x436001, x436002 => if x65 = true then (none) else ((laws_markEpochs.f k x436000 x436001 x436002 1).bind fun bt449 => ((laws_heldEpochs.f k x436000 bt449.2.1 bt449.2.2 1).bind fun t452 => (if t452 < 0 then (none) else (if t452 = bt449.1 then ((laws_toEpochs.f k x402000 x402001 x402002).bind fun bt453 => ((impl_UnpinLook.f k bt453.1 bt453.2.1 bt453.2.2 x1).bind fun bt460 => ((laws_eqEpochs.f k bt460.1 bt460.2.1 bt460.2.2.1 x419000 x419001 x419002).bind fun t469 => (if t469 = true then (laws_FnExactUnpinLook.j2 k bt449.1 (bt460.2.2.2 != x7) x436000 bt449.2.1 bt449.2.2) else (laws_FnExactUnpinLook.j2 k bt449.1 true x436000 bt449.2.1 bt449.2.2))))) else (none)))))
def laws_FnExactUnpinLook.j2 : Nat → Int → Bool → Int → List Int → List (S57) → Option (Bool)
  | 0, _, _, _, _, _ => none
  | k + 1, x12, x92, x436000, x436001, x436002 => if x92 = true then (none) else ((laws_heldEpochs.f k x436000 x436001 x436002 1).bind fun t470 => (if t470 < 0 then (none) else (if t470 = x12 then (some true) else (none))))
end
def laws_FnExactUnpinLook.f (k : Nat) (a0_0 : Int) (l0_1 : List Int) (l0_2 : List (S70)) (a1 : Int) : Option (Bool) := (laws_szEpochs.f a0_0 l0_1 l0_2 1048576).bind fun t402 => (if t402 < 0 then (some true) else ((laws_toEpochs.f k a0_0 l0_1 l0_2).bind fun bt403 => ((spec_UnpinLook.f k bt403.1 bt403.2.1 bt403.2.2 a1).bind fun bt410 => ((laws_toEpochs.f k a0_0 l0_1 l0_2).bind fun bt419 => ((impl_UnpinLook.f k bt419.1 bt419.2.1 bt419.2.2 a1).bind fun bt427 => ((laws_eqEpochs.f k bt427.1 bt427.2.1 bt427.2.2.1 bt410.1 bt410.2.1 bt410.2.2.1).bind fun t436 => (if t436 = true then (laws_FnExactUnpinLook.j0 k a1 bt410.2.2.2 bt427.2.2.2 (bt427.2.2.2 != bt410.2.2.2) a0_0 l0_1 l0_2 bt410.1 bt410.2.1 bt410.2.2.1 bt419.1 bt419.2.1 bt419.2.2 bt427.1 bt427.2.1 bt427.2.2.1) else (laws_FnExactUnpinLook.j0 k a1 bt410.2.2.2 bt427.2.2.2 true a0_0 l0_1 l0_2 bt410.1 bt410.2.1 bt410.2.2.1 bt419.1 bt419.2.1 bt419.2.2 bt427.1 bt427.2.1 bt427.2.2.1))))))))
theorem laws_FnExactUnpinLook.mono_l : ∀ k, (∀ y0 y1 y2 y3 y4 y5 y6 y7 y8 y9 y10 y11 y12 y13 y14 y15, LeO (laws_FnExactUnpinLook.j0 k y0 y1 y2 y3 y4 y5 y6 y7 y8 y9 y10 y11 y12 y13 y14 y15) (laws_FnExactUnpinLook.j0 (k + 1) y0 y1 y2 y3 y4 y5 y6 y7 y8 y9 y10 y11 y12 y13 y14 y15)) ∧ (∀ y0 y1 y2 y3 y4 y5 y6 y7 y8 y9 y10 y11, LeO (laws_FnExactUnpinLook.j1 k y0 y1 y2 y3 y4 y5 y6 y7 y8 y9 y10 y11) (laws_FnExactUnpinLook.j1 (k + 1) y0 y1 y2 y3 y4 y5 y6 y7 y8 y9 y10 y11)) ∧ (∀ y0 y1 y2 y3 y4, LeO (laws_FnExactUnpinLook.j2 k y0 y1 y2 y3 y4) (laws_FnExactUnpinLook.j2 (k + 1) y0 y1 y2 y3 y4))
  | 0 => ⟨fun _ _ _ _ _ _ _ _ _ _ _ _ _ _ _ _ r h => by simp [laws_FnExactUnpinLook.j0] at h, fun _ _ _ _ _ _ _ _ _ _ _ _ r h => by simp [laws_FnExactUnpinLook.j1] at h, fun _ _ _ _ _ r h => by simp [laws_FnExactUnpinLook.j2] at h⟩
  | k + 1 => by
    obtain ⟨ih0, ih1, ih2⟩ := laws_FnExactUnpinLook.mono_l k
    refine ⟨?_, ?_, ?_⟩
    · intro y0 y1 y2 y3 y4 y5 y6 y7 y8 y9 y10 y11 y12 y13 y14 y15
      unfold laws_FnExactUnpinLook.j0
      repeat' first
      | (with_reducible exact ih0 _ _ _ _ _ _ _ _ _ _ _ _ _ _ _ _)
      | (with_reducible exact ih1 _ _ _ _ _ _ _ _ _ _ _ _)
      | (with_reducible exact ih2 _ _ _ _ _)
      | (with_reducible exact impl_UnpinLook.mono _ _ _ _ _)
      | (with_reducible exact laws_eqEpochs.mono _ _ _ _ _ _ _)
      | (with_reducible exact laws_heldEpochs.mono _ _ _ _ _)
      | (with_reducible exact laws_markEpochs.mono _ _ _ _ _)
      | (with_reducible exact laws_toEpochs.mono _ _ _ _)
      | (with_reducible exact spec_UnpinLook.mono _ _ _ _ _)
      | (with_reducible exact LeO.refl _)
      | (with_reducible exact LeO.none _)
      | (with_reducible refine LeO.ite ?_ ?_)
      | (with_reducible refine LeO.bind ?_ (fun _ => ?_))
      | exact ih0 _ _ _ _ _ _ _ _ _ _ _ _ _ _ _ _
      | exact ih1 _ _ _ _ _ _ _ _ _ _ _ _
      | exact ih2 _ _ _ _ _
      | exact impl_UnpinLook.mono _ _ _ _ _
      | exact laws_eqEpochs.mono _ _ _ _ _ _ _
      | exact laws_heldEpochs.mono _ _ _ _ _
      | exact laws_markEpochs.mono _ _ _ _ _
      | exact laws_toEpochs.mono _ _ _ _
      | exact spec_UnpinLook.mono _ _ _ _ _
      | exact LeO.none _
      | refine LeO.ite ?_ ?_
      | refine LeO.bind ?_ (fun _ => ?_)
    · intro y0 y1 y2 y3 y4 y5 y6 y7 y8 y9 y10 y11
      unfold laws_FnExactUnpinLook.j1
      repeat' first
      | (with_reducible exact ih0 _ _ _ _ _ _ _ _ _ _ _ _ _ _ _ _)
      | (with_reducible exact ih1 _ _ _ _ _ _ _ _ _ _ _ _)
      | (with_reducible exact ih2 _ _ _ _ _)
      | (with_reducible exact impl_UnpinLook.mono _ _ _ _ _)
      | (with_reducible exact laws_eqEpochs.mono _ _ _ _ _ _ _)
      | (with_reducible exact laws_heldEpochs.mono _ _ _ _ _)
      | (with_reducible exact laws_markEpochs.mono _ _ _ _ _)
      | (with_reducible exact laws_toEpochs.mono _ _ _ _)
      | (with_reducible exact spec_UnpinLook.mono _ _ _ _ _)
      | (with_reducible exact LeO.refl _)
      | (with_reducible exact LeO.none _)
      | (with_reducible refine LeO.ite ?_ ?_)
      | (with_reducible refine LeO.bind ?_ (fun _ => ?_))
      | exact ih0 _ _ _ _ _ _ _ _ _ _ _ _ _ _ _ _
      | exact ih1 _ _ _ _ _ _ _ _ _ _ _ _
      | exact ih2 _ _ _ _ _
      | exact impl_UnpinLook.mono _ _ _ _ _
      | exact laws_eqEpochs.mono _ _ _ _ _ _ _
      | exact laws_heldEpochs.mono _ _ _ _ _
      | exact laws_markEpochs.mono _ _ _ _ _
      | exact laws_toEpochs.mono _ _ _ _
      | exact spec_UnpinLook.mono _ _ _ _ _
      | exact LeO.none _
      | refine LeO.ite ?_ ?_
      | refine LeO.bind ?_ (fun _ => ?_)
    · intro y0 y1 y2 y3 y4
      unfold laws_FnExactUnpinLook.j2
      repeat' first
      | (with_reducible exact ih0 _ _ _ _ _ _ _ _ _ _ _ _ _ _ _ _)
      | (with_reducible exact ih1 _ _ _ _ _ _ _ _ _ _ _ _)
      | (with_reducible exact ih2 _ _ _ _ _)
      | (with_reducible exact impl_UnpinLook.mono _ _ _ _ _)
      | (with_reducible exact laws_eqEpochs.mono _ _ _ _ _ _ _)
      | (with_reducible exact laws_heldEpochs.mono _ _ _ _ _)
      | (with_reducible exact laws_markEpochs.mono _ _ _ _ _)
      | (with_reducible exact laws_toEpochs.mono _ _ _ _)
      | (with_reducible exact spec_UnpinLook.mono _ _ _ _ _)
      | (with_reducible exact LeO.refl _)
      | (with_reducible exact LeO.none _)
      | (with_reducible refine LeO.ite ?_ ?_)
      | (with_reducible refine LeO.bind ?_ (fun _ => ?_))
      | exact ih0 _ _ _ _ _ _ _ _ _ _ _ _ _ _ _ _
      | exact ih1 _ _ _ _ _ _ _ _ _ _ _ _
      | exact ih2 _ _ _ _ _
      | exact impl_UnpinLook.mono _ _ _ _ _
      | exact laws_eqEpochs.mono _ _ _ _ _ _ _
      | exact laws_heldEpochs.mono _ _ _ _ _
      | exact laws_markEpochs.mono _ _ _ _ _
      | exact laws_toEpochs.mono _ _ _ _
      | exact spec_UnpinLook.mono _ _ _ _ _
      | exact LeO.none _
      | refine LeO.ite ?_ ?_
      | refine LeO.bind ?_ (fun _ => ?_)
theorem laws_FnExactUnpinLook.mono : ∀ a0 a1 a2 a3 k, LeO (laws_FnExactUnpinLook.f k a0 a1 a2 a3) (laws_FnExactUnpinLook.f (k + 1) a0 a1 a2 a3) := by
  intro a0 a1 a2 a3 k
  obtain ⟨ih0, ih1, ih2⟩ := laws_FnExactUnpinLook.mono_l k
  unfold laws_FnExactUnpinLook.f
  repeat' first
      | (with_reducible exact ih0 _ _ _ _ _ _ _ _ _ _ _ _ _ _ _ _)
      | (with_reducible exact ih1 _ _ _ _ _ _ _ _ _ _ _ _)
      | (with_reducible exact ih2 _ _ _ _ _)
      | (with_reducible exact impl_UnpinLook.mono _ _ _ _ _)
      | (with_reducible exact laws_eqEpochs.mono _ _ _ _ _ _ _)
      | (with_reducible exact laws_heldEpochs.mono _ _ _ _ _)
      | (with_reducible exact laws_markEpochs.mono _ _ _ _ _)
      | (with_reducible exact laws_toEpochs.mono _ _ _ _)
      | (with_reducible exact spec_UnpinLook.mono _ _ _ _ _)
      | (with_reducible exact LeO.refl _)
      | (with_reducible exact LeO.none _)
      | (with_reducible refine LeO.ite ?_ ?_)
      | (with_reducible refine LeO.bind ?_ (fun _ => ?_))
      | exact ih0 _ _ _ _ _ _ _ _ _ _ _ _ _ _ _ _
      | exact ih1 _ _ _ _ _ _ _ _ _ _ _ _
      | exact ih2 _ _ _ _ _
      | exact impl_UnpinLook.mono _ _ _ _ _
      | exact laws_eqEpochs.mono _ _ _ _ _ _ _
      | exact laws_heldEpochs.mono _ _ _ _ _
      | exact laws_markEpochs.mono _ _ _ _ _
      | exact laws_toEpochs.mono _ _ _ _
      | exact spec_UnpinLook.mono _ _ _ _ _
      | exact LeO.none _
      | refine LeO.ite ?_ ?_
      | refine LeO.bind ?_ (fun _ => ?_)
set_option maxHeartbeats 8000000 in
set_option maxRecDepth 100000 in
theorem laws_FnExactUnpinLook.calls (k : Nat) (a0_0 : Int) (A0_1 : Option Addr) (c0_1 : Nat) (l0_1 : List Int) (A0_2 : Option Addr) (c0_2 : Nat) (l0_2 : List (S70)) (a1 : Int) (r : Bool) (w : World) (hr0_1 : Kd.C (Kd.int .i64) w A0_1 l0_1.length l0_1) (hc0_1 : l0_1.length ≤ c0_1) (hr0_2 : Kd.C k70 w A0_2 l0_2.length l0_2) (hc0_2 : l0_2.length ≤ c0_2) (h : laws_FnExactUnpinLook.f k a0_0 l0_1 l0_2 a1 = some r) :
    Calls Try.prog 6 #[.agg #[.int .i64 a0_0, .slice A0_1 l0_1.length c0_1, .slice A0_2 l0_2.length c0_2], .int .i64 a1] w fun e w' => e = .returned (.bool r) ∧ Below w.heap.size w w' := by
  have hu32 := Try.underlying32
  have hu25 := Try.underlying25
  have HR0_1 := Aside0.mk hr0_1
  have HC0_1 := Aside0.mk hc0_1
  clear hr0_1 hc0_1
  have HR0_2 := Aside0.mk hr0_2
  have HC0_2 := Aside0.mk hc0_2
  clear hr0_2 hc0_2
  have HB := Aside0.mk (Below.refl w.heap.size w)
  have H : ((laws_szEpochs.f a0_0 l0_1 l0_2 1048576).bind fun t402 => (if t402 < 0 then (some true) else ((laws_toEpochs.f k a0_0 l0_1 l0_2).bind fun bt403 => ((spec_UnpinLook.f k bt403.1 bt403.2.1 bt403.2.2 a1).bind fun bt410 => ((laws_toEpochs.f k a0_0 l0_1 l0_2).bind fun bt419 => ((impl_UnpinLook.f k bt419.1 bt419.2.1 bt419.2.2 a1).bind fun bt427 => ((laws_eqEpochs.f k bt427.1 bt427.2.1 bt427.2.2.1 bt410.1 bt410.2.1 bt410.2.2.1).bind fun t436 => (if t436 = true then (laws_FnExactUnpinLook.j0 k a1 bt410.2.2.2 bt427.2.2.2 (bt427.2.2.2 != bt410.2.2.2) a0_0 l0_1 l0_2 bt410.1 bt410.2.1 bt410.2.2.1 bt419.1 bt419.2.1 bt419.2.2 bt427.1 bt427.2.1 bt427.2.2.1) else (laws_FnExactUnpinLook.j0 k a1 bt410.2.2.2 bt427.2.2.2 true a0_0 l0_1 l0_2 bt410.1 bt410.2.1 bt410.2.2.1 bt419.1 bt419.2.1 bt419.2.2 bt427.1 bt427.2.1 bt427.2.2.1))))))))) = some r := h
  clear h
  replace H := Option.bind_eq_some_iff.mp H
  obtain ⟨t402, A30, H⟩ := H
  replace H : (if t402 < 0 then (some true) else ((laws_toEpochs.f k a0_0 l0_1 l0_2).bind fun bt403 => ((spec_UnpinLook.f k bt403.1 bt403.2.1 bt403.2.2 a1).bind fun bt410 => ((laws_toEpochs.f k a0_0 l0_1 l0_2).bind fun bt419 => ((impl_UnpinLook.f k bt419.1 bt419.2.1 bt419.2.2 a1).bind fun bt427 => ((laws_eqEpochs.f k bt427.1 bt427.2.1 bt427.2.2.1 bt410.1 bt410.2.1 bt410.2.2.1).bind fun t436 => (if t436 = true then (laws_FnExactUnpinLook.j0 k a1 bt410.2.2.2 bt427.2.2.2 (bt427.2.2.2 != bt410.2.2.2) a0_0 l0_1 l0_2 bt410.1 bt410.2.1 bt410.2.2.1 bt419.1 bt419.2.1 bt419.2.2 bt427.1 bt427.2.1 bt427.2.2.1) else (laws_FnExactUnpinLook.j0 k a1 bt410.2.2.2 bt427.2.2.2 true a0_0 l0_1 l0_2 bt410.1 bt410.2.1 bt410.2.2.1 bt419.1 bt419.2.1 bt419.2.2 bt427.1 bt427.2.1 bt427.2.2.1)))))))) = some r := H
  have A3 := Aside0.mk A30
  clear A30
  have HS4 := Aside0.mk H
  clear H
  go_enter Try.func6, Try.ntmps6
  go_upto_if 20 with (first | ((with_reducible refine gate_dst (N := 2) rfl ?_); refine box_event ?hg (N := 2) ?hd (cs := #[.int .i64 a0_0, .slice A0_1 l0_1.length c0_1, .slice A0_2 l0_2.length c0_2]) (t := 32) ?hr ?_; (case hd => rfl); (case hg => rfl); (case hr => first | (go_simp; done) | (go_simp; rfl)); intro gb401 hg w5 hbox hb; have n0_ := Aside0.mk (below_step (by repeat (first | (with_reducible first | exact HB.out | apply below_alloc | apply pw_below_drewN | apply below_drew1) | exact HB.out)) hb); have n1_ := Aside0.mk (hbox); have n2_ := Aside0.mk ((by rw [hg]; exact (below_size (by repeat (first | (with_reducible first | exact HB.out | apply below_alloc | apply pw_below_drewN | apply below_drew1) | exact HB.out))) : w.heap.size ≤ gb401)); have n3_ := Aside0.mk ((by rw [hg]; exact (below_size (by repeat (first | (with_reducible first | exact HB.out | apply below_alloc | apply pw_below_drewN | apply below_drew1) | exact HB.out))) : w.heap.size ≤ gb401)); clear HB; have HB := n0_; have BK401 := n1_; have GW401 := n2_; have GE401 := n3_; clear n0_ n1_ n2_ n3_; clear hb hbox hg; have hcz6_0 : w5.cell? ⟨gb401, 0, none⟩ = some (.int .i64 a0_0) := (blk_cell BK401.out 0).trans rfl; have hcz6_1 : w5.cell? ⟨gb401, 1, none⟩ = some (.slice A0_1 l0_1.length c0_1) := (blk_cell BK401.out 1).trans rfl; have hcz6_2 : w5.cell? ⟨gb401, 2, none⟩ = some (.slice A0_2 l0_2.length c0_2) := (blk_cell BK401.out 2).trans rfl; have hfz6_0 := blk_frozen BK401.out 0; have hfz6_1 := blk_frozen BK401.out 1; have hfz6_2 := blk_frozen BK401.out 2) | ((with_reducible refine gate_callee (f := 18) rfl ?_); refine goesL_ (some 18) rfl rfl Try.func18 (by kernel_rfl) rfl #[.agg #[.int .i64 a0_0, .slice A0_1 l0_1.length c0_1, .slice A0_2 l0_2.length c0_2], .int .i64 1048576] rfl (by (try simp only [List.map_toArray, List.map_cons, List.map_nil]); first | done | rfl | (simp only [List.length_drop, List.length_take]; rfl)) ?_; (with_reducible refine (laws_szEpochs.calls a0_0 _ _ l0_1 _ _ l0_2 1048576 t402 _ ?side1 ?side2 ?side3 ?side4 A3.out).mono ?_); (case side1 => repeat (first | exact (Kd.C_below HR0_1.out HB.out) | (with_reducible refine Kd.C_alloc ?_ _) | (with_reducible refine Kd.C_drewN ?_ _) | (with_reducible refine Kd.C_drew ?_))); (case side2 => exact HC0_1.out); (case side3 => repeat (first | exact (Kd.C_below HR0_2.out HB.out) | (with_reducible refine Kd.C_alloc ?_ _) | (with_reducible refine Kd.C_drewN ?_ _) | (with_reducible refine Kd.C_drew ?_))); (case side4 => exact HC0_2.out); rintro e w7 ⟨rfl, hb⟩; refine ⟨_, rfl, ?_⟩; have n0_ := Aside0.mk (blk_below (g := gb401) (o := .cells #[.int .i64 a0_0, .slice A0_1 l0_1.length c0_1, .slice A0_2 l0_2.length c0_2] 32 (0, 0)) (by (with_reducible repeat (first | refine blk_drewN ?_ _ | refine blk_drew ?_ | refine blk_alloc ?_ _)); exact BK401.out) hb); have n1_ := Aside0.mk (below_step (by repeat (first | (with_reducible first | exact HB.out | apply below_alloc | apply pw_below_drewN | apply below_drew1 | refine below_set ?_ GE401.out) | exact HB.out)) hb); clear BK401; clear HB; have BK401 := n0_; have HB := n1_; clear n0_ n1_; (try clear hb); (try clear hb2); (try clear hk); (try clear hi)))
  (try simp only [Act.put, List.setIfInBounds_toArray, List.set_cons_zero, List.set_cons_succ])
  have H := HS4.out
  clear HS4
  by_cases c8 : t402 < 0
  · rw [if_pos c8] at H
    have c8b0 : decide (t402 < 0) = true := decide_eq_true c8
    clear c8
    (first | rw [c8b0] | (simp only [i64_w, i32_w]; rw [c8b0]) | skip)
    obtain rfl := Option.some.inj H
    go_wp2
    go_ret
    exact ⟨by first | rfl | (simp [errW_none, errW_some] <;> rfl) | (simp [*, errW_none, errW_some] <;> rfl), by repeat (first | (with_reducible first | exact HB.out | apply below_alloc | apply pw_below_drewN | apply below_drew1 | refine below_set ?_ GE401.out) | exact HB.out)⟩
  · rw [if_neg c8] at H
    have c8b0 : decide (t402 < 0) = false := decide_eq_false c8
    clear c8
    (first | rw [c8b0] | (simp only [i64_w, i32_w]; rw [c8b0]) | skip)
    replace H := Option.bind_eq_some_iff.mp H
    obtain ⟨⟨t403, t404, t407⟩, A90, H⟩ := H
    replace H : ((spec_UnpinLook.f k t403 t404 t407 a1).bind fun bt410 => ((laws_toEpochs.f k a0_0 l0_1 l0_2).bind fun bt419 => ((impl_UnpinLook.f k bt419.1 bt419.2.1 bt419.2.2 a1).bind fun bt427 => ((laws_eqEpochs.f k bt427.1 bt427.2.1 bt427.2.2.1 bt410.1 bt410.2.1 bt410.2.2.1).bind fun t436 => (if t436 = true then (laws_FnExactUnpinLook.j0 k a1 bt410.2.2.2 bt427.2.2.2 (bt427.2.2.2 != bt410.2.2.2) a0_0 l0_1 l0_2 bt410.1 bt410.2.1 bt410.2.2.1 bt419.1 bt419.2.1 bt419.2.2 bt427.1 bt427.2.1 bt427.2.2.1) else (laws_FnExactUnpinLook.j0 k a1 bt410.2.2.2 bt427.2.2.2 true a0_0 l0_1 l0_2 bt410.1 bt410.2.1 bt410.2.2.1 bt419.1 bt419.2.1 bt419.2.2 bt427.1 bt427.2.1 bt427.2.2.1)))))) = some r := H
    have A9 := Aside0.mk A90
    clear A90
    replace H := Option.bind_eq_some_iff.mp H
    obtain ⟨⟨t410, t411, t414, t417⟩, A100, H⟩ := H
    replace H : ((laws_toEpochs.f k a0_0 l0_1 l0_2).bind fun bt419 => ((impl_UnpinLook.f k bt419.1 bt419.2.1 bt419.2.2 a1).bind fun bt427 => ((laws_eqEpochs.f k bt427.1 bt427.2.1 bt427.2.2.1 t410 t411 t414).bind fun t436 => (if t436 = true then (laws_FnExactUnpinLook.j0 k a1 t417 bt427.2.2.2 (bt427.2.2.2 != t417) a0_0 l0_1 l0_2 t410 t411 t414 bt419.1 bt419.2.1 bt419.2.2 bt427.1 bt427.2.1 bt427.2.2.1) else (laws_FnExactUnpinLook.j0 k a1 t417 bt427.2.2.2 true a0_0 l0_1 l0_2 t410 t411 t414 bt419.1 bt419.2.1 bt419.2.2 bt427.1 bt427.2.1 bt427.2.2.1))))) = some r := H
    have A10 := Aside0.mk A100
    clear A100
    replace H := Option.bind_eq_some_iff.mp H
    obtain ⟨⟨t419, t420, t423⟩, A110, H⟩ := H
    replace H : ((impl_UnpinLook.f k t419 t420 t423 a1).bind fun bt427 => ((laws_eqEpochs.f k bt427.1 bt427.2.1 bt427.2.2.1 t410 t411 t414).bind fun t436 => (if t436 = true then (laws_FnExactUnpinLook.j0 k a1 t417 bt427.2.2.2 (bt427.2.2.2 != t417) a0_0 l0_1 l0_2 t410 t411 t414 t419 t420 t423 bt427.1 bt427.2.1 bt427.2.2.1) else (laws_FnExactUnpinLook.j0 k a1 t417 bt427.2.2.2 true a0_0 l0_1 l0_2 t410 t411 t414 t419 t420 t423 bt427.1 bt427.2.1 bt427.2.2.1)))) = some r := H
    have A11 := Aside0.mk A110
    clear A110
    replace H := Option.bind_eq_some_iff.mp H
    obtain ⟨⟨t427, t428, t431, t434⟩, A120, H⟩ := H
    replace H : ((laws_eqEpochs.f k t427 t428 t431 t410 t411 t414).bind fun t436 => (if t436 = true then (laws_FnExactUnpinLook.j0 k a1 t417 t434 (t434 != t417) a0_0 l0_1 l0_2 t410 t411 t414 t419 t420 t423 t427 t428 t431) else (laws_FnExactUnpinLook.j0 k a1 t417 t434 true a0_0 l0_1 l0_2 t410 t411 t414 t419 t420 t423 t427 t428 t431))) = some r := H
    have A12 := Aside0.mk A120
    clear A120
    have HC13 := Aside0.mk H
    clear H
    have hcz14_0 : w7.cell? ⟨gb401, 0, none⟩ = some (.int .i64 a0_0) := (blk_cell BK401.out 0).trans rfl
    have hcz14_1 : w7.cell? ⟨gb401, 1, none⟩ = some (.slice A0_1 l0_1.length c0_1) := (blk_cell BK401.out 1).trans rfl
    have hcz14_2 : w7.cell? ⟨gb401, 2, none⟩ = some (.slice A0_2 l0_2.length c0_2) := (blk_cell BK401.out 2).trans rfl
    have hfz14_0 := blk_frozen BK401.out 0
    have hfz14_1 := blk_frozen BK401.out 1
    have hfz14_2 := blk_frozen BK401.out 2
    go_upto_region 8 with (first | ((with_reducible refine gate_callee (f := 20) rfl ?_); refine goesL_ (some 23) rfl rfl Try.func20 (by kernel_rfl) rfl #[.agg #[.int .i64 a0_0, .slice A0_1 l0_1.length c0_1, .slice A0_2 l0_2.length c0_2]] rfl (by (try simp only [List.map_toArray, List.map_cons, List.map_nil]); first | done | rfl | (simp only [List.length_drop, List.length_take]; rfl)) ?_; (with_reducible refine (laws_toEpochs.calls k a0_0 _ _ l0_1 _ _ l0_2 t403 t404 t407 _ ?side1 ?side2 ?side3 ?side4 A9.out).mono ?_); (case side1 => repeat (first | exact (Kd.C_below HR0_1.out HB.out) | (with_reducible refine Kd.C_alloc ?_ _) | (with_reducible refine Kd.C_drewN ?_ _) | (with_reducible refine Kd.C_drew ?_))); (case side2 => exact HC0_1.out); (case side3 => repeat (first | exact (Kd.C_below HR0_2.out HB.out) | (with_reducible refine Kd.C_alloc ?_ _) | (with_reducible refine Kd.C_drewN ?_ _) | (with_reducible refine Kd.C_drew ?_))); (case side4 => exact HC0_2.out); rintro e w15 ⟨v405, v408, rfl, ho0, ho1, hb⟩; refine ⟨_, rfl, ?_⟩; have n0_ := Aside0.mk (Kd.R_lower ho0 (below_size (by repeat (first | (with_reducible first | exact HB.out | apply below_alloc | apply pw_below_drewN | apply below_drew1 | refine below_set ?_ GE401.out) | exact HB.out)))); have n1_ := Aside0.mk (Kd.R_lower ho1 (below_size (by repeat (first | (with_reducible first | exact HB.out | apply below_alloc | apply pw_below_drewN | apply below_drew1 | refine below_set ?_ GE401.out) | exact HB.out)))); have n2_ := Aside0.mk (blk_below (g := gb401) (o := .cells #[.int .i64 a0_0, .slice A0_1 l0_1.length c0_1, .slice A0_2 l0_2.length c0_2] 32 (0, 0)) (by (with_reducible repeat (first | refine blk_drewN ?_ _ | refine blk_drew ?_ | refine blk_alloc ?_ _)); exact BK401.out) hb); have n3_ := Aside0.mk (below_step (by repeat (first | (with_reducible first | exact HB.out | apply below_alloc | apply pw_below_drewN | apply below_drew1 | refine below_set ?_ GE401.out) | exact HB.out)) hb); clear BK401; clear HB; have HO406 := n0_; have HO409 := n1_; have BK401 := n2_; have HB := n3_; clear n0_ n1_ n2_ n3_; (try clear hb); (try clear hb2); (try clear hk); (try clear hi); (try clear ho0); (try clear ho1); obtain ⟨Ao16, co16, eo16⟩ := Kd.R_slice HO406.out; subst eo16; obtain ⟨Ao17, co17, eo17⟩ := Kd.R_slice HO409.out; subst eo17) | ((with_reducible refine gate_callee (f := 24) rfl ?_); refine goesL_ (some 25) rfl rfl Try.func24 (by kernel_rfl) rfl #[.agg #[.int .i64 t403, .slice Ao16 t404.length co16, .slice Ao17 t407.length co17], .int .i64 a1] rfl (by (try simp only [List.map_toArray, List.map_cons, List.map_nil]); first | done | rfl | (simp only [List.length_drop, List.length_take]; rfl)) ?_; (with_reducible refine (spec_UnpinLook.calls k t403 _ _ t404 _ _ t407 a1 t410 t411 t414 t417 _ ?side1 ?side2 ?side3 ?side4 A10.out).mono ?_); (case side1 => repeat (first | exact (Kd.R_reads' HO406.out).2.2 | (with_reducible refine Kd.C_alloc ?_ _) | (with_reducible refine Kd.C_drewN ?_ _) | (with_reducible refine Kd.C_drew ?_))); (case side2 => exact (Kd.R_reads' HO406.out).2.1); (case side3 => repeat (first | exact (Kd.R_reads' HO409.out).2.2 | (with_reducible refine Kd.C_alloc ?_ _) | (with_reducible refine Kd.C_drewN ?_ _) | (with_reducible refine Kd.C_drew ?_))); (case side4 => exact (Kd.R_reads' HO409.out).2.1); rintro e w18 ⟨v412, v415, rfl, ho0, ho1, hb⟩; refine ⟨_, rfl, ?_⟩; have n0_ := Aside0.mk (Kd.R_elder' (by (with_reducible repeat (first | apply Kd.R_alloc | apply Kd.R_drewN | apply Kd.R_drew)); exact HO406.out) (Kd.R_base ho0) hb); have n1_ := Aside0.mk (Kd.R_elder' (by (with_reducible repeat (first | apply Kd.R_alloc | apply Kd.R_drewN | apply Kd.R_drew)); exact HO409.out) (Kd.R_base ho1) hb); have n2_ := Aside0.mk (Kd.R_lower (Kd.R_new' ho0 (Kd.R_lt (by (with_reducible repeat (first | apply Kd.R_alloc | apply Kd.R_drewN | apply Kd.R_drew)); exact HO406.out))) (below_size (by repeat (first | (with_reducible first | exact HB.out | apply below_alloc | apply pw_below_drewN | apply below_drew1 | refine below_set ?_ GE401.out) | exact HB.out)))); have n3_ := Aside0.mk (Kd.R_lower (Kd.R_new' ho1 (Kd.R_lt (by (with_reducible repeat (first | apply Kd.R_alloc | apply Kd.R_drewN | apply Kd.R_drew)); exact HO409.out))) (below_size (by repeat (first | (with_reducible first | exact HB.out | apply below_alloc | apply pw_below_drewN | apply below_drew1 | refine below_set ?_ GE401.out) | exact HB.out)))); have n4_ := Aside0.mk (blk_below (g := gb401) (o := .cells #[.int .i64 a0_0, .slice A0_1 l0_1.length c0_1, .slice A0_2 l0_2.length c0_2] 32 (0, 0)) (by (with_reducible repeat (first | refine blk_drewN ?_ _ | refine blk_drew ?_ | refine blk_alloc ?_ _)); exact BK401.out) hb); have n5_ := Aside0.mk (below_step (by repeat (first | (with_reducible first | exact HB.out | apply below_alloc | apply pw_below_drewN | apply below_drew1 | refine below_set ?_ GE401.out) | exact HB.out)) hb); clear HO406; clear HO409; clear BK401; clear HB; have HO406 := n0_; have HO409 := n1_; have HO413 := n2_; have HO416 := n3_; have BK401 := n4_; have HB := n5_; clear n0_ n1_ n2_ n3_ n4_ n5_; (try clear hb); (try clear hb2); (try clear hk); (try clear hi); (try clear ho0); (try clear ho1)) | ((with_reducible refine gate_dst (N := 6) rfl ?_); refine box_event ?hg (N := 6) ?hd (cs := #[.int .i64 0, .slice none 0 0, .slice none 0 0]) (t := 25) ?hr ?_; (case hd => rfl); (case hg => rfl); (case hr => first | (go_simp; done) | (go_simp; rfl)); intro gb418 hg w19 hbox hb; have n0_ := Aside0.mk (Kd.R_below (by (with_reducible repeat (first | apply Kd.R_alloc | apply Kd.R_drewN | apply Kd.R_drew)); exact HO406.out) hb); have n1_ := Aside0.mk (Kd.R_below (by (with_reducible repeat (first | apply Kd.R_alloc | apply Kd.R_drewN | apply Kd.R_drew)); exact HO409.out) hb); have n2_ := Aside0.mk (Kd.R_below (by (with_reducible repeat (first | apply Kd.R_alloc | apply Kd.R_drewN | apply Kd.R_drew)); exact HO413.out) hb); have n3_ := Aside0.mk (Kd.R_below (by (with_reducible repeat (first | apply Kd.R_alloc | apply Kd.R_drewN | apply Kd.R_drew)); exact HO416.out) hb); have n4_ := Aside0.mk (blk_below (g := gb401) (o := .cells #[.int .i64 a0_0, .slice A0_1 l0_1.length c0_1, .slice A0_2 l0_2.length c0_2] 32 (0, 0)) (by (with_reducible repeat (first | refine blk_drewN ?_ _ | refine blk_drew ?_ | refine blk_alloc ?_ _)); exact BK401.out) hb); have n5_ := Aside0.mk (below_step (by repeat (first | (with_reducible first | exact HB.out | apply below_alloc | apply pw_below_drewN | apply below_drew1 | refine below_set ?_ GE401.out) | exact HB.out)) hb); have n6_ := Aside0.mk (hbox); have n7_ := Aside0.mk ((by rw [hg]; exact (below_size (by repeat (first | (with_reducible first | exact HB.out | apply below_alloc | apply pw_below_drewN | apply below_drew1 | refine below_set ?_ GE401.out) | exact HB.out))) : w.heap.size ≤ gb418)); have n8_ := Aside0.mk ((by rw [hg]; exact (below_size (by repeat (first | (with_reducible first | exact HB.out | apply below_alloc | apply pw_below_drewN | apply below_drew1 | refine below_set ?_ GE401.out) | exact HB.out))) : w.heap.size ≤ gb418)); have n9_ := Aside0.mk ((by rw [hg]; exact Nat.ne_of_lt (blk_lt (g := gb401) (o := .cells #[.int .i64 a0_0, .slice A0_1 l0_1.length c0_1, .slice A0_2 l0_2.length c0_2] 32 (0, 0)) (by (with_reducible repeat (first | refine blk_drewN ?_ _ | refine blk_drew ?_ | refine blk_alloc ?_ _)); exact BK401.out)) : gb401 ≠ gb418)); have n10_ := Aside0.mk ((by rw [hg]; exact Nat.ne_of_gt (blk_lt (g := gb401) (o := .cells #[.int .i64 a0_0, .slice A0_1 l0_1.length c0_1, .slice A0_2 l0_2.length c0_2] 32 (0, 0)) (by (with_reducible repeat (first | refine blk_drewN ?_ _ | refine blk_drew ?_ | refine blk_alloc ?_ _)); exact BK401.out)) : gb418 ≠ gb401)); clear HO406; clear HO409; clear HO413; clear HO416; clear BK401; clear HB; have HO406 := n0_; have HO409 := n1_; have HO413 := n2_; have HO416 := n3_; have BK401 := n4_; have HB := n5_; have BK418 := n6_; have GW418 := n7_; have GE418 := n8_; have NB401_418 := n9_; have NB418_401 := n10_; clear n0_ n1_ n2_ n3_ n4_ n5_ n6_ n7_ n8_ n9_ n10_; clear hb hbox hg; have hnb20 := NB418_401.out; have hnc20 := NB401_418.out; have hcz21_0 : w19.cell? ⟨gb418, 0, none⟩ = some (.int .i64 0) := (blk_cell BK418.out 0).trans rfl; have hcz21_1 : w19.cell? ⟨gb418, 1, none⟩ = some (.slice none 0 0) := (blk_cell BK418.out 1).trans rfl; have hcz21_2 : w19.cell? ⟨gb418, 2, none⟩ = some (.slice none 0 0) := (blk_cell BK418.out 2).trans rfl; have hfz21_0 := blk_frozen BK418.out 0; have hfz21_1 := blk_frozen BK418.out 1; have hfz21_2 := blk_frozen BK418.out 2; obtain ⟨Ao22, co22, eo22⟩ := Kd.R_slice HO413.out; subst eo22; obtain ⟨Ao23, co23, eo23⟩ := Kd.R_slice HO416.out; subst eo23; have hcz24_0 : w19.cell? ⟨gb401, 0, none⟩ = some (.int .i64 a0_0) := (blk_cell BK401.out 0).trans rfl; have hcz24_1 : w19.cell? ⟨gb401, 1, none⟩ = some (.slice A0_1 l0_1.length c0_1) := (blk_cell BK401.out 1).trans rfl; have hcz24_2 : w19.cell? ⟨gb401, 2, none⟩ = some (.slice A0_2 l0_2.length c0_2) := (blk_cell BK401.out 2).trans rfl; have hfz24_0 := blk_frozen BK401.out 0; have hfz24_1 := blk_frozen BK401.out 1; have hfz24_2 := blk_frozen BK401.out 2) | ((with_reducible refine gate_callee (f := 20) rfl ?_); refine goesL_ (some 29) rfl rfl Try.func20 (by kernel_rfl) rfl #[.agg #[.int .i64 a0_0, .slice A0_1 l0_1.length c0_1, .slice A0_2 l0_2.length c0_2]] rfl (by (try simp only [List.map_toArray, List.map_cons, List.map_nil]); first | done | rfl | (simp only [List.length_drop, List.length_take]; rfl)) ?_; (with_reducible refine (laws_toEpochs.calls k a0_0 _ _ l0_1 _ _ l0_2 t419 t420 t423 _ ?side1 ?side2 ?side3 ?side4 A11.out).mono ?_); (case side1 => exact Kd.C_below HR0_1.out (by repeat (first | (with_reducible first | exact HB.out | apply below_alloc | apply pw_below_drewN | apply below_drew1 | refine below_set ?_ GE401.out | refine below_set ?_ GE418.out) | exact HB.out))); (case side2 => exact HC0_1.out); (case side3 => exact Kd.C_below HR0_2.out (by repeat (first | (with_reducible first | exact HB.out | apply below_alloc | apply pw_below_drewN | apply below_drew1 | refine below_set ?_ GE401.out | refine below_set ?_ GE418.out) | exact HB.out))); (case side4 => exact HC0_2.out); rintro e w25 ⟨v421, v424, rfl, ho0, ho1, hb⟩; refine ⟨_, rfl, ?_⟩; have n0_ := Aside0.mk (Kd.R_elder' (by (with_reducible repeat (first | apply Kd.R_alloc | apply Kd.R_drewN | apply Kd.R_drew)); exact (Kd.R_mono (Kd.R_far (p := ⟨gb418, 2, none⟩) (Kd.R_far (p := ⟨gb418, 1, none⟩) (Kd.R_far (p := ⟨gb418, 0, none⟩) (Kd.R_types HO406.out BK418.out (by decide)) (fun _ hk => hk.2) (.int .i64 t410)) (fun _ hk => hk.2) (.slice Ao22 t411.length co22)) (fun _ hk => hk.2) (.slice Ao23 t414.length co23)) (fun _ h_ => h_.1))) (Kd.R_base ho0) hb); have n1_ := Aside0.mk (Kd.R_elder' (by (with_reducible repeat (first | apply Kd.R_alloc | apply Kd.R_drewN | apply Kd.R_drew)); exact (Kd.R_mono (Kd.R_far (p := ⟨gb418, 2, none⟩) (Kd.R_far (p := ⟨gb418, 1, none⟩) (Kd.R_far (p := ⟨gb418, 0, none⟩) (Kd.R_types HO409.out BK418.out (by decide)) (fun _ hk => hk.2) (.int .i64 t410)) (fun _ hk => hk.2) (.slice Ao22 t411.length co22)) (fun _ hk => hk.2) (.slice Ao23 t414.length co23)) (fun _ h_ => h_.1))) (Kd.R_base ho1) hb); have n2_ := Aside0.mk (Kd.R_elder' (by (with_reducible repeat (first | apply Kd.R_alloc | apply Kd.R_drewN | apply Kd.R_drew)); exact (Kd.R_mono (Kd.R_far (p := ⟨gb418, 2, none⟩) (Kd.R_far (p := ⟨gb418, 1, none⟩) (Kd.R_far (p := ⟨gb418, 0, none⟩) (Kd.R_types HO413.out BK418.out (by decide)) (fun _ hk => hk.2) (.int .i64 t410)) (fun _ hk => hk.2) (.slice Ao22 t411.length co22)) (fun _ hk => hk.2) (.slice Ao23 t414.length co23)) (fun _ h_ => h_.1))) (Kd.R_base ho0) hb); have n3_ := Aside0.mk (Kd.R_elder' (by (with_reducible repeat (first | apply Kd.R_alloc | apply Kd.R_drewN | apply Kd.R_drew)); exact (Kd.R_mono (Kd.R_far (p := ⟨gb418, 2, none⟩) (Kd.R_far (p := ⟨gb418, 1, none⟩) (Kd.R_far (p := ⟨gb418, 0, none⟩) (Kd.R_types HO416.out BK418.out (by decide)) (fun _ hk => hk.2) (.int .i64 t410)) (fun _ hk => hk.2) (.slice Ao22 t411.length co22)) (fun _ hk => hk.2) (.slice Ao23 t414.length co23)) (fun _ h_ => h_.1))) (Kd.R_base ho1) hb); have n4_ := Aside0.mk (Kd.R_lower (Kd.R_new' (Kd.R_new' ho0 (Kd.R_lt (by (with_reducible repeat (first | apply Kd.R_alloc | apply Kd.R_drewN | apply Kd.R_drew)); exact (Kd.R_mono (Kd.R_far (p := ⟨gb418, 2, none⟩) (Kd.R_far (p := ⟨gb418, 1, none⟩) (Kd.R_far (p := ⟨gb418, 0, none⟩) (Kd.R_types HO406.out BK418.out (by decide)) (fun _ hk => hk.2) (.int .i64 t410)) (fun _ hk => hk.2) (.slice Ao22 t411.length co22)) (fun _ hk => hk.2) (.slice Ao23 t414.length co23)) (fun _ h_ => h_.1))))) (Kd.R_lt (by (with_reducible repeat (first | apply Kd.R_alloc | apply Kd.R_drewN | apply Kd.R_drew)); exact (Kd.R_mono (Kd.R_far (p := ⟨gb418, 2, none⟩) (Kd.R_far (p := ⟨gb418, 1, none⟩) (Kd.R_far (p := ⟨gb418, 0, none⟩) (Kd.R_types HO413.out BK418.out (by decide)) (fun _ hk => hk.2) (.int .i64 t410)) (fun _ hk => hk.2) (.slice Ao22 t411.length co22)) (fun _ hk => hk.2) (.slice Ao23 t414.length co23)) (fun _ h_ => h_.1))))) (below_size (by repeat (first | (with_reducible first | exact HB.out | apply below_alloc | apply pw_below_drewN | apply below_drew1 | refine below_set ?_ GE401.out | refine below_set ?_ GE418.out) | exact HB.out)))); have n5_ := Aside0.mk (Kd.R_lower (Kd.R_new' (Kd.R_new' ho1 (Kd.R_lt (by (with_reducible repeat (first | apply Kd.R_alloc | apply Kd.R_drewN | apply Kd.R_drew)); exact (Kd.R_mono (Kd.R_far (p := ⟨gb418, 2, none⟩) (Kd.R_far (p := ⟨gb418, 1, none⟩) (Kd.R_far (p := ⟨gb418, 0, none⟩) (Kd.R_types HO409.out BK418.out (by decide)) (fun _ hk => hk.2) (.int .i64 t410)) (fun _ hk => hk.2) (.slice Ao22 t411.length co22)) (fun _ hk => hk.2) (.slice Ao23 t414.length co23)) (fun _ h_ => h_.1))))) (Kd.R_lt (by (with_reducible repeat (first | apply Kd.R_alloc | apply Kd.R_drewN | apply Kd.R_drew)); exact (Kd.R_mono (Kd.R_far (p := ⟨gb418, 2, none⟩) (Kd.R_far (p := ⟨gb418, 1, none⟩) (Kd.R_far (p := ⟨gb418, 0, none⟩) (Kd.R_types HO416.out BK418.out (by decide)) (fun _ hk => hk.2) (.int .i64 t410)) (fun _ hk => hk.2) (.slice Ao22 t411.length co22)) (fun _ hk => hk.2) (.slice Ao23 t414.length co23)) (fun _ h_ => h_.1))))) (below_size (by repeat (first | (with_reducible first | exact HB.out | apply below_alloc | apply pw_below_drewN | apply below_drew1 | refine below_set ?_ GE401.out | refine below_set ?_ GE418.out) | exact HB.out)))); have n6_ := Aside0.mk (blk_below (g := gb401) (o := .cells #[.int .i64 a0_0, .slice A0_1 l0_1.length c0_1, .slice A0_2 l0_2.length c0_2] 32 (0, 0)) (by (with_reducible repeat (first | refine blk_drewN ?_ _ | refine blk_drew ?_ | refine blk_alloc ?_ _)); refine blk_far ?_ NB401_418.out _; (with_reducible repeat (first | refine blk_drewN ?_ _ | refine blk_drew ?_ | refine blk_alloc ?_ _)); refine blk_far ?_ NB401_418.out _; (with_reducible repeat (first | refine blk_drewN ?_ _ | refine blk_drew ?_ | refine blk_alloc ?_ _)); refine blk_far ?_ NB401_418.out _; (with_reducible repeat (first | refine blk_drewN ?_ _ | refine blk_drew ?_ | refine blk_alloc ?_ _)); exact BK401.out) hb); have n7_ := Aside0.mk (blk_below (g := gb418) (o := .cells #[.int .i64 t410, .slice Ao22 t411.length co22, .slice Ao23 t414.length co23] 25 (0, 0)) (by (with_reducible repeat (first | refine blk_drewN ?_ _ | refine blk_drew ?_ | refine blk_alloc ?_ _)); refine blk_put (cs := #[.int .i64 t410, .slice Ao22 t411.length co22, .slice none 0 0]) ?_ 2 _ rfl; (with_reducible repeat (first | refine blk_drewN ?_ _ | refine blk_drew ?_ | refine blk_alloc ?_ _)); refine blk_put (cs := #[.int .i64 t410, .slice none 0 0, .slice none 0 0]) ?_ 1 _ rfl; (with_reducible repeat (first | refine blk_drewN ?_ _ | refine blk_drew ?_ | refine blk_alloc ?_ _)); refine blk_put (cs := #[.int .i64 0, .slice none 0 0, .slice none 0 0]) ?_ 0 _ rfl; (with_reducible repeat (first | refine blk_drewN ?_ _ | refine blk_drew ?_ | refine blk_alloc ?_ _)); exact BK418.out) hb); have n8_ := Aside0.mk (below_step (by repeat (first | (with_reducible first | exact HB.out | apply below_alloc | apply pw_below_drewN | apply below_drew1 | refine below_set ?_ GE401.out | refine below_set ?_ GE418.out) | exact HB.out)) hb); clear HO406; clear HO409; clear HO413; clear HO416; clear BK401; clear BK418; clear HB; have HO406 := n0_; have HO409 := n1_; have HO413 := n2_; have HO416 := n3_; have HO422 := n4_; have HO425 := n5_; have BK401 := n6_; have BK418 := n7_; have HB := n8_; clear n0_ n1_ n2_ n3_ n4_ n5_ n6_ n7_ n8_; (try clear hb); (try clear hb2); (try clear hk); (try clear hi); (try clear ho0); (try clear ho1)) | ((with_reducible refine gate_dst (N := 8) rfl ?_); refine box_event ?hg (N := 8) ?hd (cs := #[.int .i64 0, .slice none 0 0, .slice none 0 0]) (t := 25) ?hr ?_; (case hd => rfl); (case hg => rfl); (case hr => first | (go_simp; done) | (go_simp; rfl)); intro gb426 hg w26 hbox hb; have n0_ := Aside0.mk (Kd.R_below (by (with_reducible repeat (first | apply Kd.R_alloc | apply Kd.R_drewN | apply Kd.R_drew)); exact HO406.out) hb); have n1_ := Aside0.mk (Kd.R_below (by (with_reducible repeat (first | apply Kd.R_alloc | apply Kd.R_drewN | apply Kd.R_drew)); exact HO409.out) hb); have n2_ := Aside0.mk (Kd.R_below (by (with_reducible repeat (first | apply Kd.R_alloc | apply Kd.R_drewN | apply Kd.R_drew)); exact HO413.out) hb); have n3_ := Aside0.mk (Kd.R_below (by (with_reducible repeat (first | apply Kd.R_alloc | apply Kd.R_drewN | apply Kd.R_drew)); exact HO416.out) hb); have n4_ := Aside0.mk (Kd.R_below (by (with_reducible repeat (first | apply Kd.R_alloc | apply Kd.R_drewN | apply Kd.R_drew)); exact HO422.out) hb); have n5_ := Aside0.mk (Kd.R_below (by (with_reducible repeat (first | apply Kd.R_alloc | apply Kd.R_drewN | apply Kd.R_drew)); exact HO425.out) hb); have n6_ := Aside0.mk (blk_below (g := gb401) (o := .cells #[.int .i64 a0_0, .slice A0_1 l0_1.length c0_1, .slice A0_2 l0_2.length c0_2] 32 (0, 0)) (by (with_reducible repeat (first | refine blk_drewN ?_ _ | refine blk_drew ?_ | refine blk_alloc ?_ _)); exact BK401.out) hb); have n7_ := Aside0.mk (blk_below (g := gb418) (o := .cells #[.int .i64 t410, .slice Ao22 t411.length co22, .slice Ao23 t414.length co23] 25 (0, 0)) (by (with_reducible repeat (first | refine blk_drewN ?_ _ | refine blk_drew ?_ | refine blk_alloc ?_ _)); exact BK418.out) hb); have n8_ := Aside0.mk (below_step (by repeat (first | (with_reducible first | exact HB.out | apply below_alloc | apply pw_below_drewN | apply below_drew1 | refine below_set ?_ GE401.out | refine below_set ?_ GE418.out) | exact HB.out)) hb); have n9_ := Aside0.mk (hbox); have n10_ := Aside0.mk ((by rw [hg]; exact (below_size (by repeat (first | (with_reducible first | exact HB.out | apply below_alloc | apply pw_below_drewN | apply below_drew1 | refine below_set ?_ GE401.out | refine below_set ?_ GE418.out) | exact HB.out))) : w.heap.size ≤ gb426)); have n11_ := Aside0.mk ((by rw [hg]; exact (below_size (by repeat (first | (with_reducible first | exact HB.out | apply below_alloc | apply pw_below_drewN | apply below_drew1 | refine below_set ?_ GE401.out | refine below_set ?_ GE418.out) | exact HB.out))) : w.heap.size ≤ gb426)); have n12_ := Aside0.mk ((by rw [hg]; exact Nat.ne_of_lt (blk_lt (g := gb401) (o := .cells #[.int .i64 a0_0, .slice A0_1 l0_1.length c0_1, .slice A0_2 l0_2.length c0_2] 32 (0, 0)) (by (with_reducible repeat (first | refine blk_drewN ?_ _ | refine blk_drew ?_ | refine blk_alloc ?_ _)); exact BK401.out)) : gb401 ≠ gb426)); have n13_ := Aside0.mk ((by rw [hg]; exact Nat.ne_of_gt (blk_lt (g := gb401) (o := .cells #[.int .i64 a0_0, .slice A0_1 l0_1.length c0_1, .slice A0_2 l0_2.length c0_2] 32 (0, 0)) (by (with_reducible repeat (first | refine blk_drewN ?_ _ | refine blk_drew ?_ | refine blk_alloc ?_ _)); exact BK401.out)) : gb426 ≠ gb401)); have n14_ := Aside0.mk ((by rw [hg]; exact Nat.ne_of_lt (blk_lt (g := gb418) (o := .cells #[.int .i64 t410, .slice Ao22 t411.length co22, .slice Ao23 t414.length co23] 25 (0, 0)) (by (with_reducible repeat (first | refine blk_drewN ?_ _ | refine blk_drew ?_ | refine blk_alloc ?_ _)); exact BK418.out)) : gb418 ≠ gb426)); have n15_ := Aside0.mk ((by rw [hg]; exact Nat.ne_of_gt (blk_lt (g := gb418) (o := .cells #[.int .i64 t410, .slice Ao22 t411.length co22, .slice Ao23 t414.length co23] 25 (0, 0)) (by (with_reducible repeat (first | refine blk_drewN ?_ _ | refine blk_drew ?_ | refine blk_alloc ?_ _)); exact BK418.out)) : gb426 ≠ gb418)); clear HO406; clear HO409; clear HO413; clear HO416; clear HO422; clear HO425; clear BK401; clear BK418; clear HB; have HO406 := n0_; have HO409 := n1_; have HO413 := n2_; have HO416 := n3_; have HO422 := n4_; have HO425 := n5_; have BK401 := n6_; have BK418 := n7_; have HB := n8_; have BK426 := n9_; have GW426 := n10_; have GE426 := n11_; have NB401_426 := n12_; have NB426_401 := n13_; have NB418_426 := n14_; have NB426_418 := n15_; clear n0_ n1_ n2_ n3_ n4_ n5_ n6_ n7_ n8_ n9_ n10_ n11_ n12_ n13_ n14_ n15_; clear hb hbox hg; have hnb27 := NB426_401.out; have hnc27 := NB401_426.out; have hnb28 := NB426_418.out; have hnc28 := NB418_426.out; have hcz29_0 : w26.cell? ⟨gb426, 0, none⟩ = some (.int .i64 0) := (blk_cell BK426.out 0).trans rfl; have hcz29_1 : w26.cell? ⟨gb426, 1, none⟩ = some (.slice none 0 0) := (blk_cell BK426.out 1).trans rfl; have hcz29_2 : w26.cell? ⟨gb426, 2, none⟩ = some (.slice none 0 0) := (blk_cell BK426.out 2).trans rfl; have hfz29_0 := blk_frozen BK426.out 0; have hfz29_1 := blk_frozen BK426.out 1; have hfz29_2 := blk_frozen BK426.out 2; obtain ⟨Ao30, co30, eo30⟩ := Kd.R_slice HO422.out; subst eo30; obtain ⟨Ao31, co31, eo31⟩ := Kd.R_slice HO425.out; subst eo31) | ((with_reducible refine gate_callee (f := 25) rfl ?_); refine goesL_ (some 33) rfl rfl Try.func25 (by kernel_rfl) rfl #[.agg #[.int .i64 t419, .slice Ao30 t420.length co30, .slice Ao31 t423.length co31], .int .i64 a1] rfl (by (try simp only [List.map_toArray, List.map_cons, List.map_nil]); first | done | rfl | (simp only [List.length_drop, List.length_take]; rfl)) ?_; (with_reducible refine (impl_UnpinLook.calls k t419 _ _ t420 _ _ t423 a1 t427 t428 t431 t434 _ ?side1 ?side2 ?side3 ?side4 A12.out).mono ?_); (case side1 => refine (Kd.R_reads' (e := 3) (base := w.heap.size) (ok := fun k_ => ((True ∧ some k_ ≠ (.slice Ao16 t404.length co16 : Value).ownBlock) ∧ some k_ ≠ (.slice Ao22 t411.length co22 : Value).ownBlock)) (n := t420.length) (c := co30) ?_).2.2; exact (by (with_reducible repeat (first | apply Kd.R_alloc | apply Kd.R_drewN | apply Kd.R_drew)); exact (Kd.R_mono (Kd.R_far (p := ⟨gb426, 2, none⟩) (Kd.R_far (p := ⟨gb426, 1, none⟩) (Kd.R_far (p := ⟨gb426, 0, none⟩) (Kd.R_types HO422.out BK426.out (by decide)) (fun _ hk => hk.2) (.int .i64 t419)) (fun _ hk => hk.2) (.slice Ao30 t420.length co30)) (fun _ hk => hk.2) (.slice Ao31 t423.length co31)) (fun _ h_ => h_.1)))); (case side2 => exact (Kd.R_reads' HO422.out).2.1); (case side3 => refine (Kd.R_reads' (e := 57) (base := w.heap.size) (ok := fun k_ => ((True ∧ some k_ ≠ (.slice Ao17 t407.length co17 : Value).ownBlock) ∧ some k_ ≠ (.slice Ao23 t414.length co23 : Value).ownBlock)) (n := t423.length) (c := co31) ?_).2.2; exact (by (with_reducible repeat (first | apply Kd.R_alloc | apply Kd.R_drewN | apply Kd.R_drew)); exact (Kd.R_mono (Kd.R_far (p := ⟨gb426, 2, none⟩) (Kd.R_far (p := ⟨gb426, 1, none⟩) (Kd.R_far (p := ⟨gb426, 0, none⟩) (Kd.R_types HO425.out BK426.out (by decide)) (fun _ hk => hk.2) (.int .i64 t419)) (fun _ hk => hk.2) (.slice Ao30 t420.length co30)) (fun _ hk => hk.2) (.slice Ao31 t423.length co31)) (fun _ h_ => h_.1)))); (case side4 => exact (Kd.R_reads' HO425.out).2.1); rintro e w32 ⟨v429, v432, rfl, ho0, ho1, hb⟩; refine ⟨_, rfl, ?_⟩; have n0_ := Aside0.mk (Kd.R_elder' (by (with_reducible repeat (first | apply Kd.R_alloc | apply Kd.R_drewN | apply Kd.R_drew)); exact (Kd.R_mono (Kd.R_far (p := ⟨gb426, 2, none⟩) (Kd.R_far (p := ⟨gb426, 1, none⟩) (Kd.R_far (p := ⟨gb426, 0, none⟩) (Kd.R_types HO406.out BK426.out (by decide)) (fun _ hk => hk.2) (.int .i64 t419)) (fun _ hk => hk.2) (.slice Ao30 t420.length co30)) (fun _ hk => hk.2) (.slice Ao31 t423.length co31)) (fun _ h_ => h_.1))) (Kd.R_base ho0) hb); have n1_ := Aside0.mk (Kd.R_elder' (by (with_reducible repeat (first | apply Kd.R_alloc | apply Kd.R_drewN | apply Kd.R_drew)); exact (Kd.R_mono (Kd.R_far (p := ⟨gb426, 2, none⟩) (Kd.R_far (p := ⟨gb426, 1, none⟩) (Kd.R_far (p := ⟨gb426, 0, none⟩) (Kd.R_types HO409.out BK426.out (by decide)) (fun _ hk => hk.2) (.int .i64 t419)) (fun _ hk => hk.2) (.slice Ao30 t420.length co30)) (fun _ hk => hk.2) (.slice Ao31 t423.length co31)) (fun _ h_ => h_.1))) (Kd.R_base ho1) hb); have n2_ := Aside0.mk (Kd.R_elder' (by (with_reducible repeat (first | apply Kd.R_alloc | apply Kd.R_drewN | apply Kd.R_drew)); exact (Kd.R_mono (Kd.R_far (p := ⟨gb426, 2, none⟩) (Kd.R_far (p := ⟨gb426, 1, none⟩) (Kd.R_far (p := ⟨gb426, 0, none⟩) (Kd.R_types HO413.out BK426.out (by decide)) (fun _ hk => hk.2) (.int .i64 t419)) (fun _ hk => hk.2) (.slice Ao30 t420.length co30)) (fun _ hk => hk.2) (.slice Ao31 t423.length co31)) (fun _ h_ => h_.1))) (Kd.R_base ho0) hb); have n3_ := Aside0.mk (Kd.R_elder' (by (with_reducible repeat (first | apply Kd.R_alloc | apply Kd.R_drewN | apply Kd.R_drew)); exact (Kd.R_mono (Kd.R_far (p := ⟨gb426, 2, none⟩) (Kd.R_far (p := ⟨gb426, 1, none⟩) (Kd.R_far (p := ⟨gb426, 0, none⟩) (Kd.R_types HO416.out BK426.out (by decide)) (fun _ hk => hk.2) (.int .i64 t419)) (fun _ hk => hk.2) (.slice Ao30 t420.length co30)) (fun _ hk => hk.2) (.slice Ao31 t423.length co31)) (fun _ h_ => h_.1))) (Kd.R_base ho1) hb); have n4_ := Aside0.mk (Kd.R_elder' (by (with_reducible repeat (first | apply Kd.R_alloc | apply Kd.R_drewN | apply Kd.R_drew)); exact (Kd.R_mono (Kd.R_far (p := ⟨gb426, 2, none⟩) (Kd.R_far (p := ⟨gb426, 1, none⟩) (Kd.R_far (p := ⟨gb426, 0, none⟩) (Kd.R_types HO422.out BK426.out (by decide)) (fun _ hk => hk.2) (.int .i64 t419)) (fun _ hk => hk.2) (.slice Ao30 t420.length co30)) (fun _ hk => hk.2) (.slice Ao31 t423.length co31)) (fun _ h_ => h_.1))) (Kd.R_base ho0) hb); have n5_ := Aside0.mk (Kd.R_elder' (by (with_reducible repeat (first | apply Kd.R_alloc | apply Kd.R_drewN | apply Kd.R_drew)); exact (Kd.R_mono (Kd.R_far (p := ⟨gb426, 2, none⟩) (Kd.R_far (p := ⟨gb426, 1, none⟩) (Kd.R_far (p := ⟨gb426, 0, none⟩) (Kd.R_types HO425.out BK426.out (by decide)) (fun _ hk => hk.2) (.int .i64 t419)) (fun _ hk => hk.2) (.slice Ao30 t420.length co30)) (fun _ hk => hk.2) (.slice Ao31 t423.length co31)) (fun _ h_ => h_.1))) (Kd.R_base ho1) hb); have n6_ := Aside0.mk (Kd.R_lower (Kd.R_new' (Kd.R_new' (Kd.R_new' ho0 (Kd.R_lt (by (with_reducible repeat (first | apply Kd.R_alloc | apply Kd.R_drewN | apply Kd.R_drew)); exact (Kd.R_mono (Kd.R_far (p := ⟨gb426, 2, none⟩) (Kd.R_far (p := ⟨gb426, 1, none⟩) (Kd.R_far (p := ⟨gb426, 0, none⟩) (Kd.R_types HO406.out BK426.out (by decide)) (fun _ hk => hk.2) (.int .i64 t419)) (fun _ hk => hk.2) (.slice Ao30 t420.length co30)) (fun _ hk => hk.2) (.slice Ao31 t423.length co31)) (fun _ h_ => h_.1))))) (Kd.R_lt (by (with_reducible repeat (first | apply Kd.R_alloc | apply Kd.R_drewN | apply Kd.R_drew)); exact (Kd.R_mono (Kd.R_far (p := ⟨gb426, 2, none⟩) (Kd.R_far (p := ⟨gb426, 1, none⟩) (Kd.R_far (p := ⟨gb426, 0, none⟩) (Kd.R_types HO413.out BK426.out (by decide)) (fun _ hk => hk.2) (.int .i64 t419)) (fun _ hk => hk.2) (.slice Ao30 t420.length co30)) (fun _ hk => hk.2) (.slice Ao31 t423.length co31)) (fun _ h_ => h_.1))))) (Kd.R_lt (by (with_reducible repeat (first | apply Kd.R_alloc | apply Kd.R_drewN | apply Kd.R_drew)); exact (Kd.R_mono (Kd.R_far (p := ⟨gb426, 2, none⟩) (Kd.R_far (p := ⟨gb426, 1, none⟩) (Kd.R_far (p := ⟨gb426, 0, none⟩) (Kd.R_types HO422.out BK426.out (by decide)) (fun _ hk => hk.2) (.int .i64 t419)) (fun _ hk => hk.2) (.slice Ao30 t420.length co30)) (fun _ hk => hk.2) (.slice Ao31 t423.length co31)) (fun _ h_ => h_.1))))) (below_size (by repeat (first | (with_reducible first | exact HB.out | apply below_alloc | apply pw_below_drewN | apply below_drew1 | refine below_set ?_ GE401.out | refine below_set ?_ GE418.out | refine below_set ?_ GE426.out) | exact HB.out)))); have n7_ := Aside0.mk (Kd.R_lower (Kd.R_new' (Kd.R_new' (Kd.R_new' ho1 (Kd.R_lt (by (with_reducible repeat (first | apply Kd.R_alloc | apply Kd.R_drewN | apply Kd.R_drew)); exact (Kd.R_mono (Kd.R_far (p := ⟨gb426, 2, none⟩) (Kd.R_far (p := ⟨gb426, 1, none⟩) (Kd.R_far (p := ⟨gb426, 0, none⟩) (Kd.R_types HO409.out BK426.out (by decide)) (fun _ hk => hk.2) (.int .i64 t419)) (fun _ hk => hk.2) (.slice Ao30 t420.length co30)) (fun _ hk => hk.2) (.slice Ao31 t423.length co31)) (fun _ h_ => h_.1))))) (Kd.R_lt (by (with_reducible repeat (first | apply Kd.R_alloc | apply Kd.R_drewN | apply Kd.R_drew)); exact (Kd.R_mono (Kd.R_far (p := ⟨gb426, 2, none⟩) (Kd.R_far (p := ⟨gb426, 1, none⟩) (Kd.R_far (p := ⟨gb426, 0, none⟩) (Kd.R_types HO416.out BK426.out (by decide)) (fun _ hk => hk.2) (.int .i64 t419)) (fun _ hk => hk.2) (.slice Ao30 t420.length co30)) (fun _ hk => hk.2) (.slice Ao31 t423.length co31)) (fun _ h_ => h_.1))))) (Kd.R_lt (by (with_reducible repeat (first | apply Kd.R_alloc | apply Kd.R_drewN | apply Kd.R_drew)); exact (Kd.R_mono (Kd.R_far (p := ⟨gb426, 2, none⟩) (Kd.R_far (p := ⟨gb426, 1, none⟩) (Kd.R_far (p := ⟨gb426, 0, none⟩) (Kd.R_types HO425.out BK426.out (by decide)) (fun _ hk => hk.2) (.int .i64 t419)) (fun _ hk => hk.2) (.slice Ao30 t420.length co30)) (fun _ hk => hk.2) (.slice Ao31 t423.length co31)) (fun _ h_ => h_.1))))) (below_size (by repeat (first | (with_reducible first | exact HB.out | apply below_alloc | apply pw_below_drewN | apply below_drew1 | refine below_set ?_ GE401.out | refine below_set ?_ GE418.out | refine below_set ?_ GE426.out) | exact HB.out)))); have n8_ := Aside0.mk (blk_below (g := gb401) (o := .cells #[.int .i64 a0_0, .slice A0_1 l0_1.length c0_1, .slice A0_2 l0_2.length c0_2] 32 (0, 0)) (by (with_reducible repeat (first | refine blk_drewN ?_ _ | refine blk_drew ?_ | refine blk_alloc ?_ _)); refine blk_far ?_ NB401_426.out _; (with_reducible repeat (first | refine blk_drewN ?_ _ | refine blk_drew ?_ | refine blk_alloc ?_ _)); refine blk_far ?_ NB401_426.out _; (with_reducible repeat (first | refine blk_drewN ?_ _ | refine blk_drew ?_ | refine blk_alloc ?_ _)); refine blk_far ?_ NB401_426.out _; (with_reducible repeat (first | refine blk_drewN ?_ _ | refine blk_drew ?_ | refine blk_alloc ?_ _)); exact BK401.out) hb); have n9_ := Aside0.mk (blk_below (g := gb418) (o := .cells #[.int .i64 t410, .slice Ao22 t411.length co22, .slice Ao23 t414.length co23] 25 (0, 0)) (by (with_reducible repeat (first | refine blk_drewN ?_ _ | refine blk_drew ?_ | refine blk_alloc ?_ _)); refine blk_far ?_ NB418_426.out _; (with_reducible repeat (first | refine blk_drewN ?_ _ | refine blk_drew ?_ | refine blk_alloc ?_ _)); refine blk_far ?_ NB418_426.out _; (with_reducible repeat (first | refine blk_drewN ?_ _ | refine blk_drew ?_ | refine blk_alloc ?_ _)); refine blk_far ?_ NB418_426.out _; (with_reducible repeat (first | refine blk_drewN ?_ _ | refine blk_drew ?_ | refine blk_alloc ?_ _)); exact BK418.out) hb); have n10_ := Aside0.mk (blk_below (g := gb426) (o := .cells #[.int .i64 t419, .slice Ao30 t420.length co30, .slice Ao31 t423.length co31] 25 (0, 0)) (by (with_reducible repeat (first | refine blk_drewN ?_ _ | refine blk_drew ?_ | refine blk_alloc ?_ _)); refine blk_put (cs := #[.int .i64 t419, .slice Ao30 t420.length co30, .slice none 0 0]) ?_ 2 _ rfl; (with_reducible repeat (first | refine blk_drewN ?_ _ | refine blk_drew ?_ | refine blk_alloc ?_ _)); refine blk_put (cs := #[.int .i64 t419, .slice none 0 0, .slice none 0 0]) ?_ 1 _ rfl; (with_reducible repeat (first | refine blk_drewN ?_ _ | refine blk_drew ?_ | refine blk_alloc ?_ _)); refine blk_put (cs := #[.int .i64 0, .slice none 0 0, .slice none 0 0]) ?_ 0 _ rfl; (with_reducible repeat (first | refine blk_drewN ?_ _ | refine blk_drew ?_ | refine blk_alloc ?_ _)); exact BK426.out) hb); have n11_ := Aside0.mk (below_step (by repeat (first | (with_reducible first | exact HB.out | apply below_alloc | apply pw_below_drewN | apply below_drew1 | refine below_set ?_ GE401.out | refine below_set ?_ GE418.out | refine below_set ?_ GE426.out) | exact HB.out)) hb); clear HO406; clear HO409; clear HO413; clear HO416; clear HO422; clear HO425; clear BK401; clear BK418; clear BK426; clear HB; have HO406 := n0_; have HO409 := n1_; have HO413 := n2_; have HO416 := n3_; have HO422 := n4_; have HO425 := n5_; have HO430 := n6_; have HO433 := n7_; have BK401 := n8_; have BK418 := n9_; have BK426 := n10_; have HB := n11_; clear n0_ n1_ n2_ n3_ n4_ n5_ n6_ n7_ n8_ n9_ n10_ n11_; (try clear hb); (try clear hb2); (try clear hk); (try clear hi); (try clear ho0); (try clear ho1)) | ((with_reducible refine gate_dst (N := 9) rfl ?_); refine box_event ?hg (N := 9) ?hd (cs := #[.int .i64 0, .slice none 0 0, .slice none 0 0]) (t := 25) ?hr ?_; (case hd => rfl); (case hg => rfl); (case hr => first | (go_simp; done) | (go_simp; rfl)); intro gb435 hg w33 hbox hb; have n0_ := Aside0.mk (Kd.R_below (by (with_reducible repeat (first | apply Kd.R_alloc | apply Kd.R_drewN | apply Kd.R_drew)); exact HO406.out) hb); have n1_ := Aside0.mk (Kd.R_below (by (with_reducible repeat (first | apply Kd.R_alloc | apply Kd.R_drewN | apply Kd.R_drew)); exact HO409.out) hb); have n2_ := Aside0.mk (Kd.R_below (by (with_reducible repeat (first | apply Kd.R_alloc | apply Kd.R_drewN | apply Kd.R_drew)); exact HO413.out) hb); have n3_ := Aside0.mk (Kd.R_below (by (with_reducible repeat (first | apply Kd.R_alloc | apply Kd.R_drewN | apply Kd.R_drew)); exact HO416.out) hb); have n4_ := Aside0.mk (Kd.R_below (by (with_reducible repeat (first | apply Kd.R_alloc | apply Kd.R_drewN | apply Kd.R_drew)); exact HO422.out) hb); have n5_ := Aside0.mk (Kd.R_below (by (with_reducible repeat (first | apply Kd.R_alloc | apply Kd.R_drewN | apply Kd.R_drew)); exact HO425.out) hb); have n6_ := Aside0.mk (Kd.R_below (by (with_reducible repeat (first | apply Kd.R_alloc | apply Kd.R_drewN | apply Kd.R_drew)); exact HO430.out) hb); have n7_ := Aside0.mk (Kd.R_below (by (with_reducible repeat (first | apply Kd.R_alloc | apply Kd.R_drewN | apply Kd.R_drew)); exact HO433.out) hb); have n8_ := Aside0.mk (blk_below (g := gb401) (o := .cells #[.int .i64 a0_0, .slice A0_1 l0_1.length c0_1, .slice A0_2 l0_2.length c0_2] 32 (0, 0)) (by (with_reducible repeat (first | refine blk_drewN ?_ _ | refine blk_drew ?_ | refine blk_alloc ?_ _)); exact BK401.out) hb); have n9_ := Aside0.mk (blk_below (g := gb418) (o := .cells #[.int .i64 t410, .slice Ao22 t411.length co22, .slice Ao23 t414.length co23] 25 (0, 0)) (by (with_reducible repeat (first | refine blk_drewN ?_ _ | refine blk_drew ?_ | refine blk_alloc ?_ _)); exact BK418.out) hb); have n10_ := Aside0.mk (blk_below (g := gb426) (o := .cells #[.int .i64 t419, .slice Ao30 t420.length co30, .slice Ao31 t423.length co31] 25 (0, 0)) (by (with_reducible repeat (first | refine blk_drewN ?_ _ | refine blk_drew ?_ | refine blk_alloc ?_ _)); exact BK426.out) hb); have n11_ := Aside0.mk (below_step (by repeat (first | (with_reducible first | exact HB.out | apply below_alloc | apply pw_below_drewN | apply below_drew1 | refine below_set ?_ GE401.out | refine below_set ?_ GE418.out | refine below_set ?_ GE426.out) | exact HB.out)) hb); have n12_ := Aside0.mk (hbox); have n13_ := Aside0.mk ((by rw [hg]; exact (below_size (by repeat (first | (with_reducible first | exact HB.out | apply below_alloc | apply pw_below_drewN | apply below_drew1 | refine below_set ?_ GE401.out | refine below_set ?_ GE418.out | refine below_set ?_ GE426.out) | exact HB.out))) : w.heap.size ≤ gb435)); have n14_ := Aside0.mk ((by rw [hg]; exact (below_size (by repeat (first | (with_reducible first | exact HB.out | apply below_alloc | apply pw_below_drewN | apply below_drew1 | refine below_set ?_ GE401.out | refine below_set ?_ GE418.out | refine below_set ?_ GE426.out) | exact HB.out))) : w.heap.size ≤ gb435)); have n15_ := Aside0.mk ((by rw [hg]; exact Nat.ne_of_lt (blk_lt (g := gb401) (o := .cells #[.int .i64 a0_0, .slice A0_1 l0_1.length c0_1, .slice A0_2 l0_2.length c0_2] 32 (0, 0)) (by (with_reducible repeat (first | refine blk_drewN ?_ _ | refine blk_drew ?_ | refine blk_alloc ?_ _)); exact BK401.out)) : gb401 ≠ gb435)); have n16_ := Aside0.mk ((by rw [hg]; exact Nat.ne_of_gt (blk_lt (g := gb401) (o := .cells #[.int .i64 a0_0, .slice A0_1 l0_1.length c0_1, .slice A0_2 l0_2.length c0_2] 32 (0, 0)) (by (with_reducible repeat (first | refine blk_drewN ?_ _ | refine blk_drew ?_ | refine blk_alloc ?_ _)); exact BK401.out)) : gb435 ≠ gb401)); have n17_ := Aside0.mk ((by rw [hg]; exact Nat.ne_of_lt (blk_lt (g := gb418) (o := .cells #[.int .i64 t410, .slice Ao22 t411.length co22, .slice Ao23 t414.length co23] 25 (0, 0)) (by (with_reducible repeat (first | refine blk_drewN ?_ _ | refine blk_drew ?_ | refine blk_alloc ?_ _)); exact BK418.out)) : gb418 ≠ gb435)); have n18_ := Aside0.mk ((by rw [hg]; exact Nat.ne_of_gt (blk_lt (g := gb418) (o := .cells #[.int .i64 t410, .slice Ao22 t411.length co22, .slice Ao23 t414.length co23] 25 (0, 0)) (by (with_reducible repeat (first | refine blk_drewN ?_ _ | refine blk_drew ?_ | refine blk_alloc ?_ _)); exact BK418.out)) : gb435 ≠ gb418)); have n19_ := Aside0.mk ((by rw [hg]; exact Nat.ne_of_lt (blk_lt (g := gb426) (o := .cells #[.int .i64 t419, .slice Ao30 t420.length co30, .slice Ao31 t423.length co31] 25 (0, 0)) (by (with_reducible repeat (first | refine blk_drewN ?_ _ | refine blk_drew ?_ | refine blk_alloc ?_ _)); exact BK426.out)) : gb426 ≠ gb435)); have n20_ := Aside0.mk ((by rw [hg]; exact Nat.ne_of_gt (blk_lt (g := gb426) (o := .cells #[.int .i64 t419, .slice Ao30 t420.length co30, .slice Ao31 t423.length co31] 25 (0, 0)) (by (with_reducible repeat (first | refine blk_drewN ?_ _ | refine blk_drew ?_ | refine blk_alloc ?_ _)); exact BK426.out)) : gb435 ≠ gb426)); clear HO406; clear HO409; clear HO413; clear HO416; clear HO422; clear HO425; clear HO430; clear HO433; clear BK401; clear BK418; clear BK426; clear HB; have HO406 := n0_; have HO409 := n1_; have HO413 := n2_; have HO416 := n3_; have HO422 := n4_; have HO425 := n5_; have HO430 := n6_; have HO433 := n7_; have BK401 := n8_; have BK418 := n9_; have BK426 := n10_; have HB := n11_; have BK435 := n12_; have GW435 := n13_; have GE435 := n14_; have NB401_435 := n15_; have NB435_401 := n16_; have NB418_435 := n17_; have NB435_418 := n18_; have NB426_435 := n19_; have NB435_426 := n20_; clear n0_ n1_ n2_ n3_ n4_ n5_ n6_ n7_ n8_ n9_ n10_ n11_ n12_ n13_ n14_ n15_ n16_ n17_ n18_ n19_ n20_; clear hb hbox hg; have hnb34 := NB435_401.out; have hnc34 := NB401_435.out; have hnb35 := NB435_418.out; have hnc35 := NB418_435.out; have hnb36 := NB435_426.out; have hnc36 := NB426_435.out; have hcz37_0 : w33.cell? ⟨gb435, 0, none⟩ = some (.int .i64 0) := (blk_cell BK435.out 0).trans rfl; have hcz37_1 : w33.cell? ⟨gb435, 1, none⟩ = some (.slice none 0 0) := (blk_cell BK435.out 1).trans rfl; have hcz37_2 : w33.cell? ⟨gb435, 2, none⟩ = some (.slice none 0 0) := (blk_cell BK435.out 2).trans rfl; have hfz37_0 := blk_frozen BK435.out 0; have hfz37_1 := blk_frozen BK435.out 1; have hfz37_2 := blk_frozen BK435.out 2; obtain ⟨Ao38, co38, eo38⟩ := Kd.R_slice HO430.out; subst eo38; obtain ⟨Ao39, co39, eo39⟩ := Kd.R_slice HO433.out; subst eo39))
    (try simp only [Act.put, List.setIfInBounds_toArray, List.set_cons_zero, List.set_cons_succ])
    go_cut [44] (fun v44 wc => ∃ (kq : Nat) (x44_12 : Bool), v44 = .bool x44_12 ∧ Aside0 (laws_FnExactUnpinLook.j0 kq a1 t417 t434 x44_12 a0_0 l0_1 l0_2 t410 t411 t414 t419 t420 t423 t427 t428 t431 = some r) ∧ Aside0 (kq ≤ k) ∧ Aside0 (Kd.R (Kd.int .i64) 3 wc w.heap.size (fun k_ => some k_ ≠ ((.slice Ao30 t420.length co30) : Value).ownBlock ∧ some k_ ≠ ((.slice Ao38 t428.length co38) : Value).ownBlock) (.slice Ao22 t411.length co22) t411) ∧ Aside0 (Kd.R k57 57 wc w.heap.size (fun k_ => some k_ ≠ ((.slice Ao31 t423.length co31) : Value).ownBlock ∧ some k_ ≠ ((.slice Ao39 t431.length co39) : Value).ownBlock) (.slice Ao23 t414.length co23) t414) ∧ Aside0 (Kd.R (Kd.int .i64) 3 wc w.heap.size (fun k_ => some k_ ≠ ((.slice Ao22 t411.length co22) : Value).ownBlock ∧ some k_ ≠ ((.slice Ao38 t428.length co38) : Value).ownBlock) (.slice Ao30 t420.length co30) t420) ∧ Aside0 (Kd.R k57 57 wc w.heap.size (fun k_ => some k_ ≠ ((.slice Ao23 t414.length co23) : Value).ownBlock ∧ some k_ ≠ ((.slice Ao39 t431.length co39) : Value).ownBlock) (.slice Ao31 t423.length co31) t423) ∧ Aside0 (Kd.R (Kd.int .i64) 3 wc w.heap.size (fun k_ => some k_ ≠ ((.slice Ao22 t411.length co22) : Value).ownBlock ∧ some k_ ≠ ((.slice Ao30 t420.length co30) : Value).ownBlock) (.slice Ao38 t428.length co38) t428) ∧ Aside0 (Kd.R k57 57 wc w.heap.size (fun k_ => some k_ ≠ ((.slice Ao23 t414.length co23) : Value).ownBlock ∧ some k_ ≠ ((.slice Ao31 t423.length co31) : Value).ownBlock) (.slice Ao39 t431.length co39) t431) ∧ Aside0 (wc.heap[gb401]? = some (.cells #[.int .i64 a0_0, (.slice A0_1 l0_1.length c0_1), (.slice A0_2 l0_2.length c0_2)] 32 (0, 0))) ∧ Aside0 (wc.heap[gb418]? = some (.cells #[.int .i64 t410, (.slice Ao22 t411.length co22), (.slice Ao23 t414.length co23)] 25 (0, 0))) ∧ Aside0 (wc.heap[gb426]? = some (.cells #[.int .i64 t419, (.slice Ao30 t420.length co30), (.slice Ao31 t423.length co31)] 25 (0, 0))) ∧ Aside0 (wc.heap[gb435]? = some (.cells #[.int .i64 t427, (.slice Ao38 t428.length co38), (.slice Ao39 t431.length co39)] 25 (0, 0))) ∧ Aside0 (Below w.heap.size w wc))
    case first =>
      have H := HC13.out
      clear HC13
      replace H := Option.bind_eq_some_iff.mp H
      obtain ⟨t436, A400, H⟩ := H
      replace H : (if t436 = true then (laws_FnExactUnpinLook.j0 k a1 t417 t434 (t434 != t417) a0_0 l0_1 l0_2 t410 t411 t414 t419 t420 t423 t427 t428 t431) else (laws_FnExactUnpinLook.j0 k a1 t417 t434 true a0_0 l0_1 l0_2 t410 t411 t414 t419 t420 t423 t427 t428 t431)) = some r := H
      have A40 := Aside0.mk A400
      clear A400
      by_cases c41 : t436 = true
      · subst c41
        have H1 : (laws_FnExactUnpinLook.j0 k a1 t417 t434 (t434 != t417) a0_0 l0_1 l0_2 t410 t411 t414 t419 t420 t423 t427 t428 t431) = some r := by rw [if_pos rfl] at H; exact H
        clear H
        have H := H1
        clear H1
        have H' := Aside0.mk H
        clear H
        have hnb42 := NB435_401.out
        have hnc42 := NB401_435.out
        have hnb43 := NB435_418.out
        have hnc43 := NB418_435.out
        have hnb44 := NB435_426.out
        have hnc44 := NB426_435.out
        have hcz45_0 : w33.cell? ⟨gb435, 0, none⟩ = some (.int .i64 0) := (blk_cell BK435.out 0).trans rfl
        have hcz45_1 : w33.cell? ⟨gb435, 1, none⟩ = some (.slice none 0 0) := (blk_cell BK435.out 1).trans rfl
        have hcz45_2 : w33.cell? ⟨gb435, 2, none⟩ = some (.slice none 0 0) := (blk_cell BK435.out 2).trans rfl
        have hfz45_0 := blk_frozen BK435.out 0
        have hfz45_1 := blk_frozen BK435.out 1
        have hfz45_2 := blk_frozen BK435.out 2
        have hnb46 := NB418_401.out
        have hnc46 := NB401_418.out
        have hnb47 := NB418_426.out
        have hnc47 := NB426_418.out
        have hcz48_0 : w33.cell? ⟨gb418, 0, none⟩ = some (.int .i64 t410) := (blk_cell BK418.out 0).trans rfl
        have hcz48_1 : w33.cell? ⟨gb418, 1, none⟩ = some (.slice Ao22 t411.length co22) := (blk_cell BK418.out 1).trans rfl
        have hcz48_2 : w33.cell? ⟨gb418, 2, none⟩ = some (.slice Ao23 t414.length co23) := (blk_cell BK418.out 2).trans rfl
        have hfz48_0 := blk_frozen BK418.out 0
        have hfz48_1 := blk_frozen BK418.out 1
        have hfz48_2 := blk_frozen BK418.out 2
        go_wp2_with (first | ((with_reducible refine gate_callee (f := 15) rfl ?_); refine goesL_ (some 38) rfl rfl Try.func15 (by kernel_rfl) rfl #[.agg #[.int .i64 t427, .slice Ao38 t428.length co38, .slice Ao39 t431.length co39], .agg #[.int .i64 t410, .slice Ao22 t411.length co22, .slice Ao23 t414.length co23]] rfl (by (try simp only [List.map_toArray, List.map_cons, List.map_nil]); first | done | rfl | (simp only [List.length_drop, List.length_take]; rfl)) ?_; (with_reducible refine (laws_eqEpochs.calls k t427 _ _ t428 _ _ t431 t410 _ _ t411 _ _ t414 true _ ?side1 ?side2 ?side3 ?side4 ?side5 ?side6 ?side7 ?side8 A40.out).mono ?_); (case side1 => refine (Kd.R_reads' (e := 3) (base := w.heap.size) (ok := fun k_ => (((True ∧ some k_ ≠ (.slice Ao16 t404.length co16 : Value).ownBlock) ∧ some k_ ≠ (.slice Ao22 t411.length co22 : Value).ownBlock) ∧ some k_ ≠ (.slice Ao30 t420.length co30 : Value).ownBlock)) (n := t428.length) (c := co38) ?_).2.2; exact (by (with_reducible repeat (first | apply Kd.R_alloc | apply Kd.R_drewN | apply Kd.R_drew)); exact (Kd.R_mono (Kd.R_far (p := ⟨gb435, 2, none⟩) (Kd.R_far (p := ⟨gb435, 1, none⟩) (Kd.R_far (p := ⟨gb435, 0, none⟩) (Kd.R_types HO430.out BK435.out (by decide)) (fun _ hk => hk.2) (.int .i64 t427)) (fun _ hk => hk.2) (.slice Ao38 t428.length co38)) (fun _ hk => hk.2) (.slice Ao39 t431.length co39)) (fun _ h_ => h_.1)))); (case side2 => exact (Kd.R_reads' HO430.out).2.1); (case side3 => refine (Kd.R_reads' (e := 57) (base := w.heap.size) (ok := fun k_ => (((True ∧ some k_ ≠ (.slice Ao17 t407.length co17 : Value).ownBlock) ∧ some k_ ≠ (.slice Ao23 t414.length co23 : Value).ownBlock) ∧ some k_ ≠ (.slice Ao31 t423.length co31 : Value).ownBlock)) (n := t431.length) (c := co39) ?_).2.2; exact (by (with_reducible repeat (first | apply Kd.R_alloc | apply Kd.R_drewN | apply Kd.R_drew)); exact (Kd.R_mono (Kd.R_far (p := ⟨gb435, 2, none⟩) (Kd.R_far (p := ⟨gb435, 1, none⟩) (Kd.R_far (p := ⟨gb435, 0, none⟩) (Kd.R_types HO433.out BK435.out (by decide)) (fun _ hk => hk.2) (.int .i64 t427)) (fun _ hk => hk.2) (.slice Ao38 t428.length co38)) (fun _ hk => hk.2) (.slice Ao39 t431.length co39)) (fun _ h_ => h_.1)))); (case side4 => exact (Kd.R_reads' HO433.out).2.1); (case side5 => refine (Kd.R_reads' (e := 3) (base := w.heap.size) (ok := fun k_ => (((True ∧ some k_ ≠ (.slice Ao16 t404.length co16 : Value).ownBlock) ∧ some k_ ≠ (.slice Ao30 t420.length co30 : Value).ownBlock) ∧ some k_ ≠ (.slice Ao38 t428.length co38 : Value).ownBlock)) (n := t411.length) (c := co22) ?_).2.2; exact (by (with_reducible repeat (first | apply Kd.R_alloc | apply Kd.R_drewN | apply Kd.R_drew)); exact (Kd.R_mono (Kd.R_far (p := ⟨gb435, 2, none⟩) (Kd.R_far (p := ⟨gb435, 1, none⟩) (Kd.R_far (p := ⟨gb435, 0, none⟩) (Kd.R_types HO413.out BK435.out (by decide)) (fun _ hk => hk.2) (.int .i64 t427)) (fun _ hk => hk.2) (.slice Ao38 t428.length co38)) (fun _ hk => hk.2) (.slice Ao39 t431.length co39)) (fun _ h_ => h_.1)))); (case side6 => exact (Kd.R_reads' HO413.out).2.1); (case side7 => refine (Kd.R_reads' (e := 57) (base := w.heap.size) (ok := fun k_ => (((True ∧ some k_ ≠ (.slice Ao17 t407.length co17 : Value).ownBlock) ∧ some k_ ≠ (.slice Ao31 t423.length co31 : Value).ownBlock) ∧ some k_ ≠ (.slice Ao39 t431.length co39 : Value).ownBlock)) (n := t414.length) (c := co23) ?_).2.2; exact (by (with_reducible repeat (first | apply Kd.R_alloc | apply Kd.R_drewN | apply Kd.R_drew)); exact (Kd.R_mono (Kd.R_far (p := ⟨gb435, 2, none⟩) (Kd.R_far (p := ⟨gb435, 1, none⟩) (Kd.R_far (p := ⟨gb435, 0, none⟩) (Kd.R_types HO416.out BK435.out (by decide)) (fun _ hk => hk.2) (.int .i64 t427)) (fun _ hk => hk.2) (.slice Ao38 t428.length co38)) (fun _ hk => hk.2) (.slice Ao39 t431.length co39)) (fun _ h_ => h_.1)))); (case side8 => exact (Kd.R_reads' HO416.out).2.1); rintro e w49 ⟨rfl, hb⟩; refine ⟨_, rfl, ?_⟩; have n0_ := Aside0.mk (Kd.R_below (by (with_reducible repeat (first | apply Kd.R_alloc | apply Kd.R_drewN | apply Kd.R_drew)); exact (Kd.R_mono (Kd.R_far (p := ⟨gb435, 2, none⟩) (Kd.R_far (p := ⟨gb435, 1, none⟩) (Kd.R_far (p := ⟨gb435, 0, none⟩) (Kd.R_types HO406.out BK435.out (by decide)) (fun _ hk => hk.2) (.int .i64 t427)) (fun _ hk => hk.2) (.slice Ao38 t428.length co38)) (fun _ hk => hk.2) (.slice Ao39 t431.length co39)) (fun _ h_ => h_.1))) hb); have n1_ := Aside0.mk (Kd.R_below (by (with_reducible repeat (first | apply Kd.R_alloc | apply Kd.R_drewN | apply Kd.R_drew)); exact (Kd.R_mono (Kd.R_far (p := ⟨gb435, 2, none⟩) (Kd.R_far (p := ⟨gb435, 1, none⟩) (Kd.R_far (p := ⟨gb435, 0, none⟩) (Kd.R_types HO409.out BK435.out (by decide)) (fun _ hk => hk.2) (.int .i64 t427)) (fun _ hk => hk.2) (.slice Ao38 t428.length co38)) (fun _ hk => hk.2) (.slice Ao39 t431.length co39)) (fun _ h_ => h_.1))) hb); have n2_ := Aside0.mk (Kd.R_below (by (with_reducible repeat (first | apply Kd.R_alloc | apply Kd.R_drewN | apply Kd.R_drew)); exact (Kd.R_mono (Kd.R_far (p := ⟨gb435, 2, none⟩) (Kd.R_far (p := ⟨gb435, 1, none⟩) (Kd.R_far (p := ⟨gb435, 0, none⟩) (Kd.R_types HO413.out BK435.out (by decide)) (fun _ hk => hk.2) (.int .i64 t427)) (fun _ hk => hk.2) (.slice Ao38 t428.length co38)) (fun _ hk => hk.2) (.slice Ao39 t431.length co39)) (fun _ h_ => h_.1))) hb); have n3_ := Aside0.mk (Kd.R_below (by (with_reducible repeat (first | apply Kd.R_alloc | apply Kd.R_drewN | apply Kd.R_drew)); exact (Kd.R_mono (Kd.R_far (p := ⟨gb435, 2, none⟩) (Kd.R_far (p := ⟨gb435, 1, none⟩) (Kd.R_far (p := ⟨gb435, 0, none⟩) (Kd.R_types HO416.out BK435.out (by decide)) (fun _ hk => hk.2) (.int .i64 t427)) (fun _ hk => hk.2) (.slice Ao38 t428.length co38)) (fun _ hk => hk.2) (.slice Ao39 t431.length co39)) (fun _ h_ => h_.1))) hb); have n4_ := Aside0.mk (Kd.R_below (by (with_reducible repeat (first | apply Kd.R_alloc | apply Kd.R_drewN | apply Kd.R_drew)); exact (Kd.R_mono (Kd.R_far (p := ⟨gb435, 2, none⟩) (Kd.R_far (p := ⟨gb435, 1, none⟩) (Kd.R_far (p := ⟨gb435, 0, none⟩) (Kd.R_types HO422.out BK435.out (by decide)) (fun _ hk => hk.2) (.int .i64 t427)) (fun _ hk => hk.2) (.slice Ao38 t428.length co38)) (fun _ hk => hk.2) (.slice Ao39 t431.length co39)) (fun _ h_ => h_.1))) hb); have n5_ := Aside0.mk (Kd.R_below (by (with_reducible repeat (first | apply Kd.R_alloc | apply Kd.R_drewN | apply Kd.R_drew)); exact (Kd.R_mono (Kd.R_far (p := ⟨gb435, 2, none⟩) (Kd.R_far (p := ⟨gb435, 1, none⟩) (Kd.R_far (p := ⟨gb435, 0, none⟩) (Kd.R_types HO425.out BK435.out (by decide)) (fun _ hk => hk.2) (.int .i64 t427)) (fun _ hk => hk.2) (.slice Ao38 t428.length co38)) (fun _ hk => hk.2) (.slice Ao39 t431.length co39)) (fun _ h_ => h_.1))) hb); have n6_ := Aside0.mk (Kd.R_below (by (with_reducible repeat (first | apply Kd.R_alloc | apply Kd.R_drewN | apply Kd.R_drew)); exact (Kd.R_mono (Kd.R_far (p := ⟨gb435, 2, none⟩) (Kd.R_far (p := ⟨gb435, 1, none⟩) (Kd.R_far (p := ⟨gb435, 0, none⟩) (Kd.R_types HO430.out BK435.out (by decide)) (fun _ hk => hk.2) (.int .i64 t427)) (fun _ hk => hk.2) (.slice Ao38 t428.length co38)) (fun _ hk => hk.2) (.slice Ao39 t431.length co39)) (fun _ h_ => h_.1))) hb); have n7_ := Aside0.mk (Kd.R_below (by (with_reducible repeat (first | apply Kd.R_alloc | apply Kd.R_drewN | apply Kd.R_drew)); exact (Kd.R_mono (Kd.R_far (p := ⟨gb435, 2, none⟩) (Kd.R_far (p := ⟨gb435, 1, none⟩) (Kd.R_far (p := ⟨gb435, 0, none⟩) (Kd.R_types HO433.out BK435.out (by decide)) (fun _ hk => hk.2) (.int .i64 t427)) (fun _ hk => hk.2) (.slice Ao38 t428.length co38)) (fun _ hk => hk.2) (.slice Ao39 t431.length co39)) (fun _ h_ => h_.1))) hb); have n8_ := Aside0.mk (blk_below (g := gb401) (o := .cells #[.int .i64 a0_0, .slice A0_1 l0_1.length c0_1, .slice A0_2 l0_2.length c0_2] 32 (0, 0)) (by (with_reducible repeat (first | refine blk_drewN ?_ _ | refine blk_drew ?_ | refine blk_alloc ?_ _)); refine blk_far ?_ NB401_435.out _; (with_reducible repeat (first | refine blk_drewN ?_ _ | refine blk_drew ?_ | refine blk_alloc ?_ _)); refine blk_far ?_ NB401_435.out _; (with_reducible repeat (first | refine blk_drewN ?_ _ | refine blk_drew ?_ | refine blk_alloc ?_ _)); refine blk_far ?_ NB401_435.out _; (with_reducible repeat (first | refine blk_drewN ?_ _ | refine blk_drew ?_ | refine blk_alloc ?_ _)); exact BK401.out) hb); have n9_ := Aside0.mk (blk_below (g := gb418) (o := .cells #[.int .i64 t410, .slice Ao22 t411.length co22, .slice Ao23 t414.length co23] 25 (0, 0)) (by (with_reducible repeat (first | refine blk_drewN ?_ _ | refine blk_drew ?_ | refine blk_alloc ?_ _)); refine blk_far ?_ NB418_435.out _; (with_reducible repeat (first | refine blk_drewN ?_ _ | refine blk_drew ?_ | refine blk_alloc ?_ _)); refine blk_far ?_ NB418_435.out _; (with_reducible repeat (first | refine blk_drewN ?_ _ | refine blk_drew ?_ | refine blk_alloc ?_ _)); refine blk_far ?_ NB418_435.out _; (with_reducible repeat (first | refine blk_drewN ?_ _ | refine blk_drew ?_ | refine blk_alloc ?_ _)); exact BK418.out) hb); have n10_ := Aside0.mk (blk_below (g := gb426) (o := .cells #[.int .i64 t419, .slice Ao30 t420.length co30, .slice Ao31 t423.length co31] 25 (0, 0)) (by (with_reducible repeat (first | refine blk_drewN ?_ _ | refine blk_drew ?_ | refine blk_alloc ?_ _)); refine blk_far ?_ NB426_435.out _; (with_reducible repeat (first | refine blk_drewN ?_ _ | refine blk_drew ?_ | refine blk_alloc ?_ _)); refine blk_far ?_ NB426_435.out _; (with_reducible repeat (first | refine blk_drewN ?_ _ | refine blk_drew ?_ | refine blk_alloc ?_ _)); refine blk_far ?_ NB426_435.out _; (with_reducible repeat (first | refine blk_drewN ?_ _ | refine blk_drew ?_ | refine blk_alloc ?_ _)); exact BK426.out) hb); have n11_ := Aside0.mk (blk_below (g := gb435) (o := .cells #[.int .i64 t427, .slice Ao38 t428.length co38, .slice Ao39 t431.length co39] 25 (0, 0)) (by (with_reducible repeat (first | refine blk_drewN ?_ _ | refine blk_drew ?_ | refine blk_alloc ?_ _)); refine blk_put (cs := #[.int .i64 t427, .slice Ao38 t428.length co38, .slice none 0 0]) ?_ 2 _ rfl; (with_reducible repeat (first | refine blk_drewN ?_ _ | refine blk_drew ?_ | refine blk_alloc ?_ _)); refine blk_put (cs := #[.int .i64 t427, .slice none 0 0, .slice none 0 0]) ?_ 1 _ rfl; (with_reducible repeat (first | refine blk_drewN ?_ _ | refine blk_drew ?_ | refine blk_alloc ?_ _)); refine blk_put (cs := #[.int .i64 0, .slice none 0 0, .slice none 0 0]) ?_ 0 _ rfl; (with_reducible repeat (first | refine blk_drewN ?_ _ | refine blk_drew ?_ | refine blk_alloc ?_ _)); exact BK435.out) hb); have n12_ := Aside0.mk (below_step (by repeat (first | (with_reducible first | exact HB.out | apply below_alloc | apply pw_below_drewN | apply below_drew1 | refine below_set ?_ GE401.out | refine below_set ?_ GE418.out | refine below_set ?_ GE426.out | refine below_set ?_ GE435.out) | exact HB.out)) hb); clear HO406; clear HO409; clear HO413; clear HO416; clear HO422; clear HO425; clear HO430; clear HO433; clear BK401; clear BK418; clear BK426; clear BK435; clear HB; have HO406 := n0_; have HO409 := n1_; have HO413 := n2_; have HO416 := n3_; have HO422 := n4_; have HO425 := n5_; have HO430 := n6_; have HO433 := n7_; have BK401 := n8_; have BK418 := n9_; have BK426 := n10_; have BK435 := n11_; have HB := n12_; clear n0_ n1_ n2_ n3_ n4_ n5_ n6_ n7_ n8_ n9_ n10_ n11_ n12_; (try clear hb); (try clear hb2); (try clear hk); (try clear hi)))
        go_meet
        case rel => exact ⟨_, ((t434 != t417)), (by first | rfl | (simp; done) | (simp [*]; done)), H', ⟨by first | omega | exact Nat.le_refl _⟩, ⟨by (with_reducible repeat (first | apply Kd.R_alloc | apply Kd.R_drewN | apply Kd.R_drew)); exact Kd.R_mono HO413.out (fun _ hk => ⟨hk.1.2, hk.2⟩)⟩, ⟨by (with_reducible repeat (first | apply Kd.R_alloc | apply Kd.R_drewN | apply Kd.R_drew)); exact Kd.R_mono HO416.out (fun _ hk => ⟨hk.1.2, hk.2⟩)⟩, ⟨by (with_reducible repeat (first | apply Kd.R_alloc | apply Kd.R_drewN | apply Kd.R_drew)); exact Kd.R_mono HO422.out (fun _ hk => ⟨hk.1.2, hk.2⟩)⟩, ⟨by (with_reducible repeat (first | apply Kd.R_alloc | apply Kd.R_drewN | apply Kd.R_drew)); exact Kd.R_mono HO425.out (fun _ hk => ⟨hk.1.2, hk.2⟩)⟩, ⟨by (with_reducible repeat (first | apply Kd.R_alloc | apply Kd.R_drewN | apply Kd.R_drew)); exact Kd.R_mono HO430.out (fun _ hk => ⟨hk.1.2, hk.2⟩)⟩, ⟨by (with_reducible repeat (first | apply Kd.R_alloc | apply Kd.R_drewN | apply Kd.R_drew)); exact Kd.R_mono HO433.out (fun _ hk => ⟨hk.1.2, hk.2⟩)⟩, ⟨by (with_reducible repeat (first | refine blk_drewN ?_ _ | refine blk_drew ?_ | refine blk_alloc ?_ _)); exact BK401.out⟩, ⟨by (with_reducible repeat (first | refine blk_drewN ?_ _ | refine blk_drew ?_ | refine blk_alloc ?_ _)); exact BK418.out⟩, ⟨by (with_reducible repeat (first | refine blk_drewN ?_ _ | refine blk_drew ?_ | refine blk_alloc ?_ _)); exact BK426.out⟩, ⟨by (with_reducible repeat (first | refine blk_drewN ?_ _ | refine blk_drew ?_ | refine blk_alloc ?_ _)); exact BK435.out⟩, ⟨by repeat (first | (with_reducible first | exact HB.out | apply below_alloc | apply pw_below_drewN | apply below_drew1 | refine below_set ?_ GE401.out | refine below_set ?_ GE418.out | refine below_set ?_ GE426.out | refine below_set ?_ GE435.out) | exact HB.out)⟩⟩
      · replace c41 := Bool.eq_false_iff.mpr c41
        subst c41
        have H1 : (laws_FnExactUnpinLook.j0 k a1 t417 t434 true a0_0 l0_1 l0_2 t410 t411 t414 t419 t420 t423 t427 t428 t431) = some r := by rw [if_neg (show ¬ (false = true) by decide)] at H; exact H
        clear H
        have H := H1
        clear H1
        have H' := Aside0.mk H
        clear H
        have hnb50 := NB435_401.out
        have hnc50 := NB401_435.out
        have hnb51 := NB435_418.out
        have hnc51 := NB418_435.out
        have hnb52 := NB435_426.out
        have hnc52 := NB426_435.out
        have hcz53_0 : w33.cell? ⟨gb435, 0, none⟩ = some (.int .i64 0) := (blk_cell BK435.out 0).trans rfl
        have hcz53_1 : w33.cell? ⟨gb435, 1, none⟩ = some (.slice none 0 0) := (blk_cell BK435.out 1).trans rfl
        have hcz53_2 : w33.cell? ⟨gb435, 2, none⟩ = some (.slice none 0 0) := (blk_cell BK435.out 2).trans rfl
        have hfz53_0 := blk_frozen BK435.out 0
        have hfz53_1 := blk_frozen BK435.out 1
        have hfz53_2 := blk_frozen BK435.out 2
        have hnb54 := NB418_401.out
        have hnc54 := NB401_418.out
        have hnb55 := NB418_426.out
        have hnc55 := NB426_418.out
        have hcz56_0 : w33.cell? ⟨gb418, 0, none⟩ = some (.int .i64 t410) := (blk_cell BK418.out 0).trans rfl
        have hcz56_1 : w33.cell? ⟨gb418, 1, none⟩ = some (.slice Ao22 t411.length co22) := (blk_cell BK418.out 1).trans rfl
        have hcz56_2 : w33.cell? ⟨gb418, 2, none⟩ = some (.slice Ao23 t414.length co23) := (blk_cell BK418.out 2).trans rfl
        have hfz56_0 := blk_frozen BK418.out 0
        have hfz56_1 := blk_frozen BK418.out 1
        have hfz56_2 := blk_frozen BK418.out 2
        go_wp2_with (first | ((with_reducible refine gate_callee (f := 15) rfl ?_); refine goesL_ (some 38) rfl rfl Try.func15 (by kernel_rfl) rfl #[.agg #[.int .i64 t427, .slice Ao38 t428.length co38, .slice Ao39 t431.length co39], .agg #[.int .i64 t410, .slice Ao22 t411.length co22, .slice Ao23 t414.length co23]] rfl (by (try simp only [List.map_toArray, List.map_cons, List.map_nil]); first | done | rfl | (simp only [List.length_drop, List.length_take]; rfl)) ?_; (with_reducible refine (laws_eqEpochs.calls k t427 _ _ t428 _ _ t431 t410 _ _ t411 _ _ t414 false _ ?side1 ?side2 ?side3 ?side4 ?side5 ?side6 ?side7 ?side8 A40.out).mono ?_); (case side1 => refine (Kd.R_reads' (e := 3) (base := w.heap.size) (ok := fun k_ => (((True ∧ some k_ ≠ (.slice Ao16 t404.length co16 : Value).ownBlock) ∧ some k_ ≠ (.slice Ao22 t411.length co22 : Value).ownBlock) ∧ some k_ ≠ (.slice Ao30 t420.length co30 : Value).ownBlock)) (n := t428.length) (c := co38) ?_).2.2; exact (by (with_reducible repeat (first | apply Kd.R_alloc | apply Kd.R_drewN | apply Kd.R_drew)); exact (Kd.R_mono (Kd.R_far (p := ⟨gb435, 2, none⟩) (Kd.R_far (p := ⟨gb435, 1, none⟩) (Kd.R_far (p := ⟨gb435, 0, none⟩) (Kd.R_types HO430.out BK435.out (by decide)) (fun _ hk => hk.2) (.int .i64 t427)) (fun _ hk => hk.2) (.slice Ao38 t428.length co38)) (fun _ hk => hk.2) (.slice Ao39 t431.length co39)) (fun _ h_ => h_.1)))); (case side2 => exact (Kd.R_reads' HO430.out).2.1); (case side3 => refine (Kd.R_reads' (e := 57) (base := w.heap.size) (ok := fun k_ => (((True ∧ some k_ ≠ (.slice Ao17 t407.length co17 : Value).ownBlock) ∧ some k_ ≠ (.slice Ao23 t414.length co23 : Value).ownBlock) ∧ some k_ ≠ (.slice Ao31 t423.length co31 : Value).ownBlock)) (n := t431.length) (c := co39) ?_).2.2; exact (by (with_reducible repeat (first | apply Kd.R_alloc | apply Kd.R_drewN | apply Kd.R_drew)); exact (Kd.R_mono (Kd.R_far (p := ⟨gb435, 2, none⟩) (Kd.R_far (p := ⟨gb435, 1, none⟩) (Kd.R_far (p := ⟨gb435, 0, none⟩) (Kd.R_types HO433.out BK435.out (by decide)) (fun _ hk => hk.2) (.int .i64 t427)) (fun _ hk => hk.2) (.slice Ao38 t428.length co38)) (fun _ hk => hk.2) (.slice Ao39 t431.length co39)) (fun _ h_ => h_.1)))); (case side4 => exact (Kd.R_reads' HO433.out).2.1); (case side5 => refine (Kd.R_reads' (e := 3) (base := w.heap.size) (ok := fun k_ => (((True ∧ some k_ ≠ (.slice Ao16 t404.length co16 : Value).ownBlock) ∧ some k_ ≠ (.slice Ao30 t420.length co30 : Value).ownBlock) ∧ some k_ ≠ (.slice Ao38 t428.length co38 : Value).ownBlock)) (n := t411.length) (c := co22) ?_).2.2; exact (by (with_reducible repeat (first | apply Kd.R_alloc | apply Kd.R_drewN | apply Kd.R_drew)); exact (Kd.R_mono (Kd.R_far (p := ⟨gb435, 2, none⟩) (Kd.R_far (p := ⟨gb435, 1, none⟩) (Kd.R_far (p := ⟨gb435, 0, none⟩) (Kd.R_types HO413.out BK435.out (by decide)) (fun _ hk => hk.2) (.int .i64 t427)) (fun _ hk => hk.2) (.slice Ao38 t428.length co38)) (fun _ hk => hk.2) (.slice Ao39 t431.length co39)) (fun _ h_ => h_.1)))); (case side6 => exact (Kd.R_reads' HO413.out).2.1); (case side7 => refine (Kd.R_reads' (e := 57) (base := w.heap.size) (ok := fun k_ => (((True ∧ some k_ ≠ (.slice Ao17 t407.length co17 : Value).ownBlock) ∧ some k_ ≠ (.slice Ao31 t423.length co31 : Value).ownBlock) ∧ some k_ ≠ (.slice Ao39 t431.length co39 : Value).ownBlock)) (n := t414.length) (c := co23) ?_).2.2; exact (by (with_reducible repeat (first | apply Kd.R_alloc | apply Kd.R_drewN | apply Kd.R_drew)); exact (Kd.R_mono (Kd.R_far (p := ⟨gb435, 2, none⟩) (Kd.R_far (p := ⟨gb435, 1, none⟩) (Kd.R_far (p := ⟨gb435, 0, none⟩) (Kd.R_types HO416.out BK435.out (by decide)) (fun _ hk => hk.2) (.int .i64 t427)) (fun _ hk => hk.2) (.slice Ao38 t428.length co38)) (fun _ hk => hk.2) (.slice Ao39 t431.length co39)) (fun _ h_ => h_.1)))); (case side8 => exact (Kd.R_reads' HO416.out).2.1); rintro e w57 ⟨rfl, hb⟩; refine ⟨_, rfl, ?_⟩; have n0_ := Aside0.mk (Kd.R_below (by (with_reducible repeat (first | apply Kd.R_alloc | apply Kd.R_drewN | apply Kd.R_drew)); exact (Kd.R_mono (Kd.R_far (p := ⟨gb435, 2, none⟩) (Kd.R_far (p := ⟨gb435, 1, none⟩) (Kd.R_far (p := ⟨gb435, 0, none⟩) (Kd.R_types HO406.out BK435.out (by decide)) (fun _ hk => hk.2) (.int .i64 t427)) (fun _ hk => hk.2) (.slice Ao38 t428.length co38)) (fun _ hk => hk.2) (.slice Ao39 t431.length co39)) (fun _ h_ => h_.1))) hb); have n1_ := Aside0.mk (Kd.R_below (by (with_reducible repeat (first | apply Kd.R_alloc | apply Kd.R_drewN | apply Kd.R_drew)); exact (Kd.R_mono (Kd.R_far (p := ⟨gb435, 2, none⟩) (Kd.R_far (p := ⟨gb435, 1, none⟩) (Kd.R_far (p := ⟨gb435, 0, none⟩) (Kd.R_types HO409.out BK435.out (by decide)) (fun _ hk => hk.2) (.int .i64 t427)) (fun _ hk => hk.2) (.slice Ao38 t428.length co38)) (fun _ hk => hk.2) (.slice Ao39 t431.length co39)) (fun _ h_ => h_.1))) hb); have n2_ := Aside0.mk (Kd.R_below (by (with_reducible repeat (first | apply Kd.R_alloc | apply Kd.R_drewN | apply Kd.R_drew)); exact (Kd.R_mono (Kd.R_far (p := ⟨gb435, 2, none⟩) (Kd.R_far (p := ⟨gb435, 1, none⟩) (Kd.R_far (p := ⟨gb435, 0, none⟩) (Kd.R_types HO413.out BK435.out (by decide)) (fun _ hk => hk.2) (.int .i64 t427)) (fun _ hk => hk.2) (.slice Ao38 t428.length co38)) (fun _ hk => hk.2) (.slice Ao39 t431.length co39)) (fun _ h_ => h_.1))) hb); have n3_ := Aside0.mk (Kd.R_below (by (with_reducible repeat (first | apply Kd.R_alloc | apply Kd.R_drewN | apply Kd.R_drew)); exact (Kd.R_mono (Kd.R_far (p := ⟨gb435, 2, none⟩) (Kd.R_far (p := ⟨gb435, 1, none⟩) (Kd.R_far (p := ⟨gb435, 0, none⟩) (Kd.R_types HO416.out BK435.out (by decide)) (fun _ hk => hk.2) (.int .i64 t427)) (fun _ hk => hk.2) (.slice Ao38 t428.length co38)) (fun _ hk => hk.2) (.slice Ao39 t431.length co39)) (fun _ h_ => h_.1))) hb); have n4_ := Aside0.mk (Kd.R_below (by (with_reducible repeat (first | apply Kd.R_alloc | apply Kd.R_drewN | apply Kd.R_drew)); exact (Kd.R_mono (Kd.R_far (p := ⟨gb435, 2, none⟩) (Kd.R_far (p := ⟨gb435, 1, none⟩) (Kd.R_far (p := ⟨gb435, 0, none⟩) (Kd.R_types HO422.out BK435.out (by decide)) (fun _ hk => hk.2) (.int .i64 t427)) (fun _ hk => hk.2) (.slice Ao38 t428.length co38)) (fun _ hk => hk.2) (.slice Ao39 t431.length co39)) (fun _ h_ => h_.1))) hb); have n5_ := Aside0.mk (Kd.R_below (by (with_reducible repeat (first | apply Kd.R_alloc | apply Kd.R_drewN | apply Kd.R_drew)); exact (Kd.R_mono (Kd.R_far (p := ⟨gb435, 2, none⟩) (Kd.R_far (p := ⟨gb435, 1, none⟩) (Kd.R_far (p := ⟨gb435, 0, none⟩) (Kd.R_types HO425.out BK435.out (by decide)) (fun _ hk => hk.2) (.int .i64 t427)) (fun _ hk => hk.2) (.slice Ao38 t428.length co38)) (fun _ hk => hk.2) (.slice Ao39 t431.length co39)) (fun _ h_ => h_.1))) hb); have n6_ := Aside0.mk (Kd.R_below (by (with_reducible repeat (first | apply Kd.R_alloc | apply Kd.R_drewN | apply Kd.R_drew)); exact (Kd.R_mono (Kd.R_far (p := ⟨gb435, 2, none⟩) (Kd.R_far (p := ⟨gb435, 1, none⟩) (Kd.R_far (p := ⟨gb435, 0, none⟩) (Kd.R_types HO430.out BK435.out (by decide)) (fun _ hk => hk.2) (.int .i64 t427)) (fun _ hk => hk.2) (.slice Ao38 t428.length co38)) (fun _ hk => hk.2) (.slice Ao39 t431.length co39)) (fun _ h_ => h_.1))) hb); have n7_ := Aside0.mk (Kd.R_below (by (with_reducible repeat (first | apply Kd.R_alloc | apply Kd.R_drewN | apply Kd.R_drew)); exact (Kd.R_mono (Kd.R_far (p := ⟨gb435, 2, none⟩) (Kd.R_far (p := ⟨gb435, 1, none⟩) (Kd.R_far (p := ⟨gb435, 0, none⟩) (Kd.R_types HO433.out BK435.out (by decide)) (fun _ hk => hk.2) (.int .i64 t427)) (fun _ hk => hk.2) (.slice Ao38 t428.length co38)) (fun _ hk => hk.2) (.slice Ao39 t431.length co39)) (fun _ h_ => h_.1))) hb); have n8_ := Aside0.mk (blk_below (g := gb401) (o := .cells #[.int .i64 a0_0, .slice A0_1 l0_1.length c0_1, .slice A0_2 l0_2.length c0_2] 32 (0, 0)) (by (with_reducible repeat (first | refine blk_drewN ?_ _ | refine blk_drew ?_ | refine blk_alloc ?_ _)); refine blk_far ?_ NB401_435.out _; (with_reducible repeat (first | refine blk_drewN ?_ _ | refine blk_drew ?_ | refine blk_alloc ?_ _)); refine blk_far ?_ NB401_435.out _; (with_reducible repeat (first | refine blk_drewN ?_ _ | refine blk_drew ?_ | refine blk_alloc ?_ _)); refine blk_far ?_ NB401_435.out _; (with_reducible repeat (first | refine blk_drewN ?_ _ | refine blk_drew ?_ | refine blk_alloc ?_ _)); exact BK401.out) hb); have n9_ := Aside0.mk (blk_below (g := gb418) (o := .cells #[.int .i64 t410, .slice Ao22 t411.length co22, .slice Ao23 t414.length co23] 25 (0, 0)) (by (with_reducible repeat (first | refine blk_drewN ?_ _ | refine blk_drew ?_ | refine blk_alloc ?_ _)); refine blk_far ?_ NB418_435.out _; (with_reducible repeat (first | refine blk_drewN ?_ _ | refine blk_drew ?_ | refine blk_alloc ?_ _)); refine blk_far ?_ NB418_435.out _; (with_reducible repeat (first | refine blk_drewN ?_ _ | refine blk_drew ?_ | refine blk_alloc ?_ _)); refine blk_far ?_ NB418_435.out _; (with_reducible repeat (first | refine blk_drewN ?_ _ | refine blk_drew ?_ | refine blk_alloc ?_ _)); exact BK418.out) hb); have n10_ := Aside0.mk (blk_below (g := gb426) (o := .cells #[.int .i64 t419, .slice Ao30 t420.length co30, .slice Ao31 t423.length co31] 25 (0, 0)) (by (with_reducible repeat (first | refine blk_drewN ?_ _ | refine blk_drew ?_ | refine blk_alloc ?_ _)); refine blk_far ?_ NB426_435.out _; (with_reducible repeat (first | refine blk_drewN ?_ _ | refine blk_drew ?_ | refine blk_alloc ?_ _)); refine blk_far ?_ NB426_435.out _; (with_reducible repeat (first | refine blk_drewN ?_ _ | refine blk_drew ?_ | refine blk_alloc ?_ _)); refine blk_far ?_ NB426_435.out _; (with_reducible repeat (first | refine blk_drewN ?_ _ | refine blk_drew ?_ | refine blk_alloc ?_ _)); exact BK426.out) hb); have n11_ := Aside0.mk (blk_below (g := gb435) (o := .cells #[.int .i64 t427, .slice Ao38 t428.length co38, .slice Ao39 t431.length co39] 25 (0, 0)) (by (with_reducible repeat (first | refine blk_drewN ?_ _ | refine blk_drew ?_ | refine blk_alloc ?_ _)); refine blk_put (cs := #[.int .i64 t427, .slice Ao38 t428.length co38, .slice none 0 0]) ?_ 2 _ rfl; (with_reducible repeat (first | refine blk_drewN ?_ _ | refine blk_drew ?_ | refine blk_alloc ?_ _)); refine blk_put (cs := #[.int .i64 t427, .slice none 0 0, .slice none 0 0]) ?_ 1 _ rfl; (with_reducible repeat (first | refine blk_drewN ?_ _ | refine blk_drew ?_ | refine blk_alloc ?_ _)); refine blk_put (cs := #[.int .i64 0, .slice none 0 0, .slice none 0 0]) ?_ 0 _ rfl; (with_reducible repeat (first | refine blk_drewN ?_ _ | refine blk_drew ?_ | refine blk_alloc ?_ _)); exact BK435.out) hb); have n12_ := Aside0.mk (below_step (by repeat (first | (with_reducible first | exact HB.out | apply below_alloc | apply pw_below_drewN | apply below_drew1 | refine below_set ?_ GE401.out | refine below_set ?_ GE418.out | refine below_set ?_ GE426.out | refine below_set ?_ GE435.out) | exact HB.out)) hb); clear HO406; clear HO409; clear HO413; clear HO416; clear HO422; clear HO425; clear HO430; clear HO433; clear BK401; clear BK418; clear BK426; clear BK435; clear HB; have HO406 := n0_; have HO409 := n1_; have HO413 := n2_; have HO416 := n3_; have HO422 := n4_; have HO425 := n5_; have HO430 := n6_; have HO433 := n7_; have BK401 := n8_; have BK418 := n9_; have BK426 := n10_; have BK435 := n11_; have HB := n12_; clear n0_ n1_ n2_ n3_ n4_ n5_ n6_ n7_ n8_ n9_ n10_ n11_ n12_; (try clear hb); (try clear hb2); (try clear hk); (try clear hi)))
        go_meet
        case rel => exact ⟨_, (true), (by first | rfl | (simp; done) | (simp [*]; done)), H', ⟨by first | omega | exact Nat.le_refl _⟩, ⟨by (with_reducible repeat (first | apply Kd.R_alloc | apply Kd.R_drewN | apply Kd.R_drew)); exact Kd.R_mono HO413.out (fun _ hk => ⟨hk.1.2, hk.2⟩)⟩, ⟨by (with_reducible repeat (first | apply Kd.R_alloc | apply Kd.R_drewN | apply Kd.R_drew)); exact Kd.R_mono HO416.out (fun _ hk => ⟨hk.1.2, hk.2⟩)⟩, ⟨by (with_reducible repeat (first | apply Kd.R_alloc | apply Kd.R_drewN | apply Kd.R_drew)); exact Kd.R_mono HO422.out (fun _ hk => ⟨hk.1.2, hk.2⟩)⟩, ⟨by (with_reducible repeat (first | apply Kd.R_alloc | apply Kd.R_drewN | apply Kd.R_drew)); exact Kd.R_mono HO425.out (fun _ hk => ⟨hk.1.2, hk.2⟩)⟩, ⟨by (with_reducible repeat (first | apply Kd.R_alloc | apply Kd.R_drewN | apply Kd.R_drew)); exact Kd.R_mono HO430.out (fun _ hk => ⟨hk.1.2, hk.2⟩)⟩, ⟨by (with_reducible repeat (first | apply Kd.R_alloc | apply Kd.R_drewN | apply Kd.R_drew)); exact Kd.R_mono HO433.out (fun _ hk => ⟨hk.1.2, hk.2⟩)⟩, ⟨by (with_reducible repeat (first | refine blk_drewN ?_ _ | refine blk_drew ?_ | refine blk_alloc ?_ _)); exact BK401.out⟩, ⟨by (with_reducible repeat (first | refine blk_drewN ?_ _ | refine blk_drew ?_ | refine blk_alloc ?_ _)); exact BK418.out⟩, ⟨by (with_reducible repeat (first | refine blk_drewN ?_ _ | refine blk_drew ?_ | refine blk_alloc ?_ _)); exact BK426.out⟩, ⟨by (with_reducible repeat (first | refine blk_drewN ?_ _ | refine blk_drew ?_ | refine blk_alloc ?_ _)); exact BK435.out⟩, ⟨by repeat (first | (with_reducible first | exact HB.out | apply below_alloc | apply pw_below_drewN | apply below_drew1 | refine below_set ?_ GE401.out | refine below_set ?_ GE418.out | refine below_set ?_ GE426.out | refine below_set ?_ GE435.out) | exact HB.out)⟩⟩
    case rest =>
      clear HC13
      try clear c1
      try clear c2
      try clear p2
      try clear c3
      try clear c4
      try clear c5
      try clear c6
      try clear c8
      try clear c8b0
      try clear c15
      try clear c18
      try clear c20
      try clear c24
      try clear c25
      try clear c27
      try clear c28
      try clear c34
      try clear c35
      try clear c36
      try clear c41
      try clear c42
      try clear c43
      try clear c44
      try clear c46
      try clear c47
      try clear c50
      try clear c51
      try clear c52
      try clear c54
      try clear c55
      try clear hcz14_0
      try clear hcz14_1
      try clear hcz14_2
      try clear hcz21_0
      try clear hcz21_1
      try clear hcz21_2
      try clear hcz24_0
      try clear hcz24_1
      try clear hcz24_2
      try clear hcz29_0
      try clear hcz29_1
      try clear hcz29_2
      try clear hcz37_0
      try clear hcz37_1
      try clear hcz37_2
      try clear hcz45_0
      try clear hcz45_1
      try clear hcz45_2
      try clear hcz48_0
      try clear hcz48_1
      try clear hcz48_2
      try clear hcz53_0
      try clear hcz53_1
      try clear hcz53_2
      try clear hcz56_0
      try clear hcz56_1
      try clear hcz56_2
      try clear hcz6_0
      try clear hcz6_1
      try clear hcz6_2
      try clear hfz14_0
      try clear hfz14_1
      try clear hfz14_2
      try clear hfz21_0
      try clear hfz21_1
      try clear hfz21_2
      try clear hfz24_0
      try clear hfz24_1
      try clear hfz24_2
      try clear hfz29_0
      try clear hfz29_1
      try clear hfz29_2
      try clear hfz37_0
      try clear hfz37_1
      try clear hfz37_2
      try clear hfz45_0
      try clear hfz45_1
      try clear hfz45_2
      try clear hfz48_0
      try clear hfz48_1
      try clear hfz48_2
      try clear hfz53_0
      try clear hfz53_1
      try clear hfz53_2
      try clear hfz56_0
      try clear hfz56_1
      try clear hfz56_2
      try clear hfz6_0
      try clear hfz6_1
      try clear hfz6_2
      obtain ⟨kq, x44_12, rfl, HA, HJ12, HO_419001, HO_419002, HO_427001, HO_427002, HO_436001, HO_436002, BK401, BK418, BK426, BK435, HB⟩ := hcut
      cases kq with
      | zero => exact absurd HA.out (by simp [laws_FnExactUnpinLook.j0])
      | succ kj12 =>
        have H := HA.out
        clear HA
        simp only [laws_FnExactUnpinLook.j0] at H
        by_cases c58 : x44_12 = true
        · subst c58
          have H1 : (none) = some r := by rw [if_pos rfl] at H; exact H
          clear H
          have H := H1
          clear H1
          exact absurd H (by simp)
        · replace c58 := Bool.eq_false_iff.mpr c58
          subst c58
          have H1 : ((laws_toEpochs.f kj12 a0_0 l0_1 l0_2).bind fun bt437 => ((laws_eqEpochs.f kj12 t419 t420 t423 bt437.1 bt437.2.1 bt437.2.2).bind fun t444 => (if t444 = true then ((laws_markEpochs.f kj12 t419 t420 t423 1).bind fun bt445 => (if bt445.1 < 0 then (laws_FnExactUnpinLook.j1 kj12 a1 t417 true a0_0 l0_1 l0_2 t410 t411 t414 t427 t428 t431) else ((laws_eqEpochs.f kj12 t427 t428 t431 t410 t411 t414).bind fun t448 => (if t448 = true then (laws_FnExactUnpinLook.j1 kj12 a1 t417 (t434 != t417) a0_0 l0_1 l0_2 t410 t411 t414 t427 t428 t431) else (laws_FnExactUnpinLook.j1 kj12 a1 t417 true a0_0 l0_1 l0_2 t410 t411 t414 t427 t428 t431))))) else (none)))) = some r := by rw [if_neg (show ¬ (false = true) by decide)] at H; exact H
          clear H
          have H := H1
          clear H1
          replace H := Option.bind_eq_some_iff.mp H
          obtain ⟨⟨t437, t438, t441⟩, A590, H⟩ := H
          replace H : ((laws_eqEpochs.f kj12 t419 t420 t423 t437 t438 t441).bind fun t444 => (if t444 = true then ((laws_markEpochs.f kj12 t419 t420 t423 1).bind fun bt445 => (if bt445.1 < 0 then (laws_FnExactUnpinLook.j1 kj12 a1 t417 true a0_0 l0_1 l0_2 t410 t411 t414 t427 t428 t431) else ((laws_eqEpochs.f kj12 t427 t428 t431 t410 t411 t414).bind fun t448 => (if t448 = true then (laws_FnExactUnpinLook.j1 kj12 a1 t417 (t434 != t417) a0_0 l0_1 l0_2 t410 t411 t414 t427 t428 t431) else (laws_FnExactUnpinLook.j1 kj12 a1 t417 true a0_0 l0_1 l0_2 t410 t411 t414 t427 t428 t431))))) else (none))) = some r := H
          have A59 := Aside0.mk A590
          clear A590
          replace H := Option.bind_eq_some_iff.mp H
          obtain ⟨t444, A600, H⟩ := H
          replace H : (if t444 = true then ((laws_markEpochs.f kj12 t419 t420 t423 1).bind fun bt445 => (if bt445.1 < 0 then (laws_FnExactUnpinLook.j1 kj12 a1 t417 true a0_0 l0_1 l0_2 t410 t411 t414 t427 t428 t431) else ((laws_eqEpochs.f kj12 t427 t428 t431 t410 t411 t414).bind fun t448 => (if t448 = true then (laws_FnExactUnpinLook.j1 kj12 a1 t417 (t434 != t417) a0_0 l0_1 l0_2 t410 t411 t414 t427 t428 t431) else (laws_FnExactUnpinLook.j1 kj12 a1 t417 true a0_0 l0_1 l0_2 t410 t411 t414 t427 t428 t431))))) else (none)) = some r := H
          have A60 := Aside0.mk A600
          clear A600
          by_cases c61 : t444 = true
          · subst c61
            have H1 : ((laws_markEpochs.f kj12 t419 t420 t423 1).bind fun bt445 => (if bt445.1 < 0 then (laws_FnExactUnpinLook.j1 kj12 a1 t417 true a0_0 l0_1 l0_2 t410 t411 t414 t427 t428 t431) else ((laws_eqEpochs.f kj12 t427 t428 t431 t410 t411 t414).bind fun t448 => (if t448 = true then (laws_FnExactUnpinLook.j1 kj12 a1 t417 (t434 != t417) a0_0 l0_1 l0_2 t410 t411 t414 t427 t428 t431) else (laws_FnExactUnpinLook.j1 kj12 a1 t417 true a0_0 l0_1 l0_2 t410 t411 t414 t427 t428 t431))))) = some r := by rw [if_pos rfl] at H; exact H
            clear H
            have H := H1
            clear H1
            replace H := Option.bind_eq_some_iff.mp H
            obtain ⟨⟨t445, t446, t447⟩, A620, H⟩ := H
            replace H : (if t445 < 0 then (laws_FnExactUnpinLook.j1 kj12 a1 t417 true a0_0 l0_1 l0_2 t410 t411 t414 t427 t428 t431) else ((laws_eqEpochs.f kj12 t427 t428 t431 t410 t411 t414).bind fun t448 => (if t448 = true then (laws_FnExactUnpinLook.j1 kj12 a1 t417 (t434 != t417) a0_0 l0_1 l0_2 t410 t411 t414 t427 t428 t431) else (laws_FnExactUnpinLook.j1 kj12 a1 t417 true a0_0 l0_1 l0_2 t410 t411 t414 t427 t428 t431)))) = some r := H
            have A62 := Aside0.mk A620
            clear A620
            have HC63 := Aside0.mk H
            clear H
            try go_wp2
            have n0_ := Aside0.mk (Kd.R_drew HO_419001.out)
            have n1_ := Aside0.mk (Kd.R_drew HO_419002.out)
            have n2_ := Aside0.mk (Kd.R_drew HO_427001.out)
            have n3_ := Aside0.mk (Kd.R_drew HO_427002.out)
            have n4_ := Aside0.mk (Kd.R_drew HO_436001.out)
            have n5_ := Aside0.mk (Kd.R_drew HO_436002.out)
            have n6_ := Aside0.mk (blk_drew BK401.out)
            have n7_ := Aside0.mk (blk_drew BK418.out)
            have n8_ := Aside0.mk (blk_drew BK426.out)
            have n9_ := Aside0.mk (blk_drew BK435.out)
            have n10_ := Aside0.mk (below_drew1 HB.out)
            clear HO_419001
            clear HO_419002
            clear HO_427001
            clear HO_427002
            clear HO_436001
            clear HO_436002
            clear BK401
            clear BK418
            clear BK426
            clear BK435
            clear HB
            have HO_419001 := n0_
            have HO_419002 := n1_
            have HO_427001 := n2_
            have HO_427002 := n3_
            have HO_436001 := n4_
            have HO_436002 := n5_
            have BK401 := n6_
            have BK418 := n7_
            have BK426 := n8_
            have BK435 := n9_
            have HB := n10_
            clear n0_ n1_ n2_ n3_ n4_ n5_ n6_ n7_ n8_ n9_ n10_
            refine start_ (n := 5) (S := fun w' => w'.cell? ⟨gb426, 0, none⟩ = some (.int .i64 t419) ∧ w'.cell? ⟨gb426, 1, none⟩ = some (.slice Ao30 t420.length co30) ∧ w'.cell? ⟨gb426, 2, none⟩ = some (.slice Ao31 t423.length co31) ∧ w'.cell? ⟨gb401, 0, none⟩ = some (.int .i64 a0_0) ∧ w'.cell? ⟨gb401, 1, none⟩ = some (.slice A0_1 l0_1.length c0_1) ∧ w'.cell? ⟨gb401, 2, none⟩ = some (.slice A0_2 l0_2.length c0_2)) (ds := []) #[false, false, false, false, false] (by kernel_rfl) rfl rfl ⟨(blk_cell BK426.out 0).trans rfl, (blk_cell BK426.out 1).trans rfl, (blk_cell BK426.out 2).trans rfl, (blk_cell BK401.out 0).trans rfl, (blk_cell BK401.out 1).trans rfl, (blk_cell BK401.out 2).trans rfl⟩ (fun hHeld => ?_)
            generalize wc.drew = w64 at HO_419001 HO_419002 HO_427001 HO_427002 HO_436001 HO_436002 BK401 BK418 BK426 BK435 HB hHeld ⊢
            refine take_ (i := 0) (N := some 45) (v := ?_) (a' := ?_) #[true, false, false, false, false] rfl rfl (by kernel_rfl) (fun _ _ _ h => h) (Or.inl ⟨by rfl, ?_⟩) hHeld ?_ ?_
            rotate_left
            · rintro w' ⟨s0, s1, s2, s3, s4, s5⟩
              go_simp
              with_reducible rfl
            rotate_left
            · simp only [Act.put, List.setIfInBounds_toArray, List.set_cons_zero, List.set_cons_succ, i64_w, i32_w]
              rfl
            refine take_ (i := 1) (N := some 46) (v := ?_) (a' := ?_) #[true, true, false, false, false] rfl rfl (by kernel_rfl) (fun _ _ _ h => h) (Or.inl ⟨by rfl, ?_⟩) hHeld ?_ ?_
            rotate_left
            · rintro w' ⟨s0, s1, s2, s3, s4, s5⟩
              go_simp
              with_reducible rfl
            rotate_left
            · simp only [Act.put, List.setIfInBounds_toArray, List.set_cons_zero, List.set_cons_succ, i64_w, i32_w]
              rfl
            refine one_ (i := 2) (N := some 47) #[true, true, true, false, false] rfl rfl (by kernel_rfl) (by decide) (fun K hK => ?_)
            refine goes_ Try.func20 (by kernel_rfl) rfl #[.agg #[.int .i64 a0_0, .slice A0_1 l0_1.length c0_1, .slice A0_2 l0_2.length c0_2]] (by rfl) rfl rfl (by (try simp only [List.map_toArray, List.map_cons, List.map_nil]); first | done | rfl | (simp only [List.length_drop, List.length_take]; rfl)) ?_
            with_reducible refine (laws_toEpochs.calls kj12 a0_0 _ _ l0_1 _ _ l0_2 t437 t438 t441 _ ?side1 ?side2 ?side3 ?side4 A59.out).mono ?_
            (case side1 => repeat (first | exact (Kd.C_below HR0_1.out HB.out) | (with_reducible refine Kd.C_alloc ?_ _) | (with_reducible refine Kd.C_drewN ?_ _) | (with_reducible refine Kd.C_drew ?_)))
            (case side2 => exact HC0_1.out)
            (case side3 => repeat (first | exact (Kd.C_below HR0_2.out HB.out) | (with_reducible refine Kd.C_alloc ?_ _) | (with_reducible refine Kd.C_drewN ?_ _) | (with_reducible refine Kd.C_drew ?_)))
            (case side4 => exact HC0_2.out)
            rintro e w65 ⟨v439, v442, rfl, ho0, ho1, hb⟩
            refine ⟨_, rfl, ?_⟩
            have n0_ := Aside0.mk (Kd.R_elder' (by (with_reducible repeat (first | apply Kd.R_alloc | apply Kd.R_drewN | apply Kd.R_drew)); exact HO_419001.out) (Kd.R_base ho0) hb)
            have n1_ := Aside0.mk (Kd.R_elder' (by (with_reducible repeat (first | apply Kd.R_alloc | apply Kd.R_drewN | apply Kd.R_drew)); exact HO_419002.out) (Kd.R_base ho1) hb)
            have n2_ := Aside0.mk (Kd.R_elder' (by (with_reducible repeat (first | apply Kd.R_alloc | apply Kd.R_drewN | apply Kd.R_drew)); exact HO_427001.out) (Kd.R_base ho0) hb)
            have n3_ := Aside0.mk (Kd.R_elder' (by (with_reducible repeat (first | apply Kd.R_alloc | apply Kd.R_drewN | apply Kd.R_drew)); exact HO_427002.out) (Kd.R_base ho1) hb)
            have n4_ := Aside0.mk (Kd.R_elder' (by (with_reducible repeat (first | apply Kd.R_alloc | apply Kd.R_drewN | apply Kd.R_drew)); exact HO_436001.out) (Kd.R_base ho0) hb)
            have n5_ := Aside0.mk (Kd.R_elder' (by (with_reducible repeat (first | apply Kd.R_alloc | apply Kd.R_drewN | apply Kd.R_drew)); exact HO_436002.out) (Kd.R_base ho1) hb)
            have n6_ := Aside0.mk (Kd.R_lower (Kd.R_new' (Kd.R_new' (Kd.R_new' ho0 (Kd.R_lt (by (with_reducible repeat (first | apply Kd.R_alloc | apply Kd.R_drewN | apply Kd.R_drew)); exact HO_419001.out))) (Kd.R_lt (by (with_reducible repeat (first | apply Kd.R_alloc | apply Kd.R_drewN | apply Kd.R_drew)); exact HO_427001.out))) (Kd.R_lt (by (with_reducible repeat (first | apply Kd.R_alloc | apply Kd.R_drewN | apply Kd.R_drew)); exact HO_436001.out))) (below_size (by repeat (first | (with_reducible first | exact HB.out | apply below_alloc | apply pw_below_drewN | apply below_drew1 | refine below_set ?_ GE401.out | refine below_set ?_ GE418.out | refine below_set ?_ GE426.out | refine below_set ?_ GE435.out) | exact HB.out))))
            have n7_ := Aside0.mk (Kd.R_lower (Kd.R_new' (Kd.R_new' (Kd.R_new' ho1 (Kd.R_lt (by (with_reducible repeat (first | apply Kd.R_alloc | apply Kd.R_drewN | apply Kd.R_drew)); exact HO_419002.out))) (Kd.R_lt (by (with_reducible repeat (first | apply Kd.R_alloc | apply Kd.R_drewN | apply Kd.R_drew)); exact HO_427002.out))) (Kd.R_lt (by (with_reducible repeat (first | apply Kd.R_alloc | apply Kd.R_drewN | apply Kd.R_drew)); exact HO_436002.out))) (below_size (by repeat (first | (with_reducible first | exact HB.out | apply below_alloc | apply pw_below_drewN | apply below_drew1 | refine below_set ?_ GE401.out | refine below_set ?_ GE418.out | refine below_set ?_ GE426.out | refine below_set ?_ GE435.out) | exact HB.out))))
            have n8_ := Aside0.mk (blk_below (g := gb401) (o := .cells #[.int .i64 a0_0, .slice A0_1 l0_1.length c0_1, .slice A0_2 l0_2.length c0_2] 32 (0, 0)) (by (with_reducible repeat (first | refine blk_drewN ?_ _ | refine blk_drew ?_ | refine blk_alloc ?_ _)); exact BK401.out) hb)
            have n9_ := Aside0.mk (blk_below (g := gb418) (o := .cells #[.int .i64 t410, .slice Ao22 t411.length co22, .slice Ao23 t414.length co23] 25 (0, 0)) (by (with_reducible repeat (first | refine blk_drewN ?_ _ | refine blk_drew ?_ | refine blk_alloc ?_ _)); exact BK418.out) hb)
            have n10_ := Aside0.mk (blk_below (g := gb426) (o := .cells #[.int .i64 t419, .slice Ao30 t420.length co30, .slice Ao31 t423.length co31] 25 (0, 0)) (by (with_reducible repeat (first | refine blk_drewN ?_ _ | refine blk_drew ?_ | refine blk_alloc ?_ _)); exact BK426.out) hb)
            have n11_ := Aside0.mk (blk_below (g := gb435) (o := .cells #[.int .i64 t427, .slice Ao38 t428.length co38, .slice Ao39 t431.length co39] 25 (0, 0)) (by (with_reducible repeat (first | refine blk_drewN ?_ _ | refine blk_drew ?_ | refine blk_alloc ?_ _)); exact BK435.out) hb)
            have n12_ := Aside0.mk (below_step (by repeat (first | (with_reducible first | exact HB.out | apply below_alloc | apply pw_below_drewN | apply below_drew1 | refine below_set ?_ GE401.out | refine below_set ?_ GE418.out | refine below_set ?_ GE426.out | refine below_set ?_ GE435.out) | exact HB.out)) hb)
            clear HO_419001
            clear HO_419002
            clear HO_427001
            clear HO_427002
            clear HO_436001
            clear HO_436002
            clear BK401
            clear BK418
            clear BK426
            clear BK435
            clear HB
            have HO_419001 := n0_
            have HO_419002 := n1_
            have HO_427001 := n2_
            have HO_427002 := n3_
            have HO_436001 := n4_
            have HO_436002 := n5_
            have HO440 := n6_
            have HO443 := n7_
            have BK401 := n8_
            have BK418 := n9_
            have BK426 := n10_
            have BK435 := n11_
            have HB := n12_
            clear n0_ n1_ n2_ n3_ n4_ n5_ n6_ n7_ n8_ n9_ n10_ n11_ n12_
            (try clear hb)
            (try clear hb2)
            (try clear hk)
            (try clear hi)
            (try clear ho0)
            (try clear ho1)
            obtain ⟨Ao66, co66, eo66⟩ := Kd.R_slice HO440.out
            (first | subst eo66 | (injection eo66 with f1_ f2_ f3_; have f4_ := f1_.symm; have f5_ := f3_.symm; clear f1_ f2_ f3_; subst f4_; subst f5_))
            obtain ⟨Ao67, co67, eo67⟩ := Kd.R_slice HO443.out
            (first | subst eo67 | (injection eo67 with f1_ f2_ f3_; have f4_ := f1_.symm; have f5_ := f3_.symm; clear f1_ f2_ f3_; subst f4_; subst f5_))
            refine hK.out _ _ ⟨(blk_cell BK426.out 0).trans rfl, (blk_cell BK426.out 1).trans rfl, (blk_cell BK426.out 2).trans rfl, (blk_cell BK401.out 0).trans rfl, (blk_cell BK401.out 1).trans rfl, (blk_cell BK401.out 2).trans rfl⟩ (fun hHeld => ?_)
            clear hK K
            refine norm_ (a' := ?_) ?_ ?_
            rotate_left
            · show Act.put _ (some 47) _ = _
              simp only [Act.put, List.setIfInBounds_toArray, List.set_cons_zero, List.set_cons_succ, i64_w, i32_w]
              rfl
            refine one_ (i := 3) (N := some 48) #[true, true, true, true, false] rfl rfl (by kernel_rfl) (by decide) (fun K hK => ?_)
            refine goes_ Try.func15 (by kernel_rfl) rfl #[.agg #[.int .i64 t419, .slice Ao30 t420.length co30, .slice Ao31 t423.length co31], .agg #[.int .i64 t437, .slice Ao66 t438.length co66, .slice Ao67 t441.length co67]] (by rfl) rfl rfl (by (try simp only [List.map_toArray, List.map_cons, List.map_nil]); first | done | rfl | (simp only [List.length_drop, List.length_take]; rfl)) ?_
            with_reducible refine (laws_eqEpochs.calls kj12 t419 _ _ t420 _ _ t423 t437 _ _ t438 _ _ t441 true _ ?side1 ?side2 ?side3 ?side4 ?side5 ?side6 ?side7 ?side8 A60.out).mono ?_
            (case side1 => repeat (first | exact (Kd.R_reads' HO_427001.out).2.2 | (with_reducible refine Kd.C_alloc ?_ _) | (with_reducible refine Kd.C_drewN ?_ _) | (with_reducible refine Kd.C_drew ?_)))
            (case side2 => exact (Kd.R_reads' HO_427001.out).2.1)
            (case side3 => repeat (first | exact (Kd.R_reads' HO_427002.out).2.2 | (with_reducible refine Kd.C_alloc ?_ _) | (with_reducible refine Kd.C_drewN ?_ _) | (with_reducible refine Kd.C_drew ?_)))
            (case side4 => exact (Kd.R_reads' HO_427002.out).2.1)
            (case side5 => repeat (first | exact (Kd.R_reads' HO440.out).2.2 | (with_reducible refine Kd.C_alloc ?_ _) | (with_reducible refine Kd.C_drewN ?_ _) | (with_reducible refine Kd.C_drew ?_)))
            (case side6 => exact (Kd.R_reads' HO440.out).2.1)
            (case side7 => repeat (first | exact (Kd.R_reads' HO443.out).2.2 | (with_reducible refine Kd.C_alloc ?_ _) | (with_reducible refine Kd.C_drewN ?_ _) | (with_reducible refine Kd.C_drew ?_)))
            (case side8 => exact (Kd.R_reads' HO443.out).2.1)
            rintro e w68 ⟨rfl, hb⟩
            refine ⟨_, rfl, ?_⟩
            have n0_ := Aside0.mk (Kd.R_below (by (with_reducible repeat (first | apply Kd.R_alloc | apply Kd.R_drewN | apply Kd.R_drew)); exact HO_419001.out) hb)
            have n1_ := Aside0.mk (Kd.R_below (by (with_reducible repeat (first | apply Kd.R_alloc | apply Kd.R_drewN | apply Kd.R_drew)); exact HO_419002.out) hb)
            have n2_ := Aside0.mk (Kd.R_below (by (with_reducible repeat (first | apply Kd.R_alloc | apply Kd.R_drewN | apply Kd.R_drew)); exact HO_427001.out) hb)
            have n3_ := Aside0.mk (Kd.R_below (by (with_reducible repeat (first | apply Kd.R_alloc | apply Kd.R_drewN | apply Kd.R_drew)); exact HO_427002.out) hb)
            have n4_ := Aside0.mk (Kd.R_below (by (with_reducible repeat (first | apply Kd.R_alloc | apply Kd.R_drewN | apply Kd.R_drew)); exact HO_436001.out) hb)
            have n5_ := Aside0.mk (Kd.R_below (by (with_reducible repeat (first | apply Kd.R_alloc | apply Kd.R_drewN | apply Kd.R_drew)); exact HO_436002.out) hb)
            have n6_ := Aside0.mk (Kd.R_below (by (with_reducible repeat (first | apply Kd.R_alloc | apply Kd.R_drewN | apply Kd.R_drew)); exact HO440.out) hb)
            have n7_ := Aside0.mk (Kd.R_below (by (with_reducible repeat (first | apply Kd.R_alloc | apply Kd.R_drewN | apply Kd.R_drew)); exact HO443.out) hb)
            have n8_ := Aside0.mk (blk_below (g := gb401) (o := .cells #[.int .i64 a0_0, .slice A0_1 l0_1.length c0_1, .slice A0_2 l0_2.length c0_2] 32 (0, 0)) (by (with_reducible repeat (first | refine blk_drewN ?_ _ | refine blk_drew ?_ | refine blk_alloc ?_ _)); exact BK401.out) hb)
            have n9_ := Aside0.mk (blk_below (g := gb418) (o := .cells #[.int .i64 t410, .slice Ao22 t411.length co22, .slice Ao23 t414.length co23] 25 (0, 0)) (by (with_reducible repeat (first | refine blk_drewN ?_ _ | refine blk_drew ?_ | refine blk_alloc ?_ _)); exact BK418.out) hb)
            have n10_ := Aside0.mk (blk_below (g := gb426) (o := .cells #[.int .i64 t419, .slice Ao30 t420.length co30, .slice Ao31 t423.length co31] 25 (0, 0)) (by (with_reducible repeat (first | refine blk_drewN ?_ _ | refine blk_drew ?_ | refine blk_alloc ?_ _)); exact BK426.out) hb)
            have n11_ := Aside0.mk (blk_below (g := gb435) (o := .cells #[.int .i64 t427, .slice Ao38 t428.length co38, .slice Ao39 t431.length co39] 25 (0, 0)) (by (with_reducible repeat (first | refine blk_drewN ?_ _ | refine blk_drew ?_ | refine blk_alloc ?_ _)); exact BK435.out) hb)
            have n12_ := Aside0.mk (below_step (by repeat (first | (with_reducible first | exact HB.out | apply below_alloc | apply pw_below_drewN | apply below_drew1 | refine below_set ?_ GE401.out | refine below_set ?_ GE418.out | refine below_set ?_ GE426.out | refine below_set ?_ GE435.out) | exact HB.out)) hb)
            clear HO_419001
            clear HO_419002
            clear HO_427001
            clear HO_427002
            clear HO_436001
            clear HO_436002
            clear HO440
            clear HO443
            clear BK401
            clear BK418
            clear BK426
            clear BK435
            clear HB
            have HO_419001 := n0_
            have HO_419002 := n1_
            have HO_427001 := n2_
            have HO_427002 := n3_
            have HO_436001 := n4_
            have HO_436002 := n5_
            have HO440 := n6_
            have HO443 := n7_
            have BK401 := n8_
            have BK418 := n9_
            have BK426 := n10_
            have BK435 := n11_
            have HB := n12_
            clear n0_ n1_ n2_ n3_ n4_ n5_ n6_ n7_ n8_ n9_ n10_ n11_ n12_
            (try clear hb)
            (try clear hb2)
            (try clear hk)
            (try clear hi)
            refine hK.out _ _ ⟨(blk_cell BK426.out 0).trans rfl, (blk_cell BK426.out 1).trans rfl, (blk_cell BK426.out 2).trans rfl, (blk_cell BK401.out 0).trans rfl, (blk_cell BK401.out 1).trans rfl, (blk_cell BK401.out 2).trans rfl⟩ (fun hHeld => ?_)
            clear hK K
            refine norm_ (a' := ?_) ?_ ?_
            rotate_left
            · show Act.put _ (some 48) _ = _
              simp only [Act.put, List.setIfInBounds_toArray, List.set_cons_zero, List.set_cons_succ, i64_w, i32_w]
              rfl
            refine pure_ (i := 4) (N := some 49) (v := ?_) (a' := ?_) #[true, true, true, true, true] rfl rfl (by kernel_rfl) (fun _ _ _ h => h) (Or.inl ⟨by rfl, ?_⟩) ?_ ?_
            rotate_left
            · intro w'
              go_simp
              with_reducible rfl
            rotate_left
            · simp only [Act.put, List.setIfInBounds_toArray, List.set_cons_zero, List.set_cons_succ, i64_w, i32_w]
              rfl
            refine done_ (by kernel_rfl) ?_
            have hnb69 := NB426_401.out
            have hnc69 := NB401_426.out
            have hnb70 := NB426_418.out
            have hnc70 := NB418_426.out
            have hnb71 := NB426_435.out
            have hnc71 := NB435_426.out
            have hcz72_0 : w68.cell? ⟨gb426, 0, none⟩ = some (.int .i64 t419) := (blk_cell BK426.out 0).trans rfl
            have hcz72_1 : w68.cell? ⟨gb426, 1, none⟩ = some (.slice Ao30 t420.length co30) := (blk_cell BK426.out 1).trans rfl
            have hcz72_2 : w68.cell? ⟨gb426, 2, none⟩ = some (.slice Ao31 t423.length co31) := (blk_cell BK426.out 2).trans rfl
            have hfz72_0 := blk_frozen BK426.out 0
            have hfz72_1 := blk_frozen BK426.out 1
            have hfz72_2 := blk_frozen BK426.out 2
            go_upto_region 14 with (first | ((with_reducible refine gate_callee (f := 16) rfl ?_); refine goesL_ (some 52) rfl rfl Try.func16 (by kernel_rfl) rfl #[.agg #[.int .i64 t419, .slice Ao30 t420.length co30, .slice Ao31 t423.length co31], .int .i64 1] rfl (by (try simp only [List.map_toArray, List.map_cons, List.map_nil]); first | done | rfl | (simp only [List.length_drop, List.length_take]; rfl)) ?_; (with_reducible refine (laws_markEpochs.calls kj12 t419 (fun k_ => some k_ = (.slice Ao30 t420.length co30 : Value).ownBlock) (.slice Ao30 t420.length co30) t420 (fun k_ => some k_ = (.slice Ao31 t423.length co31 : Value).ownBlock) (.slice Ao31 t423.length co31) t423 1 t445 t446 t447 w _ ?side1 ?side2 ?side3 A62.out).mono ?_); (case side1 => repeat (first | (with_reducible first | exact HB.out | apply below_alloc | apply pw_below_drewN | apply below_drew1 | refine below_set ?_ GE401.out | refine below_set ?_ GE418.out | refine below_set ?_ GE426.out | refine below_set ?_ GE435.out) | exact HB.out)); (case side2 => exact Kd.R_tight rfl HO_427001.out); (case side3 => exact Kd.R_tight rfl HO_427002.out); rintro e w73 ⟨rfl, hy0, hy1, hb, hkp⟩; refine ⟨_, rfl, ?_⟩; have n0_ := Aside0.mk (Kd.R_mono (ok' := fun k_ => some k_ ≠ (.slice Ao30 t420.length co30 : Value).ownBlock ∧ some k_ ≠ (.slice Ao38 t428.length co38 : Value).ownBlock ∧ some k_ ≠ (.slice Ao66 t438.length co66 : Value).ownBlock) (Kd.R_keptB ((Kd.R_apart' HO_419001.out (Kd.R_typed HO_427002.out) (by decide))) hkp (fun k_ hk_ hs_ => Or.elim hs_ (fun e_ => (hk_.1.1.1) e_) (fun e_ => (hk_.2) e_))) (fun k_ hk_ => ⟨hk_.1.1.1.1, hk_.1.1.1.2, hk_.1.1.2⟩)); have n1_ := Aside0.mk (Kd.R_mono (ok' := fun k_ => some k_ ≠ (.slice Ao31 t423.length co31 : Value).ownBlock ∧ some k_ ≠ (.slice Ao39 t431.length co39 : Value).ownBlock ∧ some k_ ≠ (.slice Ao67 t441.length co67 : Value).ownBlock) (Kd.R_keptB ((Kd.R_apart' HO_419002.out (Kd.R_typed HO_427001.out) (by decide))) hkp (fun k_ hk_ hs_ => Or.elim hs_ (fun e_ => (hk_.2) e_) (fun e_ => (hk_.1.1.1) e_))) (fun k_ hk_ => ⟨hk_.1.1.1.1, hk_.1.1.1.2, hk_.1.1.2⟩)); have n2_ := Aside0.mk (Kd.R_reok rfl hy0 (fun k_ e_ => HO_427001.out.1 k_ e_)); have n3_ := Aside0.mk (Kd.R_reok rfl hy1 (fun k_ e_ => HO_427002.out.1 k_ e_)); have n4_ := Aside0.mk (Kd.R_mono (ok' := fun k_ => some k_ ≠ (.slice Ao22 t411.length co22 : Value).ownBlock ∧ some k_ ≠ (.slice Ao30 t420.length co30 : Value).ownBlock ∧ some k_ ≠ (.slice Ao66 t438.length co66 : Value).ownBlock) (Kd.R_keptB ((Kd.R_apart' HO_436001.out (Kd.R_typed HO_427002.out) (by decide))) hkp (fun k_ hk_ hs_ => Or.elim hs_ (fun e_ => (hk_.1.1.2) e_) (fun e_ => (hk_.2) e_))) (fun k_ hk_ => ⟨hk_.1.1.1.1, hk_.1.1.1.2, hk_.1.1.2⟩)); have n5_ := Aside0.mk (Kd.R_mono (ok' := fun k_ => some k_ ≠ (.slice Ao23 t414.length co23 : Value).ownBlock ∧ some k_ ≠ (.slice Ao31 t423.length co31 : Value).ownBlock ∧ some k_ ≠ (.slice Ao67 t441.length co67 : Value).ownBlock) (Kd.R_keptB ((Kd.R_apart' HO_436002.out (Kd.R_typed HO_427001.out) (by decide))) hkp (fun k_ hk_ hs_ => Or.elim hs_ (fun e_ => (hk_.2) e_) (fun e_ => (hk_.1.1.2) e_))) (fun k_ hk_ => ⟨hk_.1.1.1.1, hk_.1.1.1.2, hk_.1.1.2⟩)); have n6_ := Aside0.mk (blk_kept (by (with_reducible repeat (first | refine blk_drewN ?_ _ | refine blk_drew ?_ | refine blk_alloc ?_ _)); exact BK401.out) hkp (fun hs_ => Or.elim hs_ (fun e_ => (fun e_ => (Kd.R_ne HO_427001.out BK401.out (by decide)) e_) e_) (fun e_ => (fun e_ => (Kd.R_ne HO_427002.out BK401.out (by decide)) e_) e_))); have n7_ := Aside0.mk (blk_kept (by (with_reducible repeat (first | refine blk_drewN ?_ _ | refine blk_drew ?_ | refine blk_alloc ?_ _)); exact BK418.out) hkp (fun hs_ => Or.elim hs_ (fun e_ => (fun e_ => (Kd.R_ne HO_427001.out BK418.out (by decide)) e_) e_) (fun e_ => (fun e_ => (Kd.R_ne HO_427002.out BK418.out (by decide)) e_) e_))); have n8_ := Aside0.mk (blk_kept (by (with_reducible repeat (first | refine blk_drewN ?_ _ | refine blk_drew ?_ | refine blk_alloc ?_ _)); exact BK426.out) hkp (fun hs_ => Or.elim hs_ (fun e_ => (fun e_ => (Kd.R_ne HO_427001.out BK426.out (by decide)) e_) e_) (fun e_ => (fun e_ => (Kd.R_ne HO_427002.out BK426.out (by decide)) e_) e_))); have n9_ := Aside0.mk (blk_kept (by (with_reducible repeat (first | refine blk_drewN ?_ _ | refine blk_drew ?_ | refine blk_alloc ?_ _)); exact BK435.out) hkp (fun hs_ => Or.elim hs_ (fun e_ => (fun e_ => (Kd.R_ne HO_427001.out BK435.out (by decide)) e_) e_) (fun e_ => (fun e_ => (Kd.R_ne HO_427002.out BK435.out (by decide)) e_) e_))); have n10_ := Aside0.mk (Kd.R_mono (ok' := fun k_ => some k_ ≠ (.slice Ao22 t411.length co22 : Value).ownBlock ∧ some k_ ≠ (.slice Ao30 t420.length co30 : Value).ownBlock ∧ some k_ ≠ (.slice Ao38 t428.length co38 : Value).ownBlock) (Kd.R_keptB ((Kd.R_apart' HO440.out (Kd.R_typed HO_427002.out) (by decide))) hkp (fun k_ hk_ hs_ => Or.elim hs_ (fun e_ => (hk_.1.1.2) e_) (fun e_ => (hk_.2) e_))) (fun k_ hk_ => ⟨hk_.1.1.1.1.2, hk_.1.1.1.2, hk_.1.1.2⟩)); have n11_ := Aside0.mk (Kd.R_mono (ok' := fun k_ => some k_ ≠ (.slice Ao23 t414.length co23 : Value).ownBlock ∧ some k_ ≠ (.slice Ao31 t423.length co31 : Value).ownBlock ∧ some k_ ≠ (.slice Ao39 t431.length co39 : Value).ownBlock) (Kd.R_keptB ((Kd.R_apart' HO443.out (Kd.R_typed HO_427001.out) (by decide))) hkp (fun k_ hk_ hs_ => Or.elim hs_ (fun e_ => (hk_.2) e_) (fun e_ => (hk_.1.1.2) e_))) (fun k_ hk_ => ⟨hk_.1.1.1.1.2, hk_.1.1.1.2, hk_.1.1.2⟩)); have n12_ := Aside0.mk (hb); clear HO_419001; clear HO_419002; clear HO_427001; clear HO_427002; clear HO_436001; clear HO_436002; clear BK401; clear BK418; clear BK426; clear BK435; clear HO440; clear HO443; clear HB; have HO_419001 := n0_; have HO_419002 := n1_; have HO_427001 := n2_; have HO_427002 := n3_; have HO_436001 := n4_; have HO_436002 := n5_; have BK401 := n6_; have BK418 := n7_; have BK426 := n8_; have BK435 := n9_; have HO440 := n10_; have HO443 := n11_; have HB := n12_; clear n0_ n1_ n2_ n3_ n4_ n5_ n6_ n7_ n8_ n9_ n10_ n11_ n12_; (try clear hb); (try clear hkp); (try clear hy0); (try clear hy1)))
            (try simp only [Act.put, List.setIfInBounds_toArray, List.set_cons_zero, List.set_cons_succ])
            go_cut [65] (fun v65 wc => ∃ (kq : Nat) (x65_62 : Bool), v65 = .bool x65_62 ∧ Aside0 (laws_FnExactUnpinLook.j1 kq a1 t417 x65_62 a0_0 l0_1 l0_2 t410 t411 t414 t427 t428 t431 = some r) ∧ Aside0 (kq ≤ kj12) ∧ Aside0 (Kd.R (Kd.int .i64) 3 wc w.heap.size (fun k_ => some k_ ≠ ((.slice Ao30 t420.length co30) : Value).ownBlock ∧ some k_ ≠ ((.slice Ao38 t428.length co38) : Value).ownBlock) (.slice Ao22 t411.length co22) t411) ∧ Aside0 (Kd.R k57 57 wc w.heap.size (fun k_ => some k_ ≠ ((.slice Ao31 t423.length co31) : Value).ownBlock ∧ some k_ ≠ ((.slice Ao39 t431.length co39) : Value).ownBlock) (.slice Ao23 t414.length co23) t414) ∧ Aside0 (Kd.R (Kd.int .i64) 3 wc w.heap.size (fun k_ => some k_ ≠ ((.slice Ao22 t411.length co22) : Value).ownBlock ∧ some k_ ≠ ((.slice Ao38 t428.length co38) : Value).ownBlock) (.slice Ao30 t420.length co30) t446) ∧ Aside0 (Kd.R k57 57 wc w.heap.size (fun k_ => some k_ ≠ ((.slice Ao23 t414.length co23) : Value).ownBlock ∧ some k_ ≠ ((.slice Ao39 t431.length co39) : Value).ownBlock) (.slice Ao31 t423.length co31) t447) ∧ Aside0 (Kd.R (Kd.int .i64) 3 wc w.heap.size (fun k_ => some k_ ≠ ((.slice Ao22 t411.length co22) : Value).ownBlock ∧ some k_ ≠ ((.slice Ao30 t420.length co30) : Value).ownBlock) (.slice Ao38 t428.length co38) t428) ∧ Aside0 (Kd.R k57 57 wc w.heap.size (fun k_ => some k_ ≠ ((.slice Ao23 t414.length co23) : Value).ownBlock ∧ some k_ ≠ ((.slice Ao31 t423.length co31) : Value).ownBlock) (.slice Ao39 t431.length co39) t431) ∧ Aside0 (wc.heap[gb401]? = some (.cells #[.int .i64 a0_0, (.slice A0_1 l0_1.length c0_1), (.slice A0_2 l0_2.length c0_2)] 32 (0, 0))) ∧ Aside0 (wc.heap[gb418]? = some (.cells #[.int .i64 t410, (.slice Ao22 t411.length co22), (.slice Ao23 t414.length co23)] 25 (0, 0))) ∧ Aside0 (wc.heap[gb426]? = some (.cells #[.int .i64 t419, (.slice Ao30 t420.length co30), (.slice Ao31 t423.length co31)] 25 (0, 0))) ∧ Aside0 (wc.heap[gb435]? = some (.cells #[.int .i64 t427, (.slice Ao38 t428.length co38), (.slice Ao39 t431.length co39)] 25 (0, 0))) ∧ Aside0 (Below w.heap.size w wc))
            case first =>
              have H := HC63.out
              clear HC63
              by_cases c74 : t445 < 0
              · rw [if_pos c74] at H
                have c74b0 : decide (t445 < 0) = true := decide_eq_true c74
                clear c74
                (first | rw [c74b0] | (simp only [i64_w, i32_w]; rw [c74b0]) | skip)
                have H' := Aside0.mk H
                clear H
                go_wp2
                go_meet
                case rel => exact ⟨_, (true), (by first | rfl | (simp; done) | (simp [*]; done)), H', ⟨by have := HJ12.out; first | omega | exact Nat.le_refl _⟩, ⟨by (with_reducible repeat (first | apply Kd.R_alloc | apply Kd.R_drewN | apply Kd.R_drew)); exact Kd.R_mono HO_419001.out (fun _ hk => ⟨hk.1, hk.2.1⟩)⟩, ⟨by (with_reducible repeat (first | apply Kd.R_alloc | apply Kd.R_drewN | apply Kd.R_drew)); exact Kd.R_mono HO_419002.out (fun _ hk => ⟨hk.1, hk.2.1⟩)⟩, ⟨by (with_reducible repeat (first | apply Kd.R_alloc | apply Kd.R_drewN | apply Kd.R_drew)); exact Kd.R_mono HO_427001.out (fun _ hk => ⟨hk.1.1, hk.1.2⟩)⟩, ⟨by (with_reducible repeat (first | apply Kd.R_alloc | apply Kd.R_drewN | apply Kd.R_drew)); exact Kd.R_mono HO_427002.out (fun _ hk => ⟨hk.1.1, hk.1.2⟩)⟩, ⟨by (with_reducible repeat (first | apply Kd.R_alloc | apply Kd.R_drewN | apply Kd.R_drew)); exact Kd.R_mono HO_436001.out (fun _ hk => ⟨hk.1, hk.2.1⟩)⟩, ⟨by (with_reducible repeat (first | apply Kd.R_alloc | apply Kd.R_drewN | apply Kd.R_drew)); exact Kd.R_mono HO_436002.out (fun _ hk => ⟨hk.1, hk.2.1⟩)⟩, ⟨by (with_reducible repeat (first | refine blk_drewN ?_ _ | refine blk_drew ?_ | refine blk_alloc ?_ _)); exact BK401.out⟩, ⟨by (with_reducible repeat (first | refine blk_drewN ?_ _ | refine blk_drew ?_ | refine blk_alloc ?_ _)); exact BK418.out⟩, ⟨by (with_reducible repeat (first | refine blk_drewN ?_ _ | refine blk_drew ?_ | refine blk_alloc ?_ _)); exact BK426.out⟩, ⟨by (with_reducible repeat (first | refine blk_drewN ?_ _ | refine blk_drew ?_ | refine blk_alloc ?_ _)); exact BK435.out⟩, ⟨by repeat (first | (with_reducible first | exact HB.out | apply below_alloc | apply pw_below_drewN | apply below_drew1 | refine below_set ?_ GE401.out | refine below_set ?_ GE418.out | refine below_set ?_ GE426.out | refine below_set ?_ GE435.out) | exact HB.out)⟩⟩
              · rw [if_neg c74] at H
                have c74b0 : decide (t445 < 0) = false := decide_eq_false c74
                clear c74
                (first | rw [c74b0] | (simp only [i64_w, i32_w]; rw [c74b0]) | skip)
                replace H := Option.bind_eq_some_iff.mp H
                obtain ⟨t448, A750, H⟩ := H
                replace H : (if t448 = true then (laws_FnExactUnpinLook.j1 kj12 a1 t417 (t434 != t417) a0_0 l0_1 l0_2 t410 t411 t414 t427 t428 t431) else (laws_FnExactUnpinLook.j1 kj12 a1 t417 true a0_0 l0_1 l0_2 t410 t411 t414 t427 t428 t431)) = some r := H
                have A75 := Aside0.mk A750
                clear A750
                by_cases c76 : t448 = true
                · subst c76
                  have H1 : (laws_FnExactUnpinLook.j1 kj12 a1 t417 (t434 != t417) a0_0 l0_1 l0_2 t410 t411 t414 t427 t428 t431) = some r := by rw [if_pos rfl] at H; exact H
                  clear H
                  have H := H1
                  clear H1
                  have H' := Aside0.mk H
                  clear H
                  have hnb77 := NB435_401.out
                  have hnc77 := NB401_435.out
                  have hnb78 := NB435_418.out
                  have hnc78 := NB418_435.out
                  have hnb79 := NB435_426.out
                  have hnc79 := NB426_435.out
                  have hcz80_0 : w73.cell? ⟨gb435, 0, none⟩ = some (.int .i64 t427) := (blk_cell BK435.out 0).trans rfl
                  have hcz80_1 : w73.cell? ⟨gb435, 1, none⟩ = some (.slice Ao38 t428.length co38) := (blk_cell BK435.out 1).trans rfl
                  have hcz80_2 : w73.cell? ⟨gb435, 2, none⟩ = some (.slice Ao39 t431.length co39) := (blk_cell BK435.out 2).trans rfl
                  have hfz80_0 := blk_frozen BK435.out 0
                  have hfz80_1 := blk_frozen BK435.out 1
                  have hfz80_2 := blk_frozen BK435.out 2
                  have hnb81 := NB418_401.out
                  have hnc81 := NB401_418.out
                  have hnb82 := NB418_426.out
                  have hnc82 := NB426_418.out
                  have hcz83_0 : w73.cell? ⟨gb418, 0, none⟩ = some (.int .i64 t410) := (blk_cell BK418.out 0).trans rfl
                  have hcz83_1 : w73.cell? ⟨gb418, 1, none⟩ = some (.slice Ao22 t411.length co22) := (blk_cell BK418.out 1).trans rfl
                  have hcz83_2 : w73.cell? ⟨gb418, 2, none⟩ = some (.slice Ao23 t414.length co23) := (blk_cell BK418.out 2).trans rfl
                  have hfz83_0 := blk_frozen BK418.out 0
                  have hfz83_1 := blk_frozen BK418.out 1
                  have hfz83_2 := blk_frozen BK418.out 2
                  go_wp2_with (first | (go_at_call 15; (with_reducible refine (laws_eqEpochs.calls kj12 t427 _ _ t428 _ _ t431 t410 _ _ t411 _ _ t414 true _ ?side1 ?side2 ?side3 ?side4 ?side5 ?side6 ?side7 ?side8 A75.out).mono ?_); (case side1 => repeat (first | exact (Kd.R_reads' HO_436001.out).2.2 | (with_reducible refine Kd.C_alloc ?_ _) | (with_reducible refine Kd.C_drewN ?_ _) | (with_reducible refine Kd.C_drew ?_))); (case side2 => exact (Kd.R_reads' HO_436001.out).2.1); (case side3 => repeat (first | exact (Kd.R_reads' HO_436002.out).2.2 | (with_reducible refine Kd.C_alloc ?_ _) | (with_reducible refine Kd.C_drewN ?_ _) | (with_reducible refine Kd.C_drew ?_))); (case side4 => exact (Kd.R_reads' HO_436002.out).2.1); (case side5 => repeat (first | exact (Kd.R_reads' HO_419001.out).2.2 | (with_reducible refine Kd.C_alloc ?_ _) | (with_reducible refine Kd.C_drewN ?_ _) | (with_reducible refine Kd.C_drew ?_))); (case side6 => exact (Kd.R_reads' HO_419001.out).2.1); (case side7 => repeat (first | exact (Kd.R_reads' HO_419002.out).2.2 | (with_reducible refine Kd.C_alloc ?_ _) | (with_reducible refine Kd.C_drewN ?_ _) | (with_reducible refine Kd.C_drew ?_))); (case side8 => exact (Kd.R_reads' HO_419002.out).2.1); rintro e w84 ⟨rfl, hb⟩; have n0_ := Aside0.mk (Kd.R_below (by (with_reducible repeat (first | apply Kd.R_alloc | apply Kd.R_drewN | apply Kd.R_drew)); exact HO_419001.out) hb); have n1_ := Aside0.mk (Kd.R_below (by (with_reducible repeat (first | apply Kd.R_alloc | apply Kd.R_drewN | apply Kd.R_drew)); exact HO_419002.out) hb); have n2_ := Aside0.mk (Kd.R_below (by (with_reducible repeat (first | apply Kd.R_alloc | apply Kd.R_drewN | apply Kd.R_drew)); exact HO_427001.out) hb); have n3_ := Aside0.mk (Kd.R_below (by (with_reducible repeat (first | apply Kd.R_alloc | apply Kd.R_drewN | apply Kd.R_drew)); exact HO_427002.out) hb); have n4_ := Aside0.mk (Kd.R_below (by (with_reducible repeat (first | apply Kd.R_alloc | apply Kd.R_drewN | apply Kd.R_drew)); exact HO_436001.out) hb); have n5_ := Aside0.mk (Kd.R_below (by (with_reducible repeat (first | apply Kd.R_alloc | apply Kd.R_drewN | apply Kd.R_drew)); exact HO_436002.out) hb); have n6_ := Aside0.mk (Kd.R_below (by (with_reducible repeat (first | apply Kd.R_alloc | apply Kd.R_drewN | apply Kd.R_drew)); exact HO440.out) hb); have n7_ := Aside0.mk (Kd.R_below (by (with_reducible repeat (first | apply Kd.R_alloc | apply Kd.R_drewN | apply Kd.R_drew)); exact HO443.out) hb); have n8_ := Aside0.mk (blk_below (g := gb401) (o := .cells #[.int .i64 a0_0, .slice A0_1 l0_1.length c0_1, .slice A0_2 l0_2.length c0_2] 32 (0, 0)) (by (with_reducible repeat (first | refine blk_drewN ?_ _ | refine blk_drew ?_ | refine blk_alloc ?_ _)); exact BK401.out) hb); have n9_ := Aside0.mk (blk_below (g := gb418) (o := .cells #[.int .i64 t410, .slice Ao22 t411.length co22, .slice Ao23 t414.length co23] 25 (0, 0)) (by (with_reducible repeat (first | refine blk_drewN ?_ _ | refine blk_drew ?_ | refine blk_alloc ?_ _)); exact BK418.out) hb); have n10_ := Aside0.mk (blk_below (g := gb426) (o := .cells #[.int .i64 t419, .slice Ao30 t420.length co30, .slice Ao31 t423.length co31] 25 (0, 0)) (by (with_reducible repeat (first | refine blk_drewN ?_ _ | refine blk_drew ?_ | refine blk_alloc ?_ _)); exact BK426.out) hb); have n11_ := Aside0.mk (blk_below (g := gb435) (o := .cells #[.int .i64 t427, .slice Ao38 t428.length co38, .slice Ao39 t431.length co39] 25 (0, 0)) (by (with_reducible repeat (first | refine blk_drewN ?_ _ | refine blk_drew ?_ | refine blk_alloc ?_ _)); exact BK435.out) hb); have n12_ := Aside0.mk (below_step (by repeat (first | (with_reducible first | exact HB.out | apply below_alloc | apply pw_below_drewN | apply below_drew1 | refine below_set ?_ GE401.out | refine below_set ?_ GE418.out | refine below_set ?_ GE426.out | refine below_set ?_ GE435.out) | exact HB.out)) hb); clear HO_419001; clear HO_419002; clear HO_427001; clear HO_427002; clear HO_436001; clear HO_436002; clear HO440; clear HO443; clear BK401; clear BK418; clear BK426; clear BK435; clear HB; have HO_419001 := n0_; have HO_419002 := n1_; have HO_427001 := n2_; have HO_427002 := n3_; have HO_436001 := n4_; have HO_436002 := n5_; have HO440 := n6_; have HO443 := n7_; have BK401 := n8_; have BK418 := n9_; have BK426 := n10_; have BK435 := n11_; have HB := n12_; clear n0_ n1_ n2_ n3_ n4_ n5_ n6_ n7_ n8_ n9_ n10_ n11_ n12_; (try clear hb); (try clear hb2); (try clear hk); (try clear hi)))
                  go_meet
                  case rel => exact ⟨_, ((t434 != t417)), (by first | rfl | (simp; done) | (simp [*]; done)), H', ⟨by have := HJ12.out; first | omega | exact Nat.le_refl _⟩, ⟨by (with_reducible repeat (first | apply Kd.R_alloc | apply Kd.R_drewN | apply Kd.R_drew)); exact Kd.R_mono HO_419001.out (fun _ hk => ⟨hk.1, hk.2.1⟩)⟩, ⟨by (with_reducible repeat (first | apply Kd.R_alloc | apply Kd.R_drewN | apply Kd.R_drew)); exact Kd.R_mono HO_419002.out (fun _ hk => ⟨hk.1, hk.2.1⟩)⟩, ⟨by (with_reducible repeat (first | apply Kd.R_alloc | apply Kd.R_drewN | apply Kd.R_drew)); exact Kd.R_mono HO_427001.out (fun _ hk => ⟨hk.1.1, hk.1.2⟩)⟩, ⟨by (with_reducible repeat (first | apply Kd.R_alloc | apply Kd.R_drewN | apply Kd.R_drew)); exact Kd.R_mono HO_427002.out (fun _ hk => ⟨hk.1.1, hk.1.2⟩)⟩, ⟨by (with_reducible repeat (first | apply Kd.R_alloc | apply Kd.R_drewN | apply Kd.R_drew)); exact Kd.R_mono HO_436001.out (fun _ hk => ⟨hk.1, hk.2.1⟩)⟩, ⟨by (with_reducible repeat (first | apply Kd.R_alloc | apply Kd.R_drewN | apply Kd.R_drew)); exact Kd.R_mono HO_436002.out (fun _ hk => ⟨hk.1, hk.2.1⟩)⟩, ⟨by (with_reducible repeat (first | refine blk_drewN ?_ _ | refine blk_drew ?_ | refine blk_alloc ?_ _)); exact BK401.out⟩, ⟨by (with_reducible repeat (first | refine blk_drewN ?_ _ | refine blk_drew ?_ | refine blk_alloc ?_ _)); exact BK418.out⟩, ⟨by (with_reducible repeat (first | refine blk_drewN ?_ _ | refine blk_drew ?_ | refine blk_alloc ?_ _)); exact BK426.out⟩, ⟨by (with_reducible repeat (first | refine blk_drewN ?_ _ | refine blk_drew ?_ | refine blk_alloc ?_ _)); exact BK435.out⟩, ⟨by repeat (first | (with_reducible first | exact HB.out | apply below_alloc | apply pw_below_drewN | apply below_drew1 | refine below_set ?_ GE401.out | refine below_set ?_ GE418.out | refine below_set ?_ GE426.out | refine below_set ?_ GE435.out) | exact HB.out)⟩⟩
                · replace c76 := Bool.eq_false_iff.mpr c76
                  subst c76
                  have H1 : (laws_FnExactUnpinLook.j1 kj12 a1 t417 true a0_0 l0_1 l0_2 t410 t411 t414 t427 t428 t431) = some r := by rw [if_neg (show ¬ (false = true) by decide)] at H; exact H
                  clear H
                  have H := H1
                  clear H1
                  have H' := Aside0.mk H
                  clear H
                  have hnb85 := NB435_401.out
                  have hnc85 := NB401_435.out
                  have hnb86 := NB435_418.out
                  have hnc86 := NB418_435.out
                  have hnb87 := NB435_426.out
                  have hnc87 := NB426_435.out
                  have hcz88_0 : w73.cell? ⟨gb435, 0, none⟩ = some (.int .i64 t427) := (blk_cell BK435.out 0).trans rfl
                  have hcz88_1 : w73.cell? ⟨gb435, 1, none⟩ = some (.slice Ao38 t428.length co38) := (blk_cell BK435.out 1).trans rfl
                  have hcz88_2 : w73.cell? ⟨gb435, 2, none⟩ = some (.slice Ao39 t431.length co39) := (blk_cell BK435.out 2).trans rfl
                  have hfz88_0 := blk_frozen BK435.out 0
                  have hfz88_1 := blk_frozen BK435.out 1
                  have hfz88_2 := blk_frozen BK435.out 2
                  have hnb89 := NB418_401.out
                  have hnc89 := NB401_418.out
                  have hnb90 := NB418_426.out
                  have hnc90 := NB426_418.out
                  have hcz91_0 : w73.cell? ⟨gb418, 0, none⟩ = some (.int .i64 t410) := (blk_cell BK418.out 0).trans rfl
                  have hcz91_1 : w73.cell? ⟨gb418, 1, none⟩ = some (.slice Ao22 t411.length co22) := (blk_cell BK418.out 1).trans rfl
                  have hcz91_2 : w73.cell? ⟨gb418, 2, none⟩ = some (.slice Ao23 t414.length co23) := (blk_cell BK418.out 2).trans rfl
                  have hfz91_0 := blk_frozen BK418.out 0
                  have hfz91_1 := blk_frozen BK418.out 1
                  have hfz91_2 := blk_frozen BK418.out 2
                  go_wp2_with (first | (go_at_call 15; (with_reducible refine (laws_eqEpochs.calls kj12 t427 _ _ t428 _ _ t431 t410 _ _ t411 _ _ t414 false _ ?side1 ?side2 ?side3 ?side4 ?side5 ?side6 ?side7 ?side8 A75.out).mono ?_); (case side1 => repeat (first | exact (Kd.R_reads' HO_436001.out).2.2 | (with_reducible refine Kd.C_alloc ?_ _) | (with_reducible refine Kd.C_drewN ?_ _) | (with_reducible refine Kd.C_drew ?_))); (case side2 => exact (Kd.R_reads' HO_436001.out).2.1); (case side3 => repeat (first | exact (Kd.R_reads' HO_436002.out).2.2 | (with_reducible refine Kd.C_alloc ?_ _) | (with_reducible refine Kd.C_drewN ?_ _) | (with_reducible refine Kd.C_drew ?_))); (case side4 => exact (Kd.R_reads' HO_436002.out).2.1); (case side5 => repeat (first | exact (Kd.R_reads' HO_419001.out).2.2 | (with_reducible refine Kd.C_alloc ?_ _) | (with_reducible refine Kd.C_drewN ?_ _) | (with_reducible refine Kd.C_drew ?_))); (case side6 => exact (Kd.R_reads' HO_419001.out).2.1); (case side7 => repeat (first | exact (Kd.R_reads' HO_419002.out).2.2 | (with_reducible refine Kd.C_alloc ?_ _) | (with_reducible refine Kd.C_drewN ?_ _) | (with_reducible refine Kd.C_drew ?_))); (case side8 => exact (Kd.R_reads' HO_419002.out).2.1); rintro e w92 ⟨rfl, hb⟩; have n0_ := Aside0.mk (Kd.R_below (by (with_reducible repeat (first | apply Kd.R_alloc | apply Kd.R_drewN | apply Kd.R_drew)); exact HO_419001.out) hb); have n1_ := Aside0.mk (Kd.R_below (by (with_reducible repeat (first | apply Kd.R_alloc | apply Kd.R_drewN | apply Kd.R_drew)); exact HO_419002.out) hb); have n2_ := Aside0.mk (Kd.R_below (by (with_reducible repeat (first | apply Kd.R_alloc | apply Kd.R_drewN | apply Kd.R_drew)); exact HO_427001.out) hb); have n3_ := Aside0.mk (Kd.R_below (by (with_reducible repeat (first | apply Kd.R_alloc | apply Kd.R_drewN | apply Kd.R_drew)); exact HO_427002.out) hb); have n4_ := Aside0.mk (Kd.R_below (by (with_reducible repeat (first | apply Kd.R_alloc | apply Kd.R_drewN | apply Kd.R_drew)); exact HO_436001.out) hb); have n5_ := Aside0.mk (Kd.R_below (by (with_reducible repeat (first | apply Kd.R_alloc | apply Kd.R_drewN | apply Kd.R_drew)); exact HO_436002.out) hb); have n6_ := Aside0.mk (Kd.R_below (by (with_reducible repeat (first | apply Kd.R_alloc | apply Kd.R_drewN | apply Kd.R_drew)); exact HO440.out) hb); have n7_ := Aside0.mk (Kd.R_below (by (with_reducible repeat (first | apply Kd.R_alloc | apply Kd.R_drewN | apply Kd.R_drew)); exact HO443.out) hb); have n8_ := Aside0.mk (blk_below (g := gb401) (o := .cells #[.int .i64 a0_0, .slice A0_1 l0_1.length c0_1, .slice A0_2 l0_2.length c0_2] 32 (0, 0)) (by (with_reducible repeat (first | refine blk_drewN ?_ _ | refine blk_drew ?_ | refine blk_alloc ?_ _)); exact BK401.out) hb); have n9_ := Aside0.mk (blk_below (g := gb418) (o := .cells #[.int .i64 t410, .slice Ao22 t411.length co22, .slice Ao23 t414.length co23] 25 (0, 0)) (by (with_reducible repeat (first | refine blk_drewN ?_ _ | refine blk_drew ?_ | refine blk_alloc ?_ _)); exact BK418.out) hb); have n10_ := Aside0.mk (blk_below (g := gb426) (o := .cells #[.int .i64 t419, .slice Ao30 t420.length co30, .slice Ao31 t423.length co31] 25 (0, 0)) (by (with_reducible repeat (first | refine blk_drewN ?_ _ | refine blk_drew ?_ | refine blk_alloc ?_ _)); exact BK426.out) hb); have n11_ := Aside0.mk (blk_below (g := gb435) (o := .cells #[.int .i64 t427, .slice Ao38 t428.length co38, .slice Ao39 t431.length co39] 25 (0, 0)) (by (with_reducible repeat (first | refine blk_drewN ?_ _ | refine blk_drew ?_ | refine blk_alloc ?_ _)); exact BK435.out) hb); have n12_ := Aside0.mk (below_step (by repeat (first | (with_reducible first | exact HB.out | apply below_alloc | apply pw_below_drewN | apply below_drew1 | refine below_set ?_ GE401.out | refine below_set ?_ GE418.out | refine below_set ?_ GE426.out | refine below_set ?_ GE435.out) | exact HB.out)) hb); clear HO_419001; clear HO_419002; clear HO_427001; clear HO_427002; clear HO_436001; clear HO_436002; clear HO440; clear HO443; clear BK401; clear BK418; clear BK426; clear BK435; clear HB; have HO_419001 := n0_; have HO_419002 := n1_; have HO_427001 := n2_; have HO_427002 := n3_; have HO_436001 := n4_; have HO_436002 := n5_; have HO440 := n6_; have HO443 := n7_; have BK401 := n8_; have BK418 := n9_; have BK426 := n10_; have BK435 := n11_; have HB := n12_; clear n0_ n1_ n2_ n3_ n4_ n5_ n6_ n7_ n8_ n9_ n10_ n11_ n12_; (try clear hb); (try clear hb2); (try clear hk); (try clear hi)))
                  go_meet
                  case rel => exact ⟨_, (true), (by first | rfl | (simp; done) | (simp [*]; done)), H', ⟨by have := HJ12.out; first | omega | exact Nat.le_refl _⟩, ⟨by (with_reducible repeat (first | apply Kd.R_alloc | apply Kd.R_drewN | apply Kd.R_drew)); exact Kd.R_mono HO_419001.out (fun _ hk => ⟨hk.1, hk.2.1⟩)⟩, ⟨by (with_reducible repeat (first | apply Kd.R_alloc | apply Kd.R_drewN | apply Kd.R_drew)); exact Kd.R_mono HO_419002.out (fun _ hk => ⟨hk.1, hk.2.1⟩)⟩, ⟨by (with_reducible repeat (first | apply Kd.R_alloc | apply Kd.R_drewN | apply Kd.R_drew)); exact Kd.R_mono HO_427001.out (fun _ hk => ⟨hk.1.1, hk.1.2⟩)⟩, ⟨by (with_reducible repeat (first | apply Kd.R_alloc | apply Kd.R_drewN | apply Kd.R_drew)); exact Kd.R_mono HO_427002.out (fun _ hk => ⟨hk.1.1, hk.1.2⟩)⟩, ⟨by (with_reducible repeat (first | apply Kd.R_alloc | apply Kd.R_drewN | apply Kd.R_drew)); exact Kd.R_mono HO_436001.out (fun _ hk => ⟨hk.1, hk.2.1⟩)⟩, ⟨by (with_reducible repeat (first | apply Kd.R_alloc | apply Kd.R_drewN | apply Kd.R_drew)); exact Kd.R_mono HO_436002.out (fun _ hk => ⟨hk.1, hk.2.1⟩)⟩, ⟨by (with_reducible repeat (first | refine blk_drewN ?_ _ | refine blk_drew ?_ | refine blk_alloc ?_ _)); exact BK401.out⟩, ⟨by (with_reducible repeat (first | refine blk_drewN ?_ _ | refine blk_drew ?_ | refine blk_alloc ?_ _)); exact BK418.out⟩, ⟨by (with_reducible repeat (first | refine blk_drewN ?_ _ | refine blk_drew ?_ | refine blk_alloc ?_ _)); exact BK426.out⟩, ⟨by (with_reducible repeat (first | refine blk_drewN ?_ _ | refine blk_drew ?_ | refine blk_alloc ?_ _)); exact BK435.out⟩, ⟨by repeat (first | (with_reducible first | exact HB.out | apply below_alloc | apply pw_below_drewN | apply below_drew1 | refine below_set ?_ GE401.out | refine below_set ?_ GE418.out | refine below_set ?_ GE426.out | refine below_set ?_ GE435.out) | exact HB.out)⟩⟩
            case rest =>
              clear HC63
              try clear c1
              try clear c2
              try clear p2
              try clear c3
              try clear c4
              try clear c5
              try clear c6
              try clear c7
              try clear c8
              try clear c8b0
              try clear c9
              try clear c15
              try clear c16
              try clear c18
              try clear c20
              try clear c24
              try clear c25
              try clear c27
              try clear c28
              try clear c34
              try clear c35
              try clear c36
              try clear c41
              try clear c42
              try clear c43
              try clear c44
              try clear c46
              try clear c47
              try clear c50
              try clear c51
              try clear c52
              try clear c54
              try clear c55
              try clear c58
              try clear c61
              try clear c69
              try clear c70
              try clear c71
              try clear c74
              try clear c74b0
              try clear c76
              try clear c77
              try clear c78
              try clear c79
              try clear c81
              try clear c82
              try clear c85
              try clear c86
              try clear c87
              try clear c89
              try clear c90
              try clear hcz14_0
              try clear hcz14_1
              try clear hcz14_2
              try clear hcz21_0
              try clear hcz21_1
              try clear hcz21_2
              try clear hcz24_0
              try clear hcz24_1
              try clear hcz24_2
              try clear hcz29_0
              try clear hcz29_1
              try clear hcz29_2
              try clear hcz37_0
              try clear hcz37_1
              try clear hcz37_2
              try clear hcz45_0
              try clear hcz45_1
              try clear hcz45_2
              try clear hcz48_0
              try clear hcz48_1
              try clear hcz48_2
              try clear hcz53_0
              try clear hcz53_1
              try clear hcz53_2
              try clear hcz56_0
              try clear hcz56_1
              try clear hcz56_2
              try clear hcz6_0
              try clear hcz6_1
              try clear hcz6_2
              try clear hcz72_0
              try clear hcz72_1
              try clear hcz72_2
              try clear hcz80_0
              try clear hcz80_1
              try clear hcz80_2
              try clear hcz83_0
              try clear hcz83_1
              try clear hcz83_2
              try clear hcz88_0
              try clear hcz88_1
              try clear hcz88_2
              try clear hcz91_0
              try clear hcz91_1
              try clear hcz91_2
              try clear hfz14_0
              try clear hfz14_1
              try clear hfz14_2
              try clear hfz21_0
              try clear hfz21_1
              try clear hfz21_2
              try clear hfz24_0
              try clear hfz24_1
              try clear hfz24_2
              try clear hfz29_0
              try clear hfz29_1
              try clear hfz29_2
              try clear hfz37_0
              try clear hfz37_1
              try clear hfz37_2
              try clear hfz45_0
              try clear hfz45_1
              try clear hfz45_2
              try clear hfz48_0
              try clear hfz48_1
              try clear hfz48_2
              try clear hfz53_0
              try clear hfz53_1
              try clear hfz53_2
              try clear hfz56_0
              try clear hfz56_1
              try clear hfz56_2
              try clear hfz6_0
              try clear hfz6_1
              try clear hfz6_2
              try clear hfz72_0
              try clear hfz72_1
              try clear hfz72_2
              try clear hfz80_0
              try clear hfz80_1
              try clear hfz80_2
              try clear hfz83_0
              try clear hfz83_1
              try clear hfz83_2
              try clear hfz88_0
              try clear hfz88_1
              try clear hfz88_2
              try clear hfz91_0
              try clear hfz91_1
              try clear hfz91_2
              try clear p2
              obtain ⟨kq, x65_62, rfl, HA, HJ62, HO_419001, HO_419002, HO_427001, HO_427002, HO_436001, HO_436002, BK401, BK418, BK426, BK435, HB⟩ := hcut
              have hl427001_62 := (Kd.R_reads' HO_427001.out).1
              rw [hl427001_62] at HO_427001
              (try simp only [hl427001_62])
              (try simp only [hl427001_62] at BK401)
              (try simp only [hl427001_62] at BK418)
              (try simp only [hl427001_62] at BK426)
              (try simp only [hl427001_62] at BK435)
              (try simp only [hl427001_62] at HO_419001)
              (try simp only [hl427001_62] at HO_419002)
              (try simp only [hl427001_62] at HO_427002)
              (try simp only [hl427001_62] at HO_436001)
              (try simp only [hl427001_62] at HO_436002)
              have hl427002_62 := (Kd.R_reads' HO_427002.out).1
              rw [hl427002_62] at HO_427002
              (try simp only [hl427002_62])
              (try simp only [hl427002_62] at BK401)
              (try simp only [hl427002_62] at BK418)
              (try simp only [hl427002_62] at BK426)
              (try simp only [hl427002_62] at BK435)
              (try simp only [hl427002_62] at HO_419001)
              (try simp only [hl427002_62] at HO_419002)
              (try simp only [hl427002_62] at HO_427001)
              (try simp only [hl427002_62] at HO_436001)
              (try simp only [hl427002_62] at HO_436002)
              cases kq with
              | zero => exact absurd HA.out (by simp [laws_FnExactUnpinLook.j1])
              | succ kj62 =>
                have H := HA.out
                clear HA
                simp only [laws_FnExactUnpinLook.j1] at H
                by_cases c93 : x65_62 = true
                · subst c93
                  have H1 : (none) = some r := by rw [if_pos rfl] at H; exact H
                  clear H
                  have H := H1
                  clear H1
                  exact absurd H (by simp)
                · replace c93 := Bool.eq_false_iff.mpr c93
                  subst c93
                  have H1 : ((laws_markEpochs.f kj62 t427 t428 t431 1).bind fun bt449 => ((laws_heldEpochs.f kj62 t427 bt449.2.1 bt449.2.2 1).bind fun t452 => (if t452 < 0 then (none) else (if t452 = bt449.1 then ((laws_toEpochs.f kj62 a0_0 l0_1 l0_2).bind fun bt453 => ((impl_UnpinLook.f kj62 bt453.1 bt453.2.1 bt453.2.2 a1).bind fun bt460 => ((laws_eqEpochs.f kj62 bt460.1 bt460.2.1 bt460.2.2.1 t410 t411 t414).bind fun t469 => (if t469 = true then (laws_FnExactUnpinLook.j2 kj62 bt449.1 (bt460.2.2.2 != t417) t427 bt449.2.1 bt449.2.2) else (laws_FnExactUnpinLook.j2 kj62 bt449.1 true t427 bt449.2.1 bt449.2.2))))) else (none))))) = some r := by rw [if_neg (show ¬ (false = true) by decide)] at H; exact H
                  clear H
                  have H := H1
                  clear H1
                  replace H := Option.bind_eq_some_iff.mp H
                  obtain ⟨⟨t449, t450, t451⟩, A940, H⟩ := H
                  replace H : ((laws_heldEpochs.f kj62 t427 t450 t451 1).bind fun t452 => (if t452 < 0 then (none) else (if t452 = t449 then ((laws_toEpochs.f kj62 a0_0 l0_1 l0_2).bind fun bt453 => ((impl_UnpinLook.f kj62 bt453.1 bt453.2.1 bt453.2.2 a1).bind fun bt460 => ((laws_eqEpochs.f kj62 bt460.1 bt460.2.1 bt460.2.2.1 t410 t411 t414).bind fun t469 => (if t469 = true then (laws_FnExactUnpinLook.j2 kj62 t449 (bt460.2.2.2 != t417) t427 t450 t451) else (laws_FnExactUnpinLook.j2 kj62 t449 true t427 t450 t451))))) else (none)))) = some r := H
                  have A94 := Aside0.mk A940
                  clear A940
                  replace H := Option.bind_eq_some_iff.mp H
                  obtain ⟨t452, A950, H⟩ := H
                  replace H : (if t452 < 0 then (none) else (if t452 = t449 then ((laws_toEpochs.f kj62 a0_0 l0_1 l0_2).bind fun bt453 => ((impl_UnpinLook.f kj62 bt453.1 bt453.2.1 bt453.2.2 a1).bind fun bt460 => ((laws_eqEpochs.f kj62 bt460.1 bt460.2.1 bt460.2.2.1 t410 t411 t414).bind fun t469 => (if t469 = true then (laws_FnExactUnpinLook.j2 kj62 t449 (bt460.2.2.2 != t417) t427 t450 t451) else (laws_FnExactUnpinLook.j2 kj62 t449 true t427 t450 t451))))) else (none))) = some r := H
                  have A95 := Aside0.mk A950
                  clear A950
                  by_cases c96 : t452 < 0
                  · rw [if_pos c96] at H
                    exact absurd H (by simp)
                  · rw [if_neg c96] at H
                    have c96b0 : decide (t452 < 0) = false := decide_eq_false c96
                    clear c96
                    by_cases c97 : t452 = t449
                    · rw [if_pos c97] at H
                      have c97b0 : (t452 == t449) = true := beq_iff_eq.mpr c97
                      have c97b1 : (t452 != t449) = false := bne_eq_false_iff_eq.mpr c97
                      clear c97
                      replace H := Option.bind_eq_some_iff.mp H
                      obtain ⟨⟨t453, t454, t457⟩, A980, H⟩ := H
                      replace H : ((impl_UnpinLook.f kj62 t453 t454 t457 a1).bind fun bt460 => ((laws_eqEpochs.f kj62 bt460.1 bt460.2.1 bt460.2.2.1 t410 t411 t414).bind fun t469 => (if t469 = true then (laws_FnExactUnpinLook.j2 kj62 t449 (bt460.2.2.2 != t417) t427 t450 t451) else (laws_FnExactUnpinLook.j2 kj62 t449 true t427 t450 t451)))) = some r := H
                      have A98 := Aside0.mk A980
                      clear A980
                      replace H := Option.bind_eq_some_iff.mp H
                      obtain ⟨⟨t460, t461, t464, t467⟩, A990, H⟩ := H
                      replace H : ((laws_eqEpochs.f kj62 t460 t461 t464 t410 t411 t414).bind fun t469 => (if t469 = true then (laws_FnExactUnpinLook.j2 kj62 t449 (t467 != t417) t427 t450 t451) else (laws_FnExactUnpinLook.j2 kj62 t449 true t427 t450 t451))) = some r := H
                      have A99 := Aside0.mk A990
                      clear A990
                      have HC100 := Aside0.mk H
                      clear H
                      have hnb101 := NB435_401.out
                      have hnc101 := NB401_435.out
                      have hnb102 := NB435_418.out
                      have hnc102 := NB418_435.out
                      have hnb103 := NB435_426.out
                      have hnc103 := NB426_435.out
                      have hcz104_0 : wc.cell? ⟨gb435, 0, none⟩ = some (.int .i64 t427) := (blk_cell BK435.out 0).trans rfl
                      have hcz104_1 : wc.cell? ⟨gb435, 1, none⟩ = some (.slice Ao38 t428.length co38) := (blk_cell BK435.out 1).trans rfl
                      have hcz104_2 : wc.cell? ⟨gb435, 2, none⟩ = some (.slice Ao39 t431.length co39) := (blk_cell BK435.out 2).trans rfl
                      have hfz104_0 := blk_frozen BK435.out 0
                      have hfz104_1 := blk_frozen BK435.out 1
                      have hfz104_2 := blk_frozen BK435.out 2
                      go_upto_region 25 with (first | ((with_reducible refine gate_callee (f := 16) rfl ?_); refine goesL_ (some 68) rfl rfl Try.func16 (by kernel_rfl) rfl #[.agg #[.int .i64 t427, .slice Ao38 t428.length co38, .slice Ao39 t431.length co39], .int .i64 1] rfl (by (try simp only [List.map_toArray, List.map_cons, List.map_nil]); first | done | rfl | (simp only [List.length_drop, List.length_take]; rfl)) ?_; (with_reducible refine (laws_markEpochs.calls kj62 t427 (fun k_ => some k_ = (.slice Ao38 t428.length co38 : Value).ownBlock) (.slice Ao38 t428.length co38) t428 (fun k_ => some k_ = (.slice Ao39 t431.length co39 : Value).ownBlock) (.slice Ao39 t431.length co39) t431 1 t449 t450 t451 w _ ?side1 ?side2 ?side3 A94.out).mono ?_); (case side1 => repeat (first | (with_reducible first | exact HB.out | apply below_alloc | apply pw_below_drewN | apply below_drew1 | refine below_set ?_ GE401.out | refine below_set ?_ GE418.out | refine below_set ?_ GE426.out | refine below_set ?_ GE435.out) | exact HB.out)); (case side2 => exact Kd.R_tight rfl HO_436001.out); (case side3 => exact Kd.R_tight rfl HO_436002.out); rintro e w105 ⟨rfl, hy0, hy1, hb, hkp⟩; refine ⟨_, rfl, ?_⟩; have n0_ := Aside0.mk (Kd.R_mono (ok' := fun k_ => some k_ ≠ (.slice Ao30 t446.length co30 : Value).ownBlock ∧ some k_ ≠ (.slice Ao38 t428.length co38 : Value).ownBlock) (Kd.R_keptB ((Kd.R_apart' HO_419001.out (Kd.R_typed HO_436002.out) (by decide))) hkp (fun k_ hk_ hs_ => Or.elim hs_ (fun e_ => (hk_.1.2) e_) (fun e_ => (hk_.2) e_))) (fun k_ hk_ => ⟨hk_.1.1.1, hk_.1.1.2⟩)); have n1_ := Aside0.mk (Kd.R_mono (ok' := fun k_ => some k_ ≠ (.slice Ao31 t447.length co31 : Value).ownBlock ∧ some k_ ≠ (.slice Ao39 t431.length co39 : Value).ownBlock) (Kd.R_keptB ((Kd.R_apart' HO_419002.out (Kd.R_typed HO_436001.out) (by decide))) hkp (fun k_ hk_ hs_ => Or.elim hs_ (fun e_ => (hk_.2) e_) (fun e_ => (hk_.1.2) e_))) (fun k_ hk_ => ⟨hk_.1.1.1, hk_.1.1.2⟩)); have n2_ := Aside0.mk (Kd.R_mono (ok' := fun k_ => some k_ ≠ (.slice Ao22 t411.length co22 : Value).ownBlock ∧ some k_ ≠ (.slice Ao38 t428.length co38 : Value).ownBlock) (Kd.R_keptB ((Kd.R_apart' HO_427001.out (Kd.R_typed HO_436002.out) (by decide))) hkp (fun k_ hk_ hs_ => Or.elim hs_ (fun e_ => (hk_.1.2) e_) (fun e_ => (hk_.2) e_))) (fun k_ hk_ => ⟨hk_.1.1.1, hk_.1.1.2⟩)); have n3_ := Aside0.mk (Kd.R_mono (ok' := fun k_ => some k_ ≠ (.slice Ao23 t414.length co23 : Value).ownBlock ∧ some k_ ≠ (.slice Ao39 t431.length co39 : Value).ownBlock) (Kd.R_keptB ((Kd.R_apart' HO_427002.out (Kd.R_typed HO_436001.out) (by decide))) hkp (fun k_ hk_ hs_ => Or.elim hs_ (fun e_ => (hk_.2) e_) (fun e_ => (hk_.1.2) e_))) (fun k_ hk_ => ⟨hk_.1.1.1, hk_.1.1.2⟩)); have n4_ := Aside0.mk (Kd.R_reok rfl hy0 (fun k_ e_ => HO_436001.out.1 k_ e_)); have n5_ := Aside0.mk (Kd.R_reok rfl hy1 (fun k_ e_ => HO_436002.out.1 k_ e_)); have n6_ := Aside0.mk (blk_kept (by (with_reducible repeat (first | refine blk_drewN ?_ _ | refine blk_drew ?_ | refine blk_alloc ?_ _)); exact BK401.out) hkp (fun hs_ => Or.elim hs_ (fun e_ => (fun e_ => (Kd.R_ne HO_436001.out BK401.out (by decide)) e_) e_) (fun e_ => (fun e_ => (Kd.R_ne HO_436002.out BK401.out (by decide)) e_) e_))); have n7_ := Aside0.mk (blk_kept (by (with_reducible repeat (first | refine blk_drewN ?_ _ | refine blk_drew ?_ | refine blk_alloc ?_ _)); exact BK418.out) hkp (fun hs_ => Or.elim hs_ (fun e_ => (fun e_ => (Kd.R_ne HO_436001.out BK418.out (by decide)) e_) e_) (fun e_ => (fun e_ => (Kd.R_ne HO_436002.out BK418.out (by decide)) e_) e_))); have n8_ := Aside0.mk (blk_kept (by (with_reducible repeat (first | refine blk_drewN ?_ _ | refine blk_drew ?_ | refine blk_alloc ?_ _)); exact BK426.out) hkp (fun hs_ => Or.elim hs_ (fun e_ => (fun e_ => (Kd.R_ne HO_436001.out BK426.out (by decide)) e_) e_) (fun e_ => (fun e_ => (Kd.R_ne HO_436002.out BK426.out (by decide)) e_) e_))); have n9_ := Aside0.mk (blk_kept (by (with_reducible repeat (first | refine blk_drewN ?_ _ | refine blk_drew ?_ | refine blk_alloc ?_ _)); exact BK435.out) hkp (fun hs_ => Or.elim hs_ (fun e_ => (fun e_ => (Kd.R_ne HO_436001.out BK435.out (by decide)) e_) e_) (fun e_ => (fun e_ => (Kd.R_ne HO_436002.out BK435.out (by decide)) e_) e_))); have n10_ := Aside0.mk (hb); clear HO_419001; clear HO_419002; clear HO_427001; clear HO_427002; clear HO_436001; clear HO_436002; clear BK401; clear BK418; clear BK426; clear BK435; clear HB; have HO_419001 := n0_; have HO_419002 := n1_; have HO_427001 := n2_; have HO_427002 := n3_; have HO_436001 := n4_; have HO_436002 := n5_; have BK401 := n6_; have BK418 := n7_; have BK426 := n8_; have BK435 := n9_; have HB := n10_; clear n0_ n1_ n2_ n3_ n4_ n5_ n6_ n7_ n8_ n9_ n10_; (try clear hb); (try clear hkp); (try clear hy0); (try clear hy1); have hcz106_0 : w105.cell? ⟨gb435, 0, none⟩ = some (.int .i64 t427) := (blk_cell BK435.out 0).trans rfl; have hcz106_1 : w105.cell? ⟨gb435, 1, none⟩ = some (.slice Ao38 t428.length co38) := (blk_cell BK435.out 1).trans rfl; have hcz106_2 : w105.cell? ⟨gb435, 2, none⟩ = some (.slice Ao39 t431.length co39) := (blk_cell BK435.out 2).trans rfl; have hfz106_0 := blk_frozen BK435.out 0; have hfz106_1 := blk_frozen BK435.out 1; have hfz106_2 := blk_frozen BK435.out 2) | ((with_reducible refine gate_callee (f := 17) rfl ?_); refine goesL_ (some 71) rfl rfl Try.func17 (by kernel_rfl) rfl #[.agg #[.int .i64 t427, .slice Ao38 t450.length co38, .slice Ao39 t451.length co39], .int .i64 1] rfl (by (try simp only [List.map_toArray, List.map_cons, List.map_nil]); first | done | (rw [show t450.length = t428.length from (Kd.R_reads' HO_436001.out).1.symm, show t451.length = t431.length from (Kd.R_reads' HO_436002.out).1.symm] <;> rfl) | rfl | (simp only [List.length_drop, List.length_take]; rfl)) ?_; (with_reducible refine (laws_heldEpochs.calls kj62 t427 _ _ t450 _ _ t451 1 t452 _ ?side1 ?side2 ?side3 ?side4 A95.out).mono ?_); (case side1 => repeat (first | exact (Kd.R_reads' HO_436001.out).2.2 | (with_reducible refine Kd.C_alloc ?_ _) | (with_reducible refine Kd.C_drewN ?_ _) | (with_reducible refine Kd.C_drew ?_))); (case side2 => rw [show t450.length = t428.length from (Kd.R_reads' HO_436001.out).1.symm]; exact (Kd.R_reads' HO_436001.out).2.1); (case side3 => repeat (first | exact (Kd.R_reads' HO_436002.out).2.2 | (with_reducible refine Kd.C_alloc ?_ _) | (with_reducible refine Kd.C_drewN ?_ _) | (with_reducible refine Kd.C_drew ?_))); (case side4 => rw [show t451.length = t431.length from (Kd.R_reads' HO_436002.out).1.symm]; exact (Kd.R_reads' HO_436002.out).2.1); rintro e w107 ⟨rfl, hb⟩; refine ⟨_, rfl, ?_⟩; have n0_ := Aside0.mk (Kd.R_below (by (with_reducible repeat (first | apply Kd.R_alloc | apply Kd.R_drewN | apply Kd.R_drew)); exact HO_419001.out) hb); have n1_ := Aside0.mk (Kd.R_below (by (with_reducible repeat (first | apply Kd.R_alloc | apply Kd.R_drewN | apply Kd.R_drew)); exact HO_419002.out) hb); have n2_ := Aside0.mk (Kd.R_below (by (with_reducible repeat (first | apply Kd.R_alloc | apply Kd.R_drewN | apply Kd.R_drew)); exact HO_427001.out) hb); have n3_ := Aside0.mk (Kd.R_below (by (with_reducible repeat (first | apply Kd.R_alloc | apply Kd.R_drewN | apply Kd.R_drew)); exact HO_427002.out) hb); have n4_ := Aside0.mk (Kd.R_below (by (with_reducible repeat (first | apply Kd.R_alloc | apply Kd.R_drewN | apply Kd.R_drew)); exact HO_436001.out) hb); have n5_ := Aside0.mk (Kd.R_below (by (with_reducible repeat (first | apply Kd.R_alloc | apply Kd.R_drewN | apply Kd.R_drew)); exact HO_436002.out) hb); have n6_ := Aside0.mk (blk_below (g := gb401) (o := .cells #[.int .i64 a0_0, .slice A0_1 l0_1.length c0_1, .slice A0_2 l0_2.length c0_2] 32 (0, 0)) (by (with_reducible repeat (first | refine blk_drewN ?_ _ | refine blk_drew ?_ | refine blk_alloc ?_ _)); exact BK401.out) hb); have n7_ := Aside0.mk (blk_below (g := gb418) (o := .cells #[.int .i64 t410, .slice Ao22 t411.length co22, .slice Ao23 t414.length co23] 25 (0, 0)) (by (with_reducible repeat (first | refine blk_drewN ?_ _ | refine blk_drew ?_ | refine blk_alloc ?_ _)); exact BK418.out) hb); have n8_ := Aside0.mk (blk_below (g := gb426) (o := .cells #[.int .i64 t419, .slice Ao30 t446.length co30, .slice Ao31 t447.length co31] 25 (0, 0)) (by (with_reducible repeat (first | refine blk_drewN ?_ _ | refine blk_drew ?_ | refine blk_alloc ?_ _)); exact BK426.out) hb); have n9_ := Aside0.mk (blk_below (g := gb435) (o := .cells #[.int .i64 t427, .slice Ao38 t428.length co38, .slice Ao39 t431.length co39] 25 (0, 0)) (by (with_reducible repeat (first | refine blk_drewN ?_ _ | refine blk_drew ?_ | refine blk_alloc ?_ _)); exact BK435.out) hb); have n10_ := Aside0.mk (below_step (by repeat (first | (with_reducible first | exact HB.out | apply below_alloc | apply pw_below_drewN | apply below_drew1 | refine below_set ?_ GE401.out | refine below_set ?_ GE418.out | refine below_set ?_ GE426.out | refine below_set ?_ GE435.out) | exact HB.out)) hb); clear HO_419001; clear HO_419002; clear HO_427001; clear HO_427002; clear HO_436001; clear HO_436002; clear BK401; clear BK418; clear BK426; clear BK435; clear HB; have HO_419001 := n0_; have HO_419002 := n1_; have HO_427001 := n2_; have HO_427002 := n3_; have HO_436001 := n4_; have HO_436002 := n5_; have BK401 := n6_; have BK418 := n7_; have BK426 := n8_; have BK435 := n9_; have HB := n10_; clear n0_ n1_ n2_ n3_ n4_ n5_ n6_ n7_ n8_ n9_ n10_; (try clear hb); (try clear hb2); (try clear hk); (try clear hi); have hnb108 := NB401_418.out; have hnc108 := NB418_401.out; have hnb109 := NB401_426.out; have hnc109 := NB426_401.out; have hcz110_0 : w107.cell? ⟨gb401, 0, none⟩ = some (.int .i64 a0_0) := (blk_cell BK401.out 0).trans rfl; have hcz110_1 : w107.cell? ⟨gb401, 1, none⟩ = some (.slice A0_1 l0_1.length c0_1) := (blk_cell BK401.out 1).trans rfl; have hcz110_2 : w107.cell? ⟨gb401, 2, none⟩ = some (.slice A0_2 l0_2.length c0_2) := (blk_cell BK401.out 2).trans rfl; have hfz110_0 := blk_frozen BK401.out 0; have hfz110_1 := blk_frozen BK401.out 1; have hfz110_2 := blk_frozen BK401.out 2) | ((with_reducible refine gate_callee (f := 20) rfl ?_); refine goesL_ (some 79) rfl rfl Try.func20 (by kernel_rfl) rfl #[.agg #[.int .i64 a0_0, .slice A0_1 l0_1.length c0_1, .slice A0_2 l0_2.length c0_2]] rfl (by (try simp only [List.map_toArray, List.map_cons, List.map_nil]); first | done | rfl | (simp only [List.length_drop, List.length_take]; rfl)) ?_; (with_reducible refine (laws_toEpochs.calls kj62 a0_0 _ _ l0_1 _ _ l0_2 t453 t454 t457 _ ?side1 ?side2 ?side3 ?side4 A98.out).mono ?_); (case side1 => repeat (first | exact (Kd.C_below HR0_1.out HB.out) | (with_reducible refine Kd.C_alloc ?_ _) | (with_reducible refine Kd.C_drewN ?_ _) | (with_reducible refine Kd.C_drew ?_))); (case side2 => exact HC0_1.out); (case side3 => repeat (first | exact (Kd.C_below HR0_2.out HB.out) | (with_reducible refine Kd.C_alloc ?_ _) | (with_reducible refine Kd.C_drewN ?_ _) | (with_reducible refine Kd.C_drew ?_))); (case side4 => exact HC0_2.out); rintro e w111 ⟨v455, v458, rfl, ho0, ho1, hb⟩; refine ⟨_, rfl, ?_⟩; have n0_ := Aside0.mk (Kd.R_elder' (by (with_reducible repeat (first | apply Kd.R_alloc | apply Kd.R_drewN | apply Kd.R_drew)); exact HO_419001.out) (Kd.R_base ho0) hb); have n1_ := Aside0.mk (Kd.R_elder' (by (with_reducible repeat (first | apply Kd.R_alloc | apply Kd.R_drewN | apply Kd.R_drew)); exact HO_419002.out) (Kd.R_base ho1) hb); have n2_ := Aside0.mk (Kd.R_elder' (by (with_reducible repeat (first | apply Kd.R_alloc | apply Kd.R_drewN | apply Kd.R_drew)); exact HO_427001.out) (Kd.R_base ho0) hb); have n3_ := Aside0.mk (Kd.R_elder' (by (with_reducible repeat (first | apply Kd.R_alloc | apply Kd.R_drewN | apply Kd.R_drew)); exact HO_427002.out) (Kd.R_base ho1) hb); have n4_ := Aside0.mk (Kd.R_elder' (by (with_reducible repeat (first | apply Kd.R_alloc | apply Kd.R_drewN | apply Kd.R_drew)); exact HO_436001.out) (Kd.R_base ho0) hb); have n5_ := Aside0.mk (Kd.R_elder' (by (with_reducible repeat (first | apply Kd.R_alloc | apply Kd.R_drewN | apply Kd.R_drew)); exact HO_436002.out) (Kd.R_base ho1) hb); have n6_ := Aside0.mk (Kd.R_lower (Kd.R_new' (Kd.R_new' (Kd.R_new' ho0 (Kd.R_lt (by (with_reducible repeat (first | apply Kd.R_alloc | apply Kd.R_drewN | apply Kd.R_drew)); exact HO_419001.out))) (Kd.R_lt (by (with_reducible repeat (first | apply Kd.R_alloc | apply Kd.R_drewN | apply Kd.R_drew)); exact HO_427001.out))) (Kd.R_lt (by (with_reducible repeat (first | apply Kd.R_alloc | apply Kd.R_drewN | apply Kd.R_drew)); exact HO_436001.out))) (below_size (by repeat (first | (with_reducible first | exact HB.out | apply below_alloc | apply pw_below_drewN | apply below_drew1 | refine below_set ?_ GE401.out | refine below_set ?_ GE418.out | refine below_set ?_ GE426.out | refine below_set ?_ GE435.out) | exact HB.out)))); have n7_ := Aside0.mk (Kd.R_lower (Kd.R_new' (Kd.R_new' (Kd.R_new' ho1 (Kd.R_lt (by (with_reducible repeat (first | apply Kd.R_alloc | apply Kd.R_drewN | apply Kd.R_drew)); exact HO_419002.out))) (Kd.R_lt (by (with_reducible repeat (first | apply Kd.R_alloc | apply Kd.R_drewN | apply Kd.R_drew)); exact HO_427002.out))) (Kd.R_lt (by (with_reducible repeat (first | apply Kd.R_alloc | apply Kd.R_drewN | apply Kd.R_drew)); exact HO_436002.out))) (below_size (by repeat (first | (with_reducible first | exact HB.out | apply below_alloc | apply pw_below_drewN | apply below_drew1 | refine below_set ?_ GE401.out | refine below_set ?_ GE418.out | refine below_set ?_ GE426.out | refine below_set ?_ GE435.out) | exact HB.out)))); have n8_ := Aside0.mk (blk_below (g := gb401) (o := .cells #[.int .i64 a0_0, .slice A0_1 l0_1.length c0_1, .slice A0_2 l0_2.length c0_2] 32 (0, 0)) (by (with_reducible repeat (first | refine blk_drewN ?_ _ | refine blk_drew ?_ | refine blk_alloc ?_ _)); exact BK401.out) hb); have n9_ := Aside0.mk (blk_below (g := gb418) (o := .cells #[.int .i64 t410, .slice Ao22 t411.length co22, .slice Ao23 t414.length co23] 25 (0, 0)) (by (with_reducible repeat (first | refine blk_drewN ?_ _ | refine blk_drew ?_ | refine blk_alloc ?_ _)); exact BK418.out) hb); have n10_ := Aside0.mk (blk_below (g := gb426) (o := .cells #[.int .i64 t419, .slice Ao30 t446.length co30, .slice Ao31 t447.length co31] 25 (0, 0)) (by (with_reducible repeat (first | refine blk_drewN ?_ _ | refine blk_drew ?_ | refine blk_alloc ?_ _)); exact BK426.out) hb); have n11_ := Aside0.mk (blk_below (g := gb435) (o := .cells #[.int .i64 t427, .slice Ao38 t428.length co38, .slice Ao39 t431.length co39] 25 (0, 0)) (by (with_reducible repeat (first | refine blk_drewN ?_ _ | refine blk_drew ?_ | refine blk_alloc ?_ _)); exact BK435.out) hb); have n12_ := Aside0.mk (below_step (by repeat (first | (with_reducible first | exact HB.out | apply below_alloc | apply pw_below_drewN | apply below_drew1 | refine below_set ?_ GE401.out | refine below_set ?_ GE418.out | refine below_set ?_ GE426.out | refine below_set ?_ GE435.out) | exact HB.out)) hb); clear HO_419001; clear HO_419002; clear HO_427001; clear HO_427002; clear HO_436001; clear HO_436002; clear BK401; clear BK418; clear BK426; clear BK435; clear HB; have HO_419001 := n0_; have HO_419002 := n1_; have HO_427001 := n2_; have HO_427002 := n3_; have HO_436001 := n4_; have HO_436002 := n5_; have HO456 := n6_; have HO459 := n7_; have BK401 := n8_; have BK418 := n9_; have BK426 := n10_; have BK435 := n11_; have HB := n12_; clear n0_ n1_ n2_ n3_ n4_ n5_ n6_ n7_ n8_ n9_ n10_ n11_ n12_; (try clear hb); (try clear hb2); (try clear hk); (try clear hi); (try clear ho0); (try clear ho1); obtain ⟨Ao112, co112, eo112⟩ := Kd.R_slice HO456.out; subst eo112; obtain ⟨Ao113, co113, eo113⟩ := Kd.R_slice HO459.out; subst eo113) | ((with_reducible refine gate_callee (f := 25) rfl ?_); refine goesL_ (some 81) rfl rfl Try.func25 (by kernel_rfl) rfl #[.agg #[.int .i64 t453, .slice Ao112 t454.length co112, .slice Ao113 t457.length co113], .int .i64 a1] rfl (by (try simp only [List.map_toArray, List.map_cons, List.map_nil]); first | done | rfl | (simp only [List.length_drop, List.length_take]; rfl)) ?_; (with_reducible refine (impl_UnpinLook.calls kj62 t453 _ _ t454 _ _ t457 a1 t460 t461 t464 t467 _ ?side1 ?side2 ?side3 ?side4 A99.out).mono ?_); (case side1 => repeat (first | exact (Kd.R_reads' HO456.out).2.2 | (with_reducible refine Kd.C_alloc ?_ _) | (with_reducible refine Kd.C_drewN ?_ _) | (with_reducible refine Kd.C_drew ?_))); (case side2 => exact (Kd.R_reads' HO456.out).2.1); (case side3 => repeat (first | exact (Kd.R_reads' HO459.out).2.2 | (with_reducible refine Kd.C_alloc ?_ _) | (with_reducible refine Kd.C_drewN ?_ _) | (with_reducible refine Kd.C_drew ?_))); (case side4 => exact (Kd.R_reads' HO459.out).2.1); rintro e w114 ⟨v462, v465, rfl, ho0, ho1, hb⟩; refine ⟨_, rfl, ?_⟩; have n0_ := Aside0.mk (Kd.R_elder' (by (with_reducible repeat (first | apply Kd.R_alloc | apply Kd.R_drewN | apply Kd.R_drew)); exact HO_419001.out) (Kd.R_base ho0) hb); have n1_ := Aside0.mk (Kd.R_elder' (by (with_reducible repeat (first | apply Kd.R_alloc | apply Kd.R_drewN | apply Kd.R_drew)); exact HO_419002.out) (Kd.R_base ho1) hb); have n2_ := Aside0.mk (Kd.R_elder' (by (with_reducible repeat (first | apply Kd.R_alloc | apply Kd.R_drewN | apply Kd.R_drew)); exact HO_427001.out) (Kd.R_base ho0) hb); have n3_ := Aside0.mk (Kd.R_elder' (by (with_reducible repeat (first | apply Kd.R_alloc | apply Kd.R_drewN | apply Kd.R_drew)); exact HO_427002.out) (Kd.R_base ho1) hb); have n4_ := Aside0.mk (Kd.R_elder' (by (with_reducible repeat (first | apply Kd.R_alloc | apply Kd.R_drewN | apply Kd.R_drew)); exact HO_436001.out) (Kd.R_base ho0) hb); have n5_ := Aside0.mk (Kd.R_elder' (by (with_reducible repeat (first | apply Kd.R_alloc | apply Kd.R_drewN | apply Kd.R_drew)); exact HO_436002.out) (Kd.R_base ho1) hb); have n6_ := Aside0.mk (Kd.R_elder' (by (with_reducible repeat (first | apply Kd.R_alloc | apply Kd.R_drewN | apply Kd.R_drew)); exact HO456.out) (Kd.R_base ho0) hb); have n7_ := Aside0.mk (Kd.R_elder' (by (with_reducible repeat (first | apply Kd.R_alloc | apply Kd.R_drewN | apply Kd.R_drew)); exact HO459.out) (Kd.R_base ho1) hb); have n8_ := Aside0.mk (Kd.R_lower (Kd.R_new' (Kd.R_new' (Kd.R_new' (Kd.R_new' ho0 (Kd.R_lt (by (with_reducible repeat (first | apply Kd.R_alloc | apply Kd.R_drewN | apply Kd.R_drew)); exact HO_419001.out))) (Kd.R_lt (by (with_reducible repeat (first | apply Kd.R_alloc | apply Kd.R_drewN | apply Kd.R_drew)); exact HO_427001.out))) (Kd.R_lt (by (with_reducible repeat (first | apply Kd.R_alloc | apply Kd.R_drewN | apply Kd.R_drew)); exact HO_436001.out))) (Kd.R_lt (by (with_reducible repeat (first | apply Kd.R_alloc | apply Kd.R_drewN | apply Kd.R_drew)); exact HO456.out))) (below_size (by repeat (first | (with_reducible first | exact HB.out | apply below_alloc | apply pw_below_drewN | apply below_drew1 | refine below_set ?_ GE401.out | refine below_set ?_ GE418.out | refine below_set ?_ GE426.out | refine below_set ?_ GE435.out) | exact HB.out)))); have n9_ := Aside0.mk (Kd.R_lower (Kd.R_new' (Kd.R_new' (Kd.R_new' (Kd.R_new' ho1 (Kd.R_lt (by (with_reducible repeat (first | apply Kd.R_alloc | apply Kd.R_drewN | apply Kd.R_drew)); exact HO_419002.out))) (Kd.R_lt (by (with_reducible repeat (first | apply Kd.R_alloc | apply Kd.R_drewN | apply Kd.R_drew)); exact HO_427002.out))) (Kd.R_lt (by (with_reducible repeat (first | apply Kd.R_alloc | apply Kd.R_drewN | apply Kd.R_drew)); exact HO_436002.out))) (Kd.R_lt (by (with_reducible repeat (first | apply Kd.R_alloc | apply Kd.R_drewN | apply Kd.R_drew)); exact HO459.out))) (below_size (by repeat (first | (with_reducible first | exact HB.out | apply below_alloc | apply pw_below_drewN | apply below_drew1 | refine below_set ?_ GE401.out | refine below_set ?_ GE418.out | refine below_set ?_ GE426.out | refine below_set ?_ GE435.out) | exact HB.out)))); have n10_ := Aside0.mk (blk_below (g := gb401) (o := .cells #[.int .i64 a0_0, .slice A0_1 l0_1.length c0_1, .slice A0_2 l0_2.length c0_2] 32 (0, 0)) (by (with_reducible repeat (first | refine blk_drewN ?_ _ | refine blk_drew ?_ | refine blk_alloc ?_ _)); exact BK401.out) hb); have n11_ := Aside0.mk (blk_below (g := gb418) (o := .cells #[.int .i64 t410, .slice Ao22 t411.length co22, .slice Ao23 t414.length co23] 25 (0, 0)) (by (with_reducible repeat (first | refine blk_drewN ?_ _ | refine blk_drew ?_ | refine blk_alloc ?_ _)); exact BK418.out) hb); have n12_ := Aside0.mk (blk_below (g := gb426) (o := .cells #[.int .i64 t419, .slice Ao30 t446.length co30, .slice Ao31 t447.length co31] 25 (0, 0)) (by (with_reducible repeat (first | refine blk_drewN ?_ _ | refine blk_drew ?_ | refine blk_alloc ?_ _)); exact BK426.out) hb); have n13_ := Aside0.mk (blk_below (g := gb435) (o := .cells #[.int .i64 t427, .slice Ao38 t428.length co38, .slice Ao39 t431.length co39] 25 (0, 0)) (by (with_reducible repeat (first | refine blk_drewN ?_ _ | refine blk_drew ?_ | refine blk_alloc ?_ _)); exact BK435.out) hb); have n14_ := Aside0.mk (below_step (by repeat (first | (with_reducible first | exact HB.out | apply below_alloc | apply pw_below_drewN | apply below_drew1 | refine below_set ?_ GE401.out | refine below_set ?_ GE418.out | refine below_set ?_ GE426.out | refine below_set ?_ GE435.out) | exact HB.out)) hb); clear HO_419001; clear HO_419002; clear HO_427001; clear HO_427002; clear HO_436001; clear HO_436002; clear HO456; clear HO459; clear BK401; clear BK418; clear BK426; clear BK435; clear HB; have HO_419001 := n0_; have HO_419002 := n1_; have HO_427001 := n2_; have HO_427002 := n3_; have HO_436001 := n4_; have HO_436002 := n5_; have HO456 := n6_; have HO459 := n7_; have HO463 := n8_; have HO466 := n9_; have BK401 := n10_; have BK418 := n11_; have BK426 := n12_; have BK435 := n13_; have HB := n14_; clear n0_ n1_ n2_ n3_ n4_ n5_ n6_ n7_ n8_ n9_ n10_ n11_ n12_ n13_ n14_; (try clear hb); (try clear hb2); (try clear hk); (try clear hi); (try clear ho0); (try clear ho1)) | ((with_reducible refine gate_dst (N := 14) rfl ?_); refine box_event ?hg (N := 14) ?hd (cs := #[.int .i64 0, .slice none 0 0, .slice none 0 0]) (t := 25) ?hr ?_; (case hd => rfl); (case hg => rfl); (case hr => first | (go_simp; done) | (go_simp; rfl)); intro gb468 hg w115 hbox hb; have n0_ := Aside0.mk (Kd.R_below (by (with_reducible repeat (first | apply Kd.R_alloc | apply Kd.R_drewN | apply Kd.R_drew)); exact HO_419001.out) hb); have n1_ := Aside0.mk (Kd.R_below (by (with_reducible repeat (first | apply Kd.R_alloc | apply Kd.R_drewN | apply Kd.R_drew)); exact HO_419002.out) hb); have n2_ := Aside0.mk (Kd.R_below (by (with_reducible repeat (first | apply Kd.R_alloc | apply Kd.R_drewN | apply Kd.R_drew)); exact HO_427001.out) hb); have n3_ := Aside0.mk (Kd.R_below (by (with_reducible repeat (first | apply Kd.R_alloc | apply Kd.R_drewN | apply Kd.R_drew)); exact HO_427002.out) hb); have n4_ := Aside0.mk (Kd.R_below (by (with_reducible repeat (first | apply Kd.R_alloc | apply Kd.R_drewN | apply Kd.R_drew)); exact HO_436001.out) hb); have n5_ := Aside0.mk (Kd.R_below (by (with_reducible repeat (first | apply Kd.R_alloc | apply Kd.R_drewN | apply Kd.R_drew)); exact HO_436002.out) hb); have n6_ := Aside0.mk (Kd.R_below (by (with_reducible repeat (first | apply Kd.R_alloc | apply Kd.R_drewN | apply Kd.R_drew)); exact HO456.out) hb); have n7_ := Aside0.mk (Kd.R_below (by (with_reducible repeat (first | apply Kd.R_alloc | apply Kd.R_drewN | apply Kd.R_drew)); exact HO459.out) hb); have n8_ := Aside0.mk (Kd.R_below (by (with_reducible repeat (first | apply Kd.R_alloc | apply Kd.R_drewN | apply Kd.R_drew)); exact HO463.out) hb); have n9_ := Aside0.mk (Kd.R_below (by (with_reducible repeat (first | apply Kd.R_alloc | apply Kd.R_drewN | apply Kd.R_drew)); exact HO466.out) hb); have n10_ := Aside0.mk (blk_below (g := gb401) (o := .cells #[.int .i64 a0_0, .slice A0_1 l0_1.length c0_1, .slice A0_2 l0_2.length c0_2] 32 (0, 0)) (by (with_reducible repeat (first | refine blk_drewN ?_ _ | refine blk_drew ?_ | refine blk_alloc ?_ _)); exact BK401.out) hb); have n11_ := Aside0.mk (blk_below (g := gb418) (o := .cells #[.int .i64 t410, .slice Ao22 t411.length co22, .slice Ao23 t414.length co23] 25 (0, 0)) (by (with_reducible repeat (first | refine blk_drewN ?_ _ | refine blk_drew ?_ | refine blk_alloc ?_ _)); exact BK418.out) hb); have n12_ := Aside0.mk (blk_below (g := gb426) (o := .cells #[.int .i64 t419, .slice Ao30 t446.length co30, .slice Ao31 t447.length co31] 25 (0, 0)) (by (with_reducible repeat (first | refine blk_drewN ?_ _ | refine blk_drew ?_ | refine blk_alloc ?_ _)); exact BK426.out) hb); have n13_ := Aside0.mk (blk_below (g := gb435) (o := .cells #[.int .i64 t427, .slice Ao38 t428.length co38, .slice Ao39 t431.length co39] 25 (0, 0)) (by (with_reducible repeat (first | refine blk_drewN ?_ _ | refine blk_drew ?_ | refine blk_alloc ?_ _)); exact BK435.out) hb); have n14_ := Aside0.mk (below_step (by repeat (first | (with_reducible first | exact HB.out | apply below_alloc | apply pw_below_drewN | apply below_drew1 | refine below_set ?_ GE401.out | refine below_set ?_ GE418.out | refine below_set ?_ GE426.out | refine below_set ?_ GE435.out) | exact HB.out)) hb); have n15_ := Aside0.mk (hbox); have n16_ := Aside0.mk ((by rw [hg]; exact (below_size (by repeat (first | (with_reducible first | exact HB.out | apply below_alloc | apply pw_below_drewN | apply below_drew1 | refine below_set ?_ GE401.out | refine below_set ?_ GE418.out | refine below_set ?_ GE426.out | refine below_set ?_ GE435.out) | exact HB.out))) : w.heap.size ≤ gb468)); have n17_ := Aside0.mk ((by rw [hg]; exact (below_size (by repeat (first | (with_reducible first | exact HB.out | apply below_alloc | apply pw_below_drewN | apply below_drew1 | refine below_set ?_ GE401.out | refine below_set ?_ GE418.out | refine below_set ?_ GE426.out | refine below_set ?_ GE435.out) | exact HB.out))) : w.heap.size ≤ gb468)); have n18_ := Aside0.mk ((by rw [hg]; exact Nat.ne_of_lt (blk_lt (g := gb401) (o := .cells #[.int .i64 a0_0, .slice A0_1 l0_1.length c0_1, .slice A0_2 l0_2.length c0_2] 32 (0, 0)) (by (with_reducible repeat (first | refine blk_drewN ?_ _ | refine blk_drew ?_ | refine blk_alloc ?_ _)); exact BK401.out)) : gb401 ≠ gb468)); have n19_ := Aside0.mk ((by rw [hg]; exact Nat.ne_of_gt (blk_lt (g := gb401) (o := .cells #[.int .i64 a0_0, .slice A0_1 l0_1.length c0_1, .slice A0_2 l0_2.length c0_2] 32 (0, 0)) (by (with_reducible repeat (first | refine blk_drewN ?_ _ | refine blk_drew ?_ | refine blk_alloc ?_ _)); exact BK401.out)) : gb468 ≠ gb401)); have n20_ := Aside0.mk ((by rw [hg]; exact Nat.ne_of_lt (blk_lt (g := gb418) (o := .cells #[.int .i64 t410, .slice Ao22 t411.length co22, .slice Ao23 t414.length co23] 25 (0, 0)) (by (with_reducible repeat (first | refine blk_drewN ?_ _ | refine blk_drew ?_ | refine blk_alloc ?_ _)); exact BK418.out)) : gb418 ≠ gb468)); have n21_ := Aside0.mk ((by rw [hg]; exact Nat.ne_of_gt (blk_lt (g := gb418) (o := .cells #[.int .i64 t410, .slice Ao22 t411.length co22, .slice Ao23 t414.length co23] 25 (0, 0)) (by (with_reducible repeat (first | refine blk_drewN ?_ _ | refine blk_drew ?_ | refine blk_alloc ?_ _)); exact BK418.out)) : gb468 ≠ gb418)); have n22_ := Aside0.mk ((by rw [hg]; exact Nat.ne_of_lt (blk_lt (g := gb426) (o := .cells #[.int .i64 t419, .slice Ao30 t446.length co30, .slice Ao31 t447.length co31] 25 (0, 0)) (by (with_reducible repeat (first | refine blk_drewN ?_ _ | refine blk_drew ?_ | refine blk_alloc ?_ _)); exact BK426.out)) : gb426 ≠ gb468)); have n23_ := Aside0.mk ((by rw [hg]; exact Nat.ne_of_gt (blk_lt (g := gb426) (o := .cells #[.int .i64 t419, .slice Ao30 t446.length co30, .slice Ao31 t447.length co31] 25 (0, 0)) (by (with_reducible repeat (first | refine blk_drewN ?_ _ | refine blk_drew ?_ | refine blk_alloc ?_ _)); exact BK426.out)) : gb468 ≠ gb426)); have n24_ := Aside0.mk ((by rw [hg]; exact Nat.ne_of_lt (blk_lt (g := gb435) (o := .cells #[.int .i64 t427, .slice Ao38 t428.length co38, .slice Ao39 t431.length co39] 25 (0, 0)) (by (with_reducible repeat (first | refine blk_drewN ?_ _ | refine blk_drew ?_ | refine blk_alloc ?_ _)); exact BK435.out)) : gb435 ≠ gb468)); have n25_ := Aside0.mk ((by rw [hg]; exact Nat.ne_of_gt (blk_lt (g := gb435) (o := .cells #[.int .i64 t427, .slice Ao38 t428.length co38, .slice Ao39 t431.length co39] 25 (0, 0)) (by (with_reducible repeat (first | refine blk_drewN ?_ _ | refine blk_drew ?_ | refine blk_alloc ?_ _)); exact BK435.out)) : gb468 ≠ gb435)); clear HO_419001; clear HO_419002; clear HO_427001; clear HO_427002; clear HO_436001; clear HO_436002; clear HO456; clear HO459; clear HO463; clear HO466; clear BK401; clear BK418; clear BK426; clear BK435; clear HB; have HO_419001 := n0_; have HO_419002 := n1_; have HO_427001 := n2_; have HO_427002 := n3_; have HO_436001 := n4_; have HO_436002 := n5_; have HO456 := n6_; have HO459 := n7_; have HO463 := n8_; have HO466 := n9_; have BK401 := n10_; have BK418 := n11_; have BK426 := n12_; have BK435 := n13_; have HB := n14_; have BK468 := n15_; have GW468 := n16_; have GE468 := n17_; have NB401_468 := n18_; have NB468_401 := n19_; have NB418_468 := n20_; have NB468_418 := n21_; have NB426_468 := n22_; have NB468_426 := n23_; have NB435_468 := n24_; have NB468_435 := n25_; clear n0_ n1_ n2_ n3_ n4_ n5_ n6_ n7_ n8_ n9_ n10_ n11_ n12_ n13_ n14_ n15_ n16_ n17_ n18_ n19_ n20_ n21_ n22_ n23_ n24_ n25_; clear hb hbox hg; have hnb116 := NB468_401.out; have hnc116 := NB401_468.out; have hnb117 := NB468_418.out; have hnc117 := NB418_468.out; have hnb118 := NB468_426.out; have hnc118 := NB426_468.out; have hnb119 := NB468_435.out; have hnc119 := NB435_468.out; have hcz120_0 : w115.cell? ⟨gb468, 0, none⟩ = some (.int .i64 0) := (blk_cell BK468.out 0).trans rfl; have hcz120_1 : w115.cell? ⟨gb468, 1, none⟩ = some (.slice none 0 0) := (blk_cell BK468.out 1).trans rfl; have hcz120_2 : w115.cell? ⟨gb468, 2, none⟩ = some (.slice none 0 0) := (blk_cell BK468.out 2).trans rfl; have hfz120_0 := blk_frozen BK468.out 0; have hfz120_1 := blk_frozen BK468.out 1; have hfz120_2 := blk_frozen BK468.out 2; obtain ⟨Ao121, co121, eo121⟩ := Kd.R_slice HO463.out; subst eo121; obtain ⟨Ao122, co122, eo122⟩ := Kd.R_slice HO466.out; subst eo122))
                      (try simp only [Act.put, List.setIfInBounds_toArray, List.set_cons_zero, List.set_cons_succ])
                      go_cut [92] (fun v92 wc => ∃ (kq : Nat) (x92_99 : Bool), v92 = .bool x92_99 ∧ Aside0 (laws_FnExactUnpinLook.j2 kq t449 x92_99 t427 t450 t451 = some r) ∧ Aside0 (kq ≤ kj62) ∧ Aside0 (Kd.R (Kd.int .i64) 3 wc w.heap.size (fun k_ => some k_ ≠ ((.slice Ao30 t446.length co30) : Value).ownBlock ∧ some k_ ≠ ((.slice Ao38 t428.length co38) : Value).ownBlock ∧ some k_ ≠ ((.slice Ao121 t461.length co121) : Value).ownBlock) (.slice Ao22 t411.length co22) t411) ∧ Aside0 (Kd.R k57 57 wc w.heap.size (fun k_ => some k_ ≠ ((.slice Ao31 t447.length co31) : Value).ownBlock ∧ some k_ ≠ ((.slice Ao39 t431.length co39) : Value).ownBlock ∧ some k_ ≠ ((.slice Ao122 t464.length co122) : Value).ownBlock) (.slice Ao23 t414.length co23) t414) ∧ Aside0 (Kd.R (Kd.int .i64) 3 wc w.heap.size (fun k_ => some k_ ≠ ((.slice Ao22 t411.length co22) : Value).ownBlock ∧ some k_ ≠ ((.slice Ao38 t428.length co38) : Value).ownBlock ∧ some k_ ≠ ((.slice Ao121 t461.length co121) : Value).ownBlock) (.slice Ao30 t446.length co30) t446) ∧ Aside0 (Kd.R k57 57 wc w.heap.size (fun k_ => some k_ ≠ ((.slice Ao23 t414.length co23) : Value).ownBlock ∧ some k_ ≠ ((.slice Ao39 t431.length co39) : Value).ownBlock ∧ some k_ ≠ ((.slice Ao122 t464.length co122) : Value).ownBlock) (.slice Ao31 t447.length co31) t447) ∧ Aside0 (Kd.R (Kd.int .i64) 3 wc w.heap.size (fun k_ => some k_ ≠ ((.slice Ao22 t411.length co22) : Value).ownBlock ∧ some k_ ≠ ((.slice Ao30 t446.length co30) : Value).ownBlock ∧ some k_ ≠ ((.slice Ao121 t461.length co121) : Value).ownBlock) (.slice Ao38 t428.length co38) t450) ∧ Aside0 (Kd.R k57 57 wc w.heap.size (fun k_ => some k_ ≠ ((.slice Ao23 t414.length co23) : Value).ownBlock ∧ some k_ ≠ ((.slice Ao31 t447.length co31) : Value).ownBlock ∧ some k_ ≠ ((.slice Ao122 t464.length co122) : Value).ownBlock) (.slice Ao39 t431.length co39) t451) ∧ Aside0 (Kd.R (Kd.int .i64) 3 wc w.heap.size (fun k_ => some k_ ≠ ((.slice Ao22 t411.length co22) : Value).ownBlock ∧ some k_ ≠ ((.slice Ao30 t446.length co30) : Value).ownBlock ∧ some k_ ≠ ((.slice Ao38 t428.length co38) : Value).ownBlock) (.slice Ao121 t461.length co121) t461) ∧ Aside0 (Kd.R k57 57 wc w.heap.size (fun k_ => some k_ ≠ ((.slice Ao23 t414.length co23) : Value).ownBlock ∧ some k_ ≠ ((.slice Ao31 t447.length co31) : Value).ownBlock ∧ some k_ ≠ ((.slice Ao39 t431.length co39) : Value).ownBlock) (.slice Ao122 t464.length co122) t464) ∧ Aside0 (wc.heap[gb401]? = some (.cells #[.int .i64 a0_0, (.slice A0_1 l0_1.length c0_1), (.slice A0_2 l0_2.length c0_2)] 32 (0, 0))) ∧ Aside0 (wc.heap[gb418]? = some (.cells #[.int .i64 t410, (.slice Ao22 t411.length co22), (.slice Ao23 t414.length co23)] 25 (0, 0))) ∧ Aside0 (wc.heap[gb426]? = some (.cells #[.int .i64 t419, (.slice Ao30 t446.length co30), (.slice Ao31 t447.length co31)] 25 (0, 0))) ∧ Aside0 (wc.heap[gb435]? = some (.cells #[.int .i64 t427, (.slice Ao38 t428.length co38), (.slice Ao39 t431.length co39)] 25 (0, 0))) ∧ Aside0 (wc.heap[gb468]? = some (.cells #[.int .i64 t460, (.slice Ao121 t461.length co121), (.slice Ao122 t464.length co122)] 25 (0, 0))) ∧ Aside0 (Below w.heap.size w wc))
                      case first =>
                        have H := HC100.out
                        clear HC100
                        replace H := Option.bind_eq_some_iff.mp H
                        obtain ⟨t469, A1230, H⟩ := H
                        replace H : (if t469 = true then (laws_FnExactUnpinLook.j2 kj62 t449 (t467 != t417) t427 t450 t451) else (laws_FnExactUnpinLook.j2 kj62 t449 true t427 t450 t451)) = some r := H
                        have A123 := Aside0.mk A1230
                        clear A1230
                        by_cases c124 : t469 = true
                        · subst c124
                          have H1 : (laws_FnExactUnpinLook.j2 kj62 t449 (t467 != t417) t427 t450 t451) = some r := by rw [if_pos rfl] at H; exact H
                          clear H
                          have H := H1
                          clear H1
                          have H' := Aside0.mk H
                          clear H
                          have hnb125 := NB468_401.out
                          have hnc125 := NB401_468.out
                          have hnb126 := NB468_418.out
                          have hnc126 := NB418_468.out
                          have hnb127 := NB468_426.out
                          have hnc127 := NB426_468.out
                          have hnb128 := NB468_435.out
                          have hnc128 := NB435_468.out
                          have hcz129_0 : w115.cell? ⟨gb468, 0, none⟩ = some (.int .i64 0) := (blk_cell BK468.out 0).trans rfl
                          have hcz129_1 : w115.cell? ⟨gb468, 1, none⟩ = some (.slice none 0 0) := (blk_cell BK468.out 1).trans rfl
                          have hcz129_2 : w115.cell? ⟨gb468, 2, none⟩ = some (.slice none 0 0) := (blk_cell BK468.out 2).trans rfl
                          have hfz129_0 := blk_frozen BK468.out 0
                          have hfz129_1 := blk_frozen BK468.out 1
                          have hfz129_2 := blk_frozen BK468.out 2
                          have hnb130 := NB418_401.out
                          have hnc130 := NB401_418.out
                          have hnb131 := NB418_426.out
                          have hnc131 := NB426_418.out
                          have hnb132 := NB418_435.out
                          have hnc132 := NB435_418.out
                          have hcz133_0 : w115.cell? ⟨gb418, 0, none⟩ = some (.int .i64 t410) := (blk_cell BK418.out 0).trans rfl
                          have hcz133_1 : w115.cell? ⟨gb418, 1, none⟩ = some (.slice Ao22 t411.length co22) := (blk_cell BK418.out 1).trans rfl
                          have hcz133_2 : w115.cell? ⟨gb418, 2, none⟩ = some (.slice Ao23 t414.length co23) := (blk_cell BK418.out 2).trans rfl
                          have hfz133_0 := blk_frozen BK418.out 0
                          have hfz133_1 := blk_frozen BK418.out 1
                          have hfz133_2 := blk_frozen BK418.out 2
                          go_wp2_with (first | ((with_reducible refine gate_callee (f := 15) rfl ?_); refine goesL_ (some 86) rfl rfl Try.func15 (by kernel_rfl) rfl #[.agg #[.int .i64 t460, .slice Ao121 t461.length co121, .slice Ao122 t464.length co122], .agg #[.int .i64 t410, .slice Ao22 t411.length co22, .slice Ao23 t414.length co23]] rfl (by (try simp only [List.map_toArray, List.map_cons, List.map_nil]); first | done | rfl | (simp only [List.length_drop, List.length_take]; rfl)) ?_; (with_reducible refine (laws_eqEpochs.calls kj62 t460 _ _ t461 _ _ t464 t410 _ _ t411 _ _ t414 true _ ?side1 ?side2 ?side3 ?side4 ?side5 ?side6 ?side7 ?side8 A123.out).mono ?_); (case side1 => refine (Kd.R_reads' (e := 3) (base := w.heap.size) (ok := fun k_ => ((((True ∧ some k_ ≠ (.slice Ao22 t411.length co22 : Value).ownBlock) ∧ some k_ ≠ (.slice Ao30 t446.length co30 : Value).ownBlock) ∧ some k_ ≠ (.slice Ao38 t428.length co38 : Value).ownBlock) ∧ some k_ ≠ (.slice Ao112 t454.length co112 : Value).ownBlock)) (n := t461.length) (c := co121) ?_).2.2; exact (by (with_reducible repeat (first | apply Kd.R_alloc | apply Kd.R_drewN | apply Kd.R_drew)); exact (Kd.R_mono (Kd.R_far (p := ⟨gb468, 2, none⟩) (Kd.R_far (p := ⟨gb468, 1, none⟩) (Kd.R_far (p := ⟨gb468, 0, none⟩) (Kd.R_types HO463.out BK468.out (by decide)) (fun _ hk => hk.2) (.int .i64 t460)) (fun _ hk => hk.2) (.slice Ao121 t461.length co121)) (fun _ hk => hk.2) (.slice Ao122 t464.length co122)) (fun _ h_ => h_.1)))); (case side2 => exact (Kd.R_reads' HO463.out).2.1); (case side3 => refine (Kd.R_reads' (e := 57) (base := w.heap.size) (ok := fun k_ => ((((True ∧ some k_ ≠ (.slice Ao23 t414.length co23 : Value).ownBlock) ∧ some k_ ≠ (.slice Ao31 t447.length co31 : Value).ownBlock) ∧ some k_ ≠ (.slice Ao39 t431.length co39 : Value).ownBlock) ∧ some k_ ≠ (.slice Ao113 t457.length co113 : Value).ownBlock)) (n := t464.length) (c := co122) ?_).2.2; exact (by (with_reducible repeat (first | apply Kd.R_alloc | apply Kd.R_drewN | apply Kd.R_drew)); exact (Kd.R_mono (Kd.R_far (p := ⟨gb468, 2, none⟩) (Kd.R_far (p := ⟨gb468, 1, none⟩) (Kd.R_far (p := ⟨gb468, 0, none⟩) (Kd.R_types HO466.out BK468.out (by decide)) (fun _ hk => hk.2) (.int .i64 t460)) (fun _ hk => hk.2) (.slice Ao121 t461.length co121)) (fun _ hk => hk.2) (.slice Ao122 t464.length co122)) (fun _ h_ => h_.1)))); (case side4 => exact (Kd.R_reads' HO466.out).2.1); (case side5 => refine (Kd.R_reads' (e := 3) (base := w.heap.size) (ok := fun k_ => (((some k_ ≠ (.slice Ao30 t446.length co30 : Value).ownBlock ∧ some k_ ≠ (.slice Ao38 t428.length co38 : Value).ownBlock) ∧ some k_ ≠ (.slice Ao112 t454.length co112 : Value).ownBlock) ∧ some k_ ≠ (.slice Ao121 t461.length co121 : Value).ownBlock)) (n := t411.length) (c := co22) ?_).2.2; exact (by (with_reducible repeat (first | apply Kd.R_alloc | apply Kd.R_drewN | apply Kd.R_drew)); exact (Kd.R_mono (Kd.R_far (p := ⟨gb468, 2, none⟩) (Kd.R_far (p := ⟨gb468, 1, none⟩) (Kd.R_far (p := ⟨gb468, 0, none⟩) (Kd.R_types HO_419001.out BK468.out (by decide)) (fun _ hk => hk.2) (.int .i64 t460)) (fun _ hk => hk.2) (.slice Ao121 t461.length co121)) (fun _ hk => hk.2) (.slice Ao122 t464.length co122)) (fun _ h_ => h_.1)))); (case side6 => exact (Kd.R_reads' HO_419001.out).2.1); (case side7 => refine (Kd.R_reads' (e := 57) (base := w.heap.size) (ok := fun k_ => (((some k_ ≠ (.slice Ao31 t447.length co31 : Value).ownBlock ∧ some k_ ≠ (.slice Ao39 t431.length co39 : Value).ownBlock) ∧ some k_ ≠ (.slice Ao113 t457.length co113 : Value).ownBlock) ∧ some k_ ≠ (.slice Ao122 t464.length co122 : Value).ownBlock)) (n := t414.length) (c := co23) ?_).2.2; exact (by (with_reducible repeat (first | apply Kd.R_alloc | apply Kd.R_drewN | apply Kd.R_drew)); exact (Kd.R_mono (Kd.R_far (p := ⟨gb468, 2, none⟩) (Kd.R_far (p := ⟨gb468, 1, none⟩) (Kd.R_far (p := ⟨gb468, 0, none⟩) (Kd.R_types HO_419002.out BK468.out (by decide)) (fun _ hk => hk.2) (.int .i64 t460)) (fun _ hk => hk.2) (.slice Ao121 t461.length co121)) (fun _ hk => hk.2) (.slice Ao122 t464.length co122)) (fun _ h_ => h_.1)))); (case side8 => exact (Kd.R_reads' HO_419002.out).2.1); rintro e w134 ⟨rfl, hb⟩; refine ⟨_, rfl, ?_⟩; have n0_ := Aside0.mk (Kd.R_below (by (with_reducible repeat (first | apply Kd.R_alloc | apply Kd.R_drewN | apply Kd.R_drew)); exact (Kd.R_mono (Kd.R_far (p := ⟨gb468, 2, none⟩) (Kd.R_far (p := ⟨gb468, 1, none⟩) (Kd.R_far (p := ⟨gb468, 0, none⟩) (Kd.R_types HO_419001.out BK468.out (by decide)) (fun _ hk => hk.2) (.int .i64 t460)) (fun _ hk => hk.2) (.slice Ao121 t461.length co121)) (fun _ hk => hk.2) (.slice Ao122 t464.length co122)) (fun _ h_ => h_.1))) hb); have n1_ := Aside0.mk (Kd.R_below (by (with_reducible repeat (first | apply Kd.R_alloc | apply Kd.R_drewN | apply Kd.R_drew)); exact (Kd.R_mono (Kd.R_far (p := ⟨gb468, 2, none⟩) (Kd.R_far (p := ⟨gb468, 1, none⟩) (Kd.R_far (p := ⟨gb468, 0, none⟩) (Kd.R_types HO_419002.out BK468.out (by decide)) (fun _ hk => hk.2) (.int .i64 t460)) (fun _ hk => hk.2) (.slice Ao121 t461.length co121)) (fun _ hk => hk.2) (.slice Ao122 t464.length co122)) (fun _ h_ => h_.1))) hb); have n2_ := Aside0.mk (Kd.R_below (by (with_reducible repeat (first | apply Kd.R_alloc | apply Kd.R_drewN | apply Kd.R_drew)); exact (Kd.R_mono (Kd.R_far (p := ⟨gb468, 2, none⟩) (Kd.R_far (p := ⟨gb468, 1, none⟩) (Kd.R_far (p := ⟨gb468, 0, none⟩) (Kd.R_types HO_427001.out BK468.out (by decide)) (fun _ hk => hk.2) (.int .i64 t460)) (fun _ hk => hk.2) (.slice Ao121 t461.length co121)) (fun _ hk => hk.2) (.slice Ao122 t464.length co122)) (fun _ h_ => h_.1))) hb); have n3_ := Aside0.mk (Kd.R_below (by (with_reducible repeat (first | apply Kd.R_alloc | apply Kd.R_drewN | apply Kd.R_drew)); exact (Kd.R_mono (Kd.R_far (p := ⟨gb468, 2, none⟩) (Kd.R_far (p := ⟨gb468, 1, none⟩) (Kd.R_far (p := ⟨gb468, 0, none⟩) (Kd.R_types HO_427002.out BK468.out (by decide)) (fun _ hk => hk.2) (.int .i64 t460)) (fun _ hk => hk.2) (.slice Ao121 t461.length co121)) (fun _ hk => hk.2) (.slice Ao122 t464.length co122)) (fun _ h_ => h_.1))) hb); have n4_ := Aside0.mk (Kd.R_below (by (with_reducible repeat (first | apply Kd.R_alloc | apply Kd.R_drewN | apply Kd.R_drew)); exact (Kd.R_mono (Kd.R_far (p := ⟨gb468, 2, none⟩) (Kd.R_far (p := ⟨gb468, 1, none⟩) (Kd.R_far (p := ⟨gb468, 0, none⟩) (Kd.R_types HO_436001.out BK468.out (by decide)) (fun _ hk => hk.2) (.int .i64 t460)) (fun _ hk => hk.2) (.slice Ao121 t461.length co121)) (fun _ hk => hk.2) (.slice Ao122 t464.length co122)) (fun _ h_ => h_.1))) hb); have n5_ := Aside0.mk (Kd.R_below (by (with_reducible repeat (first | apply Kd.R_alloc | apply Kd.R_drewN | apply Kd.R_drew)); exact (Kd.R_mono (Kd.R_far (p := ⟨gb468, 2, none⟩) (Kd.R_far (p := ⟨gb468, 1, none⟩) (Kd.R_far (p := ⟨gb468, 0, none⟩) (Kd.R_types HO_436002.out BK468.out (by decide)) (fun _ hk => hk.2) (.int .i64 t460)) (fun _ hk => hk.2) (.slice Ao121 t461.length co121)) (fun _ hk => hk.2) (.slice Ao122 t464.length co122)) (fun _ h_ => h_.1))) hb); have n6_ := Aside0.mk (Kd.R_below (by (with_reducible repeat (first | apply Kd.R_alloc | apply Kd.R_drewN | apply Kd.R_drew)); exact (Kd.R_mono (Kd.R_far (p := ⟨gb468, 2, none⟩) (Kd.R_far (p := ⟨gb468, 1, none⟩) (Kd.R_far (p := ⟨gb468, 0, none⟩) (Kd.R_types HO456.out BK468.out (by decide)) (fun _ hk => hk.2) (.int .i64 t460)) (fun _ hk => hk.2) (.slice Ao121 t461.length co121)) (fun _ hk => hk.2) (.slice Ao122 t464.length co122)) (fun _ h_ => h_.1))) hb); have n7_ := Aside0.mk (Kd.R_below (by (with_reducible repeat (first | apply Kd.R_alloc | apply Kd.R_drewN | apply Kd.R_drew)); exact (Kd.R_mono (Kd.R_far (p := ⟨gb468, 2, none⟩) (Kd.R_far (p := ⟨gb468, 1, none⟩) (Kd.R_far (p := ⟨gb468, 0, none⟩) (Kd.R_types HO459.out BK468.out (by decide)) (fun _ hk => hk.2) (.int .i64 t460)) (fun _ hk => hk.2) (.slice Ao121 t461.length co121)) (fun _ hk => hk.2) (.slice Ao122 t464.length co122)) (fun _ h_ => h_.1))) hb); have n8_ := Aside0.mk (Kd.R_below (by (with_reducible repeat (first | apply Kd.R_alloc | apply Kd.R_drewN | apply Kd.R_drew)); exact (Kd.R_mono (Kd.R_far (p := ⟨gb468, 2, none⟩) (Kd.R_far (p := ⟨gb468, 1, none⟩) (Kd.R_far (p := ⟨gb468, 0, none⟩) (Kd.R_types HO463.out BK468.out (by decide)) (fun _ hk => hk.2) (.int .i64 t460)) (fun _ hk => hk.2) (.slice Ao121 t461.length co121)) (fun _ hk => hk.2) (.slice Ao122 t464.length co122)) (fun _ h_ => h_.1))) hb); have n9_ := Aside0.mk (Kd.R_below (by (with_reducible repeat (first | apply Kd.R_alloc | apply Kd.R_drewN | apply Kd.R_drew)); exact (Kd.R_mono (Kd.R_far (p := ⟨gb468, 2, none⟩) (Kd.R_far (p := ⟨gb468, 1, none⟩) (Kd.R_far (p := ⟨gb468, 0, none⟩) (Kd.R_types HO466.out BK468.out (by decide)) (fun _ hk => hk.2) (.int .i64 t460)) (fun _ hk => hk.2) (.slice Ao121 t461.length co121)) (fun _ hk => hk.2) (.slice Ao122 t464.length co122)) (fun _ h_ => h_.1))) hb); have n10_ := Aside0.mk (blk_below (g := gb401) (o := .cells #[.int .i64 a0_0, .slice A0_1 l0_1.length c0_1, .slice A0_2 l0_2.length c0_2] 32 (0, 0)) (by (with_reducible repeat (first | refine blk_drewN ?_ _ | refine blk_drew ?_ | refine blk_alloc ?_ _)); refine blk_far ?_ NB401_468.out _; (with_reducible repeat (first | refine blk_drewN ?_ _ | refine blk_drew ?_ | refine blk_alloc ?_ _)); refine blk_far ?_ NB401_468.out _; (with_reducible repeat (first | refine blk_drewN ?_ _ | refine blk_drew ?_ | refine blk_alloc ?_ _)); refine blk_far ?_ NB401_468.out _; (with_reducible repeat (first | refine blk_drewN ?_ _ | refine blk_drew ?_ | refine blk_alloc ?_ _)); exact BK401.out) hb); have n11_ := Aside0.mk (blk_below (g := gb418) (o := .cells #[.int .i64 t410, .slice Ao22 t411.length co22, .slice Ao23 t414.length co23] 25 (0, 0)) (by (with_reducible repeat (first | refine blk_drewN ?_ _ | refine blk_drew ?_ | refine blk_alloc ?_ _)); refine blk_far ?_ NB418_468.out _; (with_reducible repeat (first | refine blk_drewN ?_ _ | refine blk_drew ?_ | refine blk_alloc ?_ _)); refine blk_far ?_ NB418_468.out _; (with_reducible repeat (first | refine blk_drewN ?_ _ | refine blk_drew ?_ | refine blk_alloc ?_ _)); refine blk_far ?_ NB418_468.out _; (with_reducible repeat (first | refine blk_drewN ?_ _ | refine blk_drew ?_ | refine blk_alloc ?_ _)); exact BK418.out) hb); have n12_ := Aside0.mk (blk_below (g := gb426) (o := .cells #[.int .i64 t419, .slice Ao30 t446.length co30, .slice Ao31 t447.length co31] 25 (0, 0)) (by (with_reducible repeat (first | refine blk_drewN ?_ _ | refine blk_drew ?_ | refine blk_alloc ?_ _)); refine blk_far ?_ NB426_468.out _; (with_reducible repeat (first | refine blk_drewN ?_ _ | refine blk_drew ?_ | refine blk_alloc ?_ _)); refine blk_far ?_ NB426_468.out _; (with_reducible repeat (first | refine blk_drewN ?_ _ | refine blk_drew ?_ | refine blk_alloc ?_ _)); refine blk_far ?_ NB426_468.out _; (with_reducible repeat (first | refine blk_drewN ?_ _ | refine blk_drew ?_ | refine blk_alloc ?_ _)); exact BK426.out) hb); have n13_ := Aside0.mk (blk_below (g := gb435) (o := .cells #[.int .i64 t427, .slice Ao38 t428.length co38, .slice Ao39 t431.length co39] 25 (0, 0)) (by (with_reducible repeat (first | refine blk_drewN ?_ _ | refine blk_drew ?_ | refine blk_alloc ?_ _)); refine blk_far ?_ NB435_468.out _; (with_reducible repeat (first | refine blk_drewN ?_ _ | refine blk_drew ?_ | refine blk_alloc ?_ _)); refine blk_far ?_ NB435_468.out _; (with_reducible repeat (first | refine blk_drewN ?_ _ | refine blk_drew ?_ | refine blk_alloc ?_ _)); refine blk_far ?_ NB435_468.out _; (with_reducible repeat (first | refine blk_drewN ?_ _ | refine blk_drew ?_ | refine blk_alloc ?_ _)); exact BK435.out) hb); have n14_ := Aside0.mk (blk_below (g := gb468) (o := .cells #[.int .i64 t460, .slice Ao121 t461.length co121, .slice Ao122 t464.length co122] 25 (0, 0)) (by (with_reducible repeat (first | refine blk_drewN ?_ _ | refine blk_drew ?_ | refine blk_alloc ?_ _)); refine blk_put (cs := #[.int .i64 t460, .slice Ao121 t461.length co121, .slice none 0 0]) ?_ 2 _ rfl; (with_reducible repeat (first | refine blk_drewN ?_ _ | refine blk_drew ?_ | refine blk_alloc ?_ _)); refine blk_put (cs := #[.int .i64 t460, .slice none 0 0, .slice none 0 0]) ?_ 1 _ rfl; (with_reducible repeat (first | refine blk_drewN ?_ _ | refine blk_drew ?_ | refine blk_alloc ?_ _)); refine blk_put (cs := #[.int .i64 0, .slice none 0 0, .slice none 0 0]) ?_ 0 _ rfl; (with_reducible repeat (first | refine blk_drewN ?_ _ | refine blk_drew ?_ | refine blk_alloc ?_ _)); exact BK468.out) hb); have n15_ := Aside0.mk (below_step (by repeat (first | (with_reducible first | exact HB.out | apply below_alloc | apply pw_below_drewN | apply below_drew1 | refine below_set ?_ GE401.out | refine below_set ?_ GE418.out | refine below_set ?_ GE426.out | refine below_set ?_ GE435.out | refine below_set ?_ GE468.out) | exact HB.out)) hb); clear HO_419001; clear HO_419002; clear HO_427001; clear HO_427002; clear HO_436001; clear HO_436002; clear HO456; clear HO459; clear HO463; clear HO466; clear BK401; clear BK418; clear BK426; clear BK435; clear BK468; clear HB; have HO_419001 := n0_; have HO_419002 := n1_; have HO_427001 := n2_; have HO_427002 := n3_; have HO_436001 := n4_; have HO_436002 := n5_; have HO456 := n6_; have HO459 := n7_; have HO463 := n8_; have HO466 := n9_; have BK401 := n10_; have BK418 := n11_; have BK426 := n12_; have BK435 := n13_; have BK468 := n14_; have HB := n15_; clear n0_ n1_ n2_ n3_ n4_ n5_ n6_ n7_ n8_ n9_ n10_ n11_ n12_ n13_ n14_ n15_; (try clear hb); (try clear hb2); (try clear hk); (try clear hi)))
                          go_meet
                          case rel => exact ⟨_, ((t467 != t417)), (by first | rfl | (simp; done) | (simp [*]; done)), H', ⟨by have := HJ12.out; have := HJ62.out; first | omega | exact Nat.le_refl _⟩, ⟨by (try simp only [hl427001_62]); (try simp only [hl427002_62]); (with_reducible repeat (first | apply Kd.R_alloc | apply Kd.R_drewN | apply Kd.R_drew)); exact Kd.R_mono HO_419001.out (fun _ hk => ⟨hk.1.1.1, ⟨hk.1.1.2, hk.2⟩⟩)⟩, ⟨by (try simp only [hl427001_62]); (try simp only [hl427002_62]); (with_reducible repeat (first | apply Kd.R_alloc | apply Kd.R_drewN | apply Kd.R_drew)); exact Kd.R_mono HO_419002.out (fun _ hk => ⟨hk.1.1.1, ⟨hk.1.1.2, hk.2⟩⟩)⟩, ⟨by (try simp only [hl427001_62]); (try simp only [hl427002_62]); (with_reducible repeat (first | apply Kd.R_alloc | apply Kd.R_drewN | apply Kd.R_drew)); exact Kd.R_mono HO_427001.out (fun _ hk => ⟨hk.1.1.1, ⟨hk.1.1.2, hk.2⟩⟩)⟩, ⟨by (try simp only [hl427001_62]); (try simp only [hl427002_62]); (with_reducible repeat (first | apply Kd.R_alloc | apply Kd.R_drewN | apply Kd.R_drew)); exact Kd.R_mono HO_427002.out (fun _ hk => ⟨hk.1.1.1, ⟨hk.1.1.2, hk.2⟩⟩)⟩, ⟨by (try simp only [hl427001_62]); (try simp only [hl427002_62]); (with_reducible repeat (first | apply Kd.R_alloc | apply Kd.R_drewN | apply Kd.R_drew)); exact Kd.R_mono HO_436001.out (fun _ hk => ⟨hk.1.1.1, ⟨hk.1.1.2, hk.2⟩⟩)⟩, ⟨by (try simp only [hl427001_62]); (try simp only [hl427002_62]); (with_reducible repeat (first | apply Kd.R_alloc | apply Kd.R_drewN | apply Kd.R_drew)); exact Kd.R_mono HO_436002.out (fun _ hk => ⟨hk.1.1.1, ⟨hk.1.1.2, hk.2⟩⟩)⟩, ⟨by (try simp only [hl427001_62]); (try simp only [hl427002_62]); (with_reducible repeat (first | apply Kd.R_alloc | apply Kd.R_drewN | apply Kd.R_drew)); exact Kd.R_mono HO463.out (fun _ hk => ⟨hk.1.1.1.2, ⟨hk.1.1.2, hk.1.2⟩⟩)⟩, ⟨by (try simp only [hl427001_62]); (try simp only [hl427002_62]); (with_reducible repeat (first | apply Kd.R_alloc | apply Kd.R_drewN | apply Kd.R_drew)); exact Kd.R_mono HO466.out (fun _ hk => ⟨hk.1.1.1.2, ⟨hk.1.1.2, hk.1.2⟩⟩)⟩, ⟨by (try simp only [hl427001_62]); (try simp only [hl427002_62]); (with_reducible repeat (first | refine blk_drewN ?_ _ | refine blk_drew ?_ | refine blk_alloc ?_ _)); exact BK401.out⟩, ⟨by (try simp only [hl427001_62]); (try simp only [hl427002_62]); (with_reducible repeat (first | refine blk_drewN ?_ _ | refine blk_drew ?_ | refine blk_alloc ?_ _)); exact BK418.out⟩, ⟨by (try simp only [hl427001_62]); (try simp only [hl427002_62]); (with_reducible repeat (first | refine blk_drewN ?_ _ | refine blk_drew ?_ | refine blk_alloc ?_ _)); exact BK426.out⟩, ⟨by (try simp only [hl427001_62]); (try simp only [hl427002_62]); (with_reducible repeat (first | refine blk_drewN ?_ _ | refine blk_drew ?_ | refine blk_alloc ?_ _)); exact BK435.out⟩, ⟨by (try simp only [hl427001_62]); (try simp only [hl427002_62]); (with_reducible repeat (first | refine blk_drewN ?_ _ | refine blk_drew ?_ | refine blk_alloc ?_ _)); exact BK468.out⟩, ⟨by repeat (first | (with_reducible first | exact HB.out | apply below_alloc | apply pw_below_drewN | apply below_drew1 | refine below_set ?_ GE401.out | refine below_set ?_ GE418.out | refine below_set ?_ GE426.out | refine below_set ?_ GE435.out | refine below_set ?_ GE468.out) | exact HB.out)⟩⟩
                        · replace c124 := Bool.eq_false_iff.mpr c124
                          subst c124
                          have H1 : (laws_FnExactUnpinLook.j2 kj62 t449 true t427 t450 t451) = some r := by rw [if_neg (show ¬ (false = true) by decide)] at H; exact H
                          clear H
                          have H := H1
                          clear H1
                          have H' := Aside0.mk H
                          clear H
                          have hnb135 := NB468_401.out
                          have hnc135 := NB401_468.out
                          have hnb136 := NB468_418.out
                          have hnc136 := NB418_468.out
                          have hnb137 := NB468_426.out
                          have hnc137 := NB426_468.out
                          have hnb138 := NB468_435.out
                          have hnc138 := NB435_468.out
                          have hcz139_0 : w115.cell? ⟨gb468, 0, none⟩ = some (.int .i64 0) := (blk_cell BK468.out 0).trans rfl
                          have hcz139_1 : w115.cell? ⟨gb468, 1, none⟩ = some (.slice none 0 0) := (blk_cell BK468.out 1).trans rfl
                          have hcz139_2 : w115.cell? ⟨gb468, 2, none⟩ = some (.slice none 0 0) := (blk_cell BK468.out 2).trans rfl
                          have hfz139_0 := blk_frozen BK468.out 0
                          have hfz139_1 := blk_frozen BK468.out 1
                          have hfz139_2 := blk_frozen BK468.out 2
                          have hnb140 := NB418_401.out
                          have hnc140 := NB401_418.out
                          have hnb141 := NB418_426.out
                          have hnc141 := NB426_418.out
                          have hnb142 := NB418_435.out
                          have hnc142 := NB435_418.out
                          have hcz143_0 : w115.cell? ⟨gb418, 0, none⟩ = some (.int .i64 t410) := (blk_cell BK418.out 0).trans rfl
                          have hcz143_1 : w115.cell? ⟨gb418, 1, none⟩ = some (.slice Ao22 t411.length co22) := (blk_cell BK418.out 1).trans rfl
                          have hcz143_2 : w115.cell? ⟨gb418, 2, none⟩ = some (.slice Ao23 t414.length co23) := (blk_cell BK418.out 2).trans rfl
                          have hfz143_0 := blk_frozen BK418.out 0
                          have hfz143_1 := blk_frozen BK418.out 1
                          have hfz143_2 := blk_frozen BK418.out 2
                          go_wp2_with (first | ((with_reducible refine gate_callee (f := 15) rfl ?_); refine goesL_ (some 86) rfl rfl Try.func15 (by kernel_rfl) rfl #[.agg #[.int .i64 t460, .slice Ao121 t461.length co121, .slice Ao122 t464.length co122], .agg #[.int .i64 t410, .slice Ao22 t411.length co22, .slice Ao23 t414.length co23]] rfl (by (try simp only [List.map_toArray, List.map_cons, List.map_nil]); first | done | rfl | (simp only [List.length_drop, List.length_take]; rfl)) ?_; (with_reducible refine (laws_eqEpochs.calls kj62 t460 _ _ t461 _ _ t464 t410 _ _ t411 _ _ t414 false _ ?side1 ?side2 ?side3 ?side4 ?side5 ?side6 ?side7 ?side8 A123.out).mono ?_); (case side1 => refine (Kd.R_reads' (e := 3) (base := w.heap.size) (ok := fun k_ => ((((True ∧ some k_ ≠ (.slice Ao22 t411.length co22 : Value).ownBlock) ∧ some k_ ≠ (.slice Ao30 t446.length co30 : Value).ownBlock) ∧ some k_ ≠ (.slice Ao38 t428.length co38 : Value).ownBlock) ∧ some k_ ≠ (.slice Ao112 t454.length co112 : Value).ownBlock)) (n := t461.length) (c := co121) ?_).2.2; exact (by (with_reducible repeat (first | apply Kd.R_alloc | apply Kd.R_drewN | apply Kd.R_drew)); exact (Kd.R_mono (Kd.R_far (p := ⟨gb468, 2, none⟩) (Kd.R_far (p := ⟨gb468, 1, none⟩) (Kd.R_far (p := ⟨gb468, 0, none⟩) (Kd.R_types HO463.out BK468.out (by decide)) (fun _ hk => hk.2) (.int .i64 t460)) (fun _ hk => hk.2) (.slice Ao121 t461.length co121)) (fun _ hk => hk.2) (.slice Ao122 t464.length co122)) (fun _ h_ => h_.1)))); (case side2 => exact (Kd.R_reads' HO463.out).2.1); (case side3 => refine (Kd.R_reads' (e := 57) (base := w.heap.size) (ok := fun k_ => ((((True ∧ some k_ ≠ (.slice Ao23 t414.length co23 : Value).ownBlock) ∧ some k_ ≠ (.slice Ao31 t447.length co31 : Value).ownBlock) ∧ some k_ ≠ (.slice Ao39 t431.length co39 : Value).ownBlock) ∧ some k_ ≠ (.slice Ao113 t457.length co113 : Value).ownBlock)) (n := t464.length) (c := co122) ?_).2.2; exact (by (with_reducible repeat (first | apply Kd.R_alloc | apply Kd.R_drewN | apply Kd.R_drew)); exact (Kd.R_mono (Kd.R_far (p := ⟨gb468, 2, none⟩) (Kd.R_far (p := ⟨gb468, 1, none⟩) (Kd.R_far (p := ⟨gb468, 0, none⟩) (Kd.R_types HO466.out BK468.out (by decide)) (fun _ hk => hk.2) (.int .i64 t460)) (fun _ hk => hk.2) (.slice Ao121 t461.length co121)) (fun _ hk => hk.2) (.slice Ao122 t464.length co122)) (fun _ h_ => h_.1)))); (case side4 => exact (Kd.R_reads' HO466.out).2.1); (case side5 => refine (Kd.R_reads' (e := 3) (base := w.heap.size) (ok := fun k_ => (((some k_ ≠ (.slice Ao30 t446.length co30 : Value).ownBlock ∧ some k_ ≠ (.slice Ao38 t428.length co38 : Value).ownBlock) ∧ some k_ ≠ (.slice Ao112 t454.length co112 : Value).ownBlock) ∧ some k_ ≠ (.slice Ao121 t461.length co121 : Value).ownBlock)) (n := t411.length) (c := co22) ?_).2.2; exact (by (with_reducible repeat (first | apply Kd.R_alloc | apply Kd.R_drewN | apply Kd.R_drew)); exact (Kd.R_mono (Kd.R_far (p := ⟨gb468, 2, none⟩) (Kd.R_far (p := ⟨gb468, 1, none⟩) (Kd.R_far (p := ⟨gb468, 0, none⟩) (Kd.R_types HO_419001.out BK468.out (by decide)) (fun _ hk => hk.2) (.int .i64 t460)) (fun _ hk => hk.2) (.slice Ao121 t461.length co121)) (fun _ hk => hk.2) (.slice Ao122 t464.length co122)) (fun _ h_ => h_.1)))); (case side6 => exact (Kd.R_reads' HO_419001.out).2.1); (case side7 => refine (Kd.R_reads' (e := 57) (base := w.heap.size) (ok := fun k_ => (((some k_ ≠ (.slice Ao31 t447.length co31 : Value).ownBlock ∧ some k_ ≠ (.slice Ao39 t431.length co39 : Value).ownBlock) ∧ some k_ ≠ (.slice Ao113 t457.length co113 : Value).ownBlock) ∧ some k_ ≠ (.slice Ao122 t464.length co122 : Value).ownBlock)) (n := t414.length) (c := co23) ?_).2.2; exact (by (with_reducible repeat (first | apply Kd.R_alloc | apply Kd.R_drewN | apply Kd.R_drew)); exact (Kd.R_mono (Kd.R_far (p := ⟨gb468, 2, none⟩) (Kd.R_far (p := ⟨gb468, 1, none⟩) (Kd.R_far (p := ⟨gb468, 0, none⟩) (Kd.R_types HO_419002.out BK468.out (by decide)) (fun _ hk => hk.2) (.int .i64 t460)) (fun _ hk => hk.2) (.slice Ao121 t461.length co121)) (fun _ hk => hk.2) (.slice Ao122 t464.length co122)) (fun _ h_ => h_.1)))); (case side8 => exact (Kd.R_reads' HO_419002.out).2.1); rintro e w144 ⟨rfl, hb⟩; refine ⟨_, rfl, ?_⟩; have n0_ := Aside0.mk (Kd.R_below (by (with_reducible repeat (first | apply Kd.R_alloc | apply Kd.R_drewN | apply Kd.R_drew)); exact (Kd.R_mono (Kd.R_far (p := ⟨gb468, 2, none⟩) (Kd.R_far (p := ⟨gb468, 1, none⟩) (Kd.R_far (p := ⟨gb468, 0, none⟩) (Kd.R_types HO_419001.out BK468.out (by decide)) (fun _ hk => hk.2) (.int .i64 t460)) (fun _ hk => hk.2) (.slice Ao121 t461.length co121)) (fun _ hk => hk.2) (.slice Ao122 t464.length co122)) (fun _ h_ => h_.1))) hb); have n1_ := Aside0.mk (Kd.R_below (by (with_reducible repeat (first | apply Kd.R_alloc | apply Kd.R_drewN | apply Kd.R_drew)); exact (Kd.R_mono (Kd.R_far (p := ⟨gb468, 2, none⟩) (Kd.R_far (p := ⟨gb468, 1, none⟩) (Kd.R_far (p := ⟨gb468, 0, none⟩) (Kd.R_types HO_419002.out BK468.out (by decide)) (fun _ hk => hk.2) (.int .i64 t460)) (fun _ hk => hk.2) (.slice Ao121 t461.length co121)) (fun _ hk => hk.2) (.slice Ao122 t464.length co122)) (fun _ h_ => h_.1))) hb); have n2_ := Aside0.mk (Kd.R_below (by (with_reducible repeat (first | apply Kd.R_alloc | apply Kd.R_drewN | apply Kd.R_drew)); exact (Kd.R_mono (Kd.R_far (p := ⟨gb468, 2, none⟩) (Kd.R_far (p := ⟨gb468, 1, none⟩) (Kd.R_far (p := ⟨gb468, 0, none⟩) (Kd.R_types HO_427001.out BK468.out (by decide)) (fun _ hk => hk.2) (.int .i64 t460)) (fun _ hk => hk.2) (.slice Ao121 t461.length co121)) (fun _ hk => hk.2) (.slice Ao122 t464.length co122)) (fun _ h_ => h_.1))) hb); have n3_ := Aside0.mk (Kd.R_below (by (with_reducible repeat (first | apply Kd.R_alloc | apply Kd.R_drewN | apply Kd.R_drew)); exact (Kd.R_mono (Kd.R_far (p := ⟨gb468, 2, none⟩) (Kd.R_far (p := ⟨gb468, 1, none⟩) (Kd.R_far (p := ⟨gb468, 0, none⟩) (Kd.R_types HO_427002.out BK468.out (by decide)) (fun _ hk => hk.2) (.int .i64 t460)) (fun _ hk => hk.2) (.slice Ao121 t461.length co121)) (fun _ hk => hk.2) (.slice Ao122 t464.length co122)) (fun _ h_ => h_.1))) hb); have n4_ := Aside0.mk (Kd.R_below (by (with_reducible repeat (first | apply Kd.R_alloc | apply Kd.R_drewN | apply Kd.R_drew)); exact (Kd.R_mono (Kd.R_far (p := ⟨gb468, 2, none⟩) (Kd.R_far (p := ⟨gb468, 1, none⟩) (Kd.R_far (p := ⟨gb468, 0, none⟩) (Kd.R_types HO_436001.out BK468.out (by decide)) (fun _ hk => hk.2) (.int .i64 t460)) (fun _ hk => hk.2) (.slice Ao121 t461.length co121)) (fun _ hk => hk.2) (.slice Ao122 t464.length co122)) (fun _ h_ => h_.1))) hb); have n5_ := Aside0.mk (Kd.R_below (by (with_reducible repeat (first | apply Kd.R_alloc | apply Kd.R_drewN | apply Kd.R_drew)); exact (Kd.R_mono (Kd.R_far (p := ⟨gb468, 2, none⟩) (Kd.R_far (p := ⟨gb468, 1, none⟩) (Kd.R_far (p := ⟨gb468, 0, none⟩) (Kd.R_types HO_436002.out BK468.out (by decide)) (fun _ hk => hk.2) (.int .i64 t460)) (fun _ hk => hk.2) (.slice Ao121 t461.length co121)) (fun _ hk => hk.2) (.slice Ao122 t464.length co122)) (fun _ h_ => h_.1))) hb); have n6_ := Aside0.mk (Kd.R_below (by (with_reducible repeat (first | apply Kd.R_alloc | apply Kd.R_drewN | apply Kd.R_drew)); exact (Kd.R_mono (Kd.R_far (p := ⟨gb468, 2, none⟩) (Kd.R_far (p := ⟨gb468, 1, none⟩) (Kd.R_far (p := ⟨gb468, 0, none⟩) (Kd.R_types HO456.out BK468.out (by decide)) (fun _ hk => hk.2) (.int .i64 t460)) (fun _ hk => hk.2) (.slice Ao121 t461.length co121)) (fun _ hk => hk.2) (.slice Ao122 t464.length co122)) (fun _ h_ => h_.1))) hb); have n7_ := Aside0.mk (Kd.R_below (by (with_reducible repeat (first | apply Kd.R_alloc | apply Kd.R_drewN | apply Kd.R_drew)); exact (Kd.R_mono (Kd.R_far (p := ⟨gb468, 2, none⟩) (Kd.R_far (p := ⟨gb468, 1, none⟩) (Kd.R_far (p := ⟨gb468, 0, none⟩) (Kd.R_types HO459.out BK468.out (by decide)) (fun _ hk => hk.2) (.int .i64 t460)) (fun _ hk => hk.2) (.slice Ao121 t461.length co121)) (fun _ hk => hk.2) (.slice Ao122 t464.length co122)) (fun _ h_ => h_.1))) hb); have n8_ := Aside0.mk (Kd.R_below (by (with_reducible repeat (first | apply Kd.R_alloc | apply Kd.R_drewN | apply Kd.R_drew)); exact (Kd.R_mono (Kd.R_far (p := ⟨gb468, 2, none⟩) (Kd.R_far (p := ⟨gb468, 1, none⟩) (Kd.R_far (p := ⟨gb468, 0, none⟩) (Kd.R_types HO463.out BK468.out (by decide)) (fun _ hk => hk.2) (.int .i64 t460)) (fun _ hk => hk.2) (.slice Ao121 t461.length co121)) (fun _ hk => hk.2) (.slice Ao122 t464.length co122)) (fun _ h_ => h_.1))) hb); have n9_ := Aside0.mk (Kd.R_below (by (with_reducible repeat (first | apply Kd.R_alloc | apply Kd.R_drewN | apply Kd.R_drew)); exact (Kd.R_mono (Kd.R_far (p := ⟨gb468, 2, none⟩) (Kd.R_far (p := ⟨gb468, 1, none⟩) (Kd.R_far (p := ⟨gb468, 0, none⟩) (Kd.R_types HO466.out BK468.out (by decide)) (fun _ hk => hk.2) (.int .i64 t460)) (fun _ hk => hk.2) (.slice Ao121 t461.length co121)) (fun _ hk => hk.2) (.slice Ao122 t464.length co122)) (fun _ h_ => h_.1))) hb); have n10_ := Aside0.mk (blk_below (g := gb401) (o := .cells #[.int .i64 a0_0, .slice A0_1 l0_1.length c0_1, .slice A0_2 l0_2.length c0_2] 32 (0, 0)) (by (with_reducible repeat (first | refine blk_drewN ?_ _ | refine blk_drew ?_ | refine blk_alloc ?_ _)); refine blk_far ?_ NB401_468.out _; (with_reducible repeat (first | refine blk_drewN ?_ _ | refine blk_drew ?_ | refine blk_alloc ?_ _)); refine blk_far ?_ NB401_468.out _; (with_reducible repeat (first | refine blk_drewN ?_ _ | refine blk_drew ?_ | refine blk_alloc ?_ _)); refine blk_far ?_ NB401_468.out _; (with_reducible repeat (first | refine blk_drewN ?_ _ | refine blk_drew ?_ | refine blk_alloc ?_ _)); exact BK401.out) hb); have n11_ := Aside0.mk (blk_below (g := gb418) (o := .cells #[.int .i64 t410, .slice Ao22 t411.length co22, .slice Ao23 t414.length co23] 25 (0, 0)) (by (with_reducible repeat (first | refine blk_drewN ?_ _ | refine blk_drew ?_ | refine blk_alloc ?_ _)); refine blk_far ?_ NB418_468.out _; (with_reducible repeat (first | refine blk_drewN ?_ _ | refine blk_drew ?_ | refine blk_alloc ?_ _)); refine blk_far ?_ NB418_468.out _; (with_reducible repeat (first | refine blk_drewN ?_ _ | refine blk_drew ?_ | refine blk_alloc ?_ _)); refine blk_far ?_ NB418_468.out _; (with_reducible repeat (first | refine blk_drewN ?_ _ | refine blk_drew ?_ | refine blk_alloc ?_ _)); exact BK418.out) hb); have n12_ := Aside0.mk (blk_below (g := gb426) (o := .cells #[.int .i64 t419, .slice Ao30 t446.length co30, .slice Ao31 t447.length co31] 25 (0, 0)) (by (with_reducible repeat (first | refine blk_drewN ?_ _ | refine blk_drew ?_ | refine blk_alloc ?_ _)); refine blk_far ?_ NB426_468.out _; (with_reducible repeat (first | refine blk_drewN ?_ _ | refine blk_drew ?_ | refine blk_alloc ?_ _)); refine blk_far ?_ NB426_468.out _; (with_reducible repeat (first | refine blk_drewN ?_ _ | refine blk_drew ?_ | refine blk_alloc ?_ _)); refine blk_far ?_ NB426_468.out _; (with_reducible repeat (first | refine blk_drewN ?_ _ | refine blk_drew ?_ | refine blk_alloc ?_ _)); exact BK426.out) hb); have n13_ := Aside0.mk (blk_below (g := gb435) (o := .cells #[.int .i64 t427, .slice Ao38 t428.length co38, .slice Ao39 t431.length co39] 25 (0, 0)) (by (with_reducible repeat (first | refine blk_drewN ?_ _ | refine blk_drew ?_ | refine blk_alloc ?_ _)); refine blk_far ?_ NB435_468.out _; (with_reducible repeat (first | refine blk_drewN ?_ _ | refine blk_drew ?_ | refine blk_alloc ?_ _)); refine blk_far ?_ NB435_468.out _; (with_reducible repeat (first | refine blk_drewN ?_ _ | refine blk_drew ?_ | refine blk_alloc ?_ _)); refine blk_far ?_ NB435_468.out _; (with_reducible repeat (first | refine blk_drewN ?_ _ | refine blk_drew ?_ | refine blk_alloc ?_ _)); exact BK435.out) hb); have n14_ := Aside0.mk (blk_below (g := gb468) (o := .cells #[.int .i64 t460, .slice Ao121 t461.length co121, .slice Ao122 t464.length co122] 25 (0, 0)) (by (with_reducible repeat (first | refine blk_drewN ?_ _ | refine blk_drew ?_ | refine blk_alloc ?_ _)); refine blk_put (cs := #[.int .i64 t460, .slice Ao121 t461.length co121, .slice none 0 0]) ?_ 2 _ rfl; (with_reducible repeat (first | refine blk_drewN ?_ _ | refine blk_drew ?_ | refine blk_alloc ?_ _)); refine blk_put (cs := #[.int .i64 t460, .slice none 0 0, .slice none 0 0]) ?_ 1 _ rfl; (with_reducible repeat (first | refine blk_drewN ?_ _ | refine blk_drew ?_ | refine blk_alloc ?_ _)); refine blk_put (cs := #[.int .i64 0, .slice none 0 0, .slice none 0 0]) ?_ 0 _ rfl; (with_reducible repeat (first | refine blk_drewN ?_ _ | refine blk_drew ?_ | refine blk_alloc ?_ _)); exact BK468.out) hb); have n15_ := Aside0.mk (below_step (by repeat (first | (with_reducible first | exact HB.out | apply below_alloc | apply pw_below_drewN | apply below_drew1 | refine below_set ?_ GE401.out | refine below_set ?_ GE418.out | refine below_set ?_ GE426.out | refine below_set ?_ GE435.out | refine below_set ?_ GE468.out) | exact HB.out)) hb); clear HO_419001; clear HO_419002; clear HO_427001; clear HO_427002; clear HO_436001; clear HO_436002; clear HO456; clear HO459; clear HO463; clear HO466; clear BK401; clear BK418; clear BK426; clear BK435; clear BK468; clear HB; have HO_419001 := n0_; have HO_419002 := n1_; have HO_427001 := n2_; have HO_427002 := n3_; have HO_436001 := n4_; have HO_436002 := n5_; have HO456 := n6_; have HO459 := n7_; have HO463 := n8_; have HO466 := n9_; have BK401 := n10_; have BK418 := n11_; have BK426 := n12_; have BK435 := n13_; have BK468 := n14_; have HB := n15_; clear n0_ n1_ n2_ n3_ n4_ n5_ n6_ n7_ n8_ n9_ n10_ n11_ n12_ n13_ n14_ n15_; (try clear hb); (try clear hb2); (try clear hk); (try clear hi)))
                          go_meet
                          case rel => exact ⟨_, (true), (by first | rfl | (simp; done) | (simp [*]; done)), H', ⟨by have := HJ12.out; have := HJ62.out; first | omega | exact Nat.le_refl _⟩, ⟨by (try simp only [hl427001_62]); (try simp only [hl427002_62]); (with_reducible repeat (first | apply Kd.R_alloc | apply Kd.R_drewN | apply Kd.R_drew)); exact Kd.R_mono HO_419001.out (fun _ hk => ⟨hk.1.1.1, ⟨hk.1.1.2, hk.2⟩⟩)⟩, ⟨by (try simp only [hl427001_62]); (try simp only [hl427002_62]); (with_reducible repeat (first | apply Kd.R_alloc | apply Kd.R_drewN | apply Kd.R_drew)); exact Kd.R_mono HO_419002.out (fun _ hk => ⟨hk.1.1.1, ⟨hk.1.1.2, hk.2⟩⟩)⟩, ⟨by (try simp only [hl427001_62]); (try simp only [hl427002_62]); (with_reducible repeat (first | apply Kd.R_alloc | apply Kd.R_drewN | apply Kd.R_drew)); exact Kd.R_mono HO_427001.out (fun _ hk => ⟨hk.1.1.1, ⟨hk.1.1.2, hk.2⟩⟩)⟩, ⟨by (try simp only [hl427001_62]); (try simp only [hl427002_62]); (with_reducible repeat (first | apply Kd.R_alloc | apply Kd.R_drewN | apply Kd.R_drew)); exact Kd.R_mono HO_427002.out (fun _ hk => ⟨hk.1.1.1, ⟨hk.1.1.2, hk.2⟩⟩)⟩, ⟨by (try simp only [hl427001_62]); (try simp only [hl427002_62]); (with_reducible repeat (first | apply Kd.R_alloc | apply Kd.R_drewN | apply Kd.R_drew)); exact Kd.R_mono HO_436001.out (fun _ hk => ⟨hk.1.1.1, ⟨hk.1.1.2, hk.2⟩⟩)⟩, ⟨by (try simp only [hl427001_62]); (try simp only [hl427002_62]); (with_reducible repeat (first | apply Kd.R_alloc | apply Kd.R_drewN | apply Kd.R_drew)); exact Kd.R_mono HO_436002.out (fun _ hk => ⟨hk.1.1.1, ⟨hk.1.1.2, hk.2⟩⟩)⟩, ⟨by (try simp only [hl427001_62]); (try simp only [hl427002_62]); (with_reducible repeat (first | apply Kd.R_alloc | apply Kd.R_drewN | apply Kd.R_drew)); exact Kd.R_mono HO463.out (fun _ hk => ⟨hk.1.1.1.2, ⟨hk.1.1.2, hk.1.2⟩⟩)⟩, ⟨by (try simp only [hl427001_62]); (try simp only [hl427002_62]); (with_reducible repeat (first | apply Kd.R_alloc | apply Kd.R_drewN | apply Kd.R_drew)); exact Kd.R_mono HO466.out (fun _ hk => ⟨hk.1.1.1.2, ⟨hk.1.1.2, hk.1.2⟩⟩)⟩, ⟨by (try simp only [hl427001_62]); (try simp only [hl427002_62]); (with_reducible repeat (first | refine blk_drewN ?_ _ | refine blk_drew ?_ | refine blk_alloc ?_ _)); exact BK401.out⟩, ⟨by (try simp only [hl427001_62]); (try simp only [hl427002_62]); (with_reducible repeat (first | refine blk_drewN ?_ _ | refine blk_drew ?_ | refine blk_alloc ?_ _)); exact BK418.out⟩, ⟨by (try simp only [hl427001_62]); (try simp only [hl427002_62]); (with_reducible repeat (first | refine blk_drewN ?_ _ | refine blk_drew ?_ | refine blk_alloc ?_ _)); exact BK426.out⟩, ⟨by (try simp only [hl427001_62]); (try simp only [hl427002_62]); (with_reducible repeat (first | refine blk_drewN ?_ _ | refine blk_drew ?_ | refine blk_alloc ?_ _)); exact BK435.out⟩, ⟨by (try simp only [hl427001_62]); (try simp only [hl427002_62]); (with_reducible repeat (first | refine blk_drewN ?_ _ | refine blk_drew ?_ | refine blk_alloc ?_ _)); exact BK468.out⟩, ⟨by repeat (first | (with_reducible first | exact HB.out | apply below_alloc | apply pw_below_drewN | apply below_drew1 | refine below_set ?_ GE401.out | refine below_set ?_ GE418.out | refine below_set ?_ GE426.out | refine below_set ?_ GE435.out | refine below_set ?_ GE468.out) | exact HB.out)⟩⟩
                      case rest =>
                        clear HC100
                        try clear c1
                        try clear c2
                        try clear p2
                        try clear c3
                        try clear c4
                        try clear c5
                        try clear c6
                        try clear c7
                        try clear c8
                        try clear c8b0
                        try clear c9
                        try clear c10
                        try clear c11
                        try clear c12
                        try clear c13
                        try clear c14
                        try clear c15
                        try clear c16
                        try clear c17
                        try clear c18
                        try clear c20
                        try clear c24
                        try clear c25
                        try clear c27
                        try clear c28
                        try clear c34
                        try clear c35
                        try clear c36
                        try clear c41
                        try clear c42
                        try clear c43
                        try clear c44
                        try clear c46
                        try clear c47
                        try clear c50
                        try clear c51
                        try clear c52
                        try clear c54
                        try clear c55
                        try clear c58
                        try clear c61
                        try clear c69
                        try clear c70
                        try clear c71
                        try clear c74
                        try clear c74b0
                        try clear c76
                        try clear c77
                        try clear c78
                        try clear c79
                        try clear c81
                        try clear c82
                        try clear c85
                        try clear c86
                        try clear c87
                        try clear c89
                        try clear c90
                        try clear c93
                        try clear c96
                        try clear c96b0
                        try clear c97
                        try clear c97b0
                        try clear c97b1
                        try clear c101
                        try clear c102
                        try clear c103
                        try clear c108
                        try clear c109
                        try clear c116
                        try clear c117
                        try clear c118
                        try clear c119
                        try clear c124
                        try clear c125
                        try clear c126
                        try clear c127
                        try clear c128
                        try clear c130
                        try clear c131
                        try clear c132
                        try clear c135
                        try clear c136
                        try clear c137
                        try clear c138
                        try clear c140
                        try clear c141
                        try clear c142
                        try clear hcz104_0
                        try clear hcz104_1
                        try clear hcz104_2
                        try clear hcz106_0
                        try clear hcz106_1
                        try clear hcz106_2
                        try clear hcz110_0
                        try clear hcz110_1
                        try clear hcz110_2
                        try clear hcz120_0
                        try clear hcz120_1
                        try clear hcz120_2
                        try clear hcz129_0
                        try clear hcz129_1
                        try clear hcz129_2
                        try clear hcz133_0
                        try clear hcz133_1
                        try clear hcz133_2
                        try clear hcz139_0
                        try clear hcz139_1
                        try clear hcz139_2
                        try clear hcz143_0
                        try clear hcz143_1
                        try clear hcz143_2
                        try clear hcz14_0
                        try clear hcz14_1
                        try clear hcz14_2
                        try clear hcz21_0
                        try clear hcz21_1
                        try clear hcz21_2
                        try clear hcz24_0
                        try clear hcz24_1
                        try clear hcz24_2
                        try clear hcz29_0
                        try clear hcz29_1
                        try clear hcz29_2
                        try clear hcz37_0
                        try clear hcz37_1
                        try clear hcz37_2
                        try clear hcz45_0
                        try clear hcz45_1
                        try clear hcz45_2
                        try clear hcz48_0
                        try clear hcz48_1
                        try clear hcz48_2
                        try clear hcz53_0
                        try clear hcz53_1
                        try clear hcz53_2
                        try clear hcz56_0
                        try clear hcz56_1
                        try clear hcz56_2
                        try clear hcz6_0
                        try clear hcz6_1
                        try clear hcz6_2
                        try clear hcz72_0
                        try clear hcz72_1
                        try clear hcz72_2
                        try clear hcz80_0
                        try clear hcz80_1
                        try clear hcz80_2
                        try clear hcz83_0
                        try clear hcz83_1
                        try clear hcz83_2
                        try clear hcz88_0
                        try clear hcz88_1
                        try clear hcz88_2
                        try clear hcz91_0
                        try clear hcz91_1
                        try clear hcz91_2
                        try clear hfz104_0
                        try clear hfz104_1
                        try clear hfz104_2
                        try clear hfz106_0
                        try clear hfz106_1
                        try clear hfz106_2
                        try clear hfz110_0
                        try clear hfz110_1
                        try clear hfz110_2
                        try clear hfz120_0
                        try clear hfz120_1
                        try clear hfz120_2
                        try clear hfz129_0
                        try clear hfz129_1
                        try clear hfz129_2
                        try clear hfz133_0
                        try clear hfz133_1
                        try clear hfz133_2
                        try clear hfz139_0
                        try clear hfz139_1
                        try clear hfz139_2
                        try clear hfz143_0
                        try clear hfz143_1
                        try clear hfz143_2
                        try clear hfz14_0
                        try clear hfz14_1
                        try clear hfz14_2
                        try clear hfz21_0
                        try clear hfz21_1
                        try clear hfz21_2
                        try clear hfz24_0
                        try clear hfz24_1
                        try clear hfz24_2
                        try clear hfz29_0
                        try clear hfz29_1
                        try clear hfz29_2
                        try clear hfz37_0
                        try clear hfz37_1
                        try clear hfz37_2
                        try clear hfz45_0
                        try clear hfz45_1
                        try clear hfz45_2
                        try clear hfz48_0
                        try clear hfz48_1
                        try clear hfz48_2
                        try clear hfz53_0
                        try clear hfz53_1
                        try clear hfz53_2
                        try clear hfz56_0
                        try clear hfz56_1
                        try clear hfz56_2
                        try clear hfz6_0
                        try clear hfz6_1
                        try clear hfz6_2
                        try clear hfz72_0
                        try clear hfz72_1
                        try clear hfz72_2
                        try clear hfz80_0
                        try clear hfz80_1
                        try clear hfz80_2
                        try clear hfz83_0
                        try clear hfz83_1
                        try clear hfz83_2
                        try clear hfz88_0
                        try clear hfz88_1
                        try clear hfz88_2
                        try clear hfz91_0
                        try clear hfz91_1
                        try clear hfz91_2
                        try clear p2
                        obtain ⟨kq, x92_99, rfl, HA, HJ99, HO_419001, HO_419002, HO_427001, HO_427002, HO_436001, HO_436002, HO_469001, HO_469002, BK401, BK418, BK426, BK435, BK468, HB⟩ := hcut
                        have hl436001_99 := (Kd.R_reads' HO_436001.out).1
                        rw [hl436001_99] at HO_436001
                        (try simp only [hl436001_99])
                        (try simp only [hl436001_99] at BK401)
                        (try simp only [hl436001_99] at BK418)
                        (try simp only [hl436001_99] at BK426)
                        (try simp only [hl436001_99] at BK435)
                        (try simp only [hl436001_99] at BK468)
                        (try simp only [hl436001_99] at HO_419001)
                        (try simp only [hl436001_99] at HO_419002)
                        (try simp only [hl436001_99] at HO_427001)
                        (try simp only [hl436001_99] at HO_427002)
                        (try simp only [hl436001_99] at HO_436002)
                        (try simp only [hl436001_99] at HO_469001)
                        (try simp only [hl436001_99] at HO_469002)
                        have hl436002_99 := (Kd.R_reads' HO_436002.out).1
                        rw [hl436002_99] at HO_436002
                        (try simp only [hl436002_99])
                        (try simp only [hl436002_99] at BK401)
                        (try simp only [hl436002_99] at BK418)
                        (try simp only [hl436002_99] at BK426)
                        (try simp only [hl436002_99] at BK435)
                        (try simp only [hl436002_99] at BK468)
                        (try simp only [hl436002_99] at HO_419001)
                        (try simp only [hl436002_99] at HO_419002)
                        (try simp only [hl436002_99] at HO_427001)
                        (try simp only [hl436002_99] at HO_427002)
                        (try simp only [hl436002_99] at HO_436001)
                        (try simp only [hl436002_99] at HO_469001)
                        (try simp only [hl436002_99] at HO_469002)
                        cases kq with
                        | zero => exact absurd HA.out (by simp [laws_FnExactUnpinLook.j2])
                        | succ kj99 =>
                          have H := HA.out
                          clear HA
                          simp only [laws_FnExactUnpinLook.j2] at H
                          by_cases c145 : x92_99 = true
                          · subst c145
                            have H1 : (none) = some r := by rw [if_pos rfl] at H; exact H
                            clear H
                            have H := H1
                            clear H1
                            exact absurd H (by simp)
                          · replace c145 := Bool.eq_false_iff.mpr c145
                            subst c145
                            have H1 : ((laws_heldEpochs.f kj99 t427 t450 t451 1).bind fun t470 => (if t470 < 0 then (none) else (if t470 = t449 then (some true) else (none)))) = some r := by rw [if_neg (show ¬ (false = true) by decide)] at H; exact H
                            clear H
                            have H := H1
                            clear H1
                            replace H := Option.bind_eq_some_iff.mp H
                            obtain ⟨t470, A1460, H⟩ := H
                            replace H : (if t470 < 0 then (none) else (if t470 = t449 then (some true) else (none))) = some r := H
                            have A146 := Aside0.mk A1460
                            clear A1460
                            by_cases c147 : t470 < 0
                            · rw [if_pos c147] at H
                              exact absurd H (by simp)
                            · rw [if_neg c147] at H
                              have c147b0 : decide (t470 < 0) = false := decide_eq_false c147
                              clear c147
                              by_cases c148 : t470 = t449
                              · rw [if_pos c148] at H
                                have c148b0 : (t470 == t449) = true := beq_iff_eq.mpr c148
                                have c148b1 : (t470 != t449) = false := bne_eq_false_iff_eq.mpr c148
                                clear c148
                                obtain rfl := Option.some.inj H
                                have hnb149 := NB435_401.out
                                have hnc149 := NB401_435.out
                                have hnb150 := NB435_418.out
                                have hnc150 := NB418_435.out
                                have hnb151 := NB435_426.out
                                have hnc151 := NB426_435.out
                                have hnb152 := NB435_468.out
                                have hnc152 := NB468_435.out
                                have hcz153_0 : wc.cell? ⟨gb435, 0, none⟩ = some (.int .i64 t427) := (blk_cell BK435.out 0).trans rfl
                                have hcz153_1 : wc.cell? ⟨gb435, 1, none⟩ = some (.slice Ao38 t450.length co38) := (blk_cell BK435.out 1).trans rfl
                                have hcz153_2 : wc.cell? ⟨gb435, 2, none⟩ = some (.slice Ao39 t451.length co39) := (blk_cell BK435.out 2).trans rfl
                                have hfz153_0 := blk_frozen BK435.out 0
                                have hfz153_1 := blk_frozen BK435.out 1
                                have hfz153_2 := blk_frozen BK435.out 2
                                go_wp2_with (first | ((with_reducible refine gate_callee (f := 17) rfl ?_); refine goesL_ (some 95) rfl rfl Try.func17 (by kernel_rfl) rfl #[.agg #[.int .i64 t427, .slice Ao38 t450.length co38, .slice Ao39 t451.length co39], .int .i64 1] rfl (by (try simp only [List.map_toArray, List.map_cons, List.map_nil]); first | done | rfl | (simp only [List.length_drop, List.length_take]; rfl)) ?_; (with_reducible refine (laws_heldEpochs.calls kj99 t427 _ _ t450 _ _ t451 1 t470 _ ?side1 ?side2 ?side3 ?side4 A146.out).mono ?_); (case side1 => repeat (first | exact (Kd.R_reads' HO_436001.out).2.2 | (with_reducible refine Kd.C_alloc ?_ _) | (with_reducible refine Kd.C_drewN ?_ _) | (with_reducible refine Kd.C_drew ?_))); (case side2 => exact (Kd.R_reads' HO_436001.out).2.1); (case side3 => repeat (first | exact (Kd.R_reads' HO_436002.out).2.2 | (with_reducible refine Kd.C_alloc ?_ _) | (with_reducible refine Kd.C_drewN ?_ _) | (with_reducible refine Kd.C_drew ?_))); (case side4 => exact (Kd.R_reads' HO_436002.out).2.1); rintro e w154 ⟨rfl, hb⟩; refine ⟨_, rfl, ?_⟩; have n0_ := Aside0.mk (Kd.R_below (by (with_reducible repeat (first | apply Kd.R_alloc | apply Kd.R_drewN | apply Kd.R_drew)); exact HO_419001.out) hb); have n1_ := Aside0.mk (Kd.R_below (by (with_reducible repeat (first | apply Kd.R_alloc | apply Kd.R_drewN | apply Kd.R_drew)); exact HO_419002.out) hb); have n2_ := Aside0.mk (Kd.R_below (by (with_reducible repeat (first | apply Kd.R_alloc | apply Kd.R_drewN | apply Kd.R_drew)); exact HO_427001.out) hb); have n3_ := Aside0.mk (Kd.R_below (by (with_reducible repeat (first | apply Kd.R_alloc | apply Kd.R_drewN | apply Kd.R_drew)); exact HO_427002.out) hb); have n4_ := Aside0.mk (Kd.R_below (by (with_reducible repeat (first | apply Kd.R_alloc | apply Kd.R_drewN | apply Kd.R_drew)); exact HO_436001.out) hb); have n5_ := Aside0.mk (Kd.R_below (by (with_reducible repeat (first | apply Kd.R_alloc | apply Kd.R_drewN | apply Kd.R_drew)); exact HO_436002.out) hb); have n6_ := Aside0.mk (Kd.R_below (by (with_reducible repeat (first | apply Kd.R_alloc | apply Kd.R_drewN | apply Kd.R_drew)); exact HO_469001.out) hb); have n7_ := Aside0.mk (Kd.R_below (by (with_reducible repeat (first | apply Kd.R_alloc | apply Kd.R_drewN | apply Kd.R_drew)); exact HO_469002.out) hb); have n8_ := Aside0.mk (blk_below (g := gb401) (o := .cells #[.int .i64 a0_0, .slice A0_1 l0_1.length c0_1, .slice A0_2 l0_2.length c0_2] 32 (0, 0)) (by (with_reducible repeat (first | refine blk_drewN ?_ _ | refine blk_drew ?_ | refine blk_alloc ?_ _)); exact BK401.out) hb); have n9_ := Aside0.mk (blk_below (g := gb418) (o := .cells #[.int .i64 t410, .slice Ao22 t411.length co22, .slice Ao23 t414.length co23] 25 (0, 0)) (by (with_reducible repeat (first | refine blk_drewN ?_ _ | refine blk_drew ?_ | refine blk_alloc ?_ _)); exact BK418.out) hb); have n10_ := Aside0.mk (blk_below (g := gb426) (o := .cells #[.int .i64 t419, .slice Ao30 t446.length co30, .slice Ao31 t447.length co31] 25 (0, 0)) (by (with_reducible repeat (first | refine blk_drewN ?_ _ | refine blk_drew ?_ | refine blk_alloc ?_ _)); exact BK426.out) hb); have n11_ := Aside0.mk (blk_below (g := gb435) (o := .cells #[.int .i64 t427, .slice Ao38 t450.length co38, .slice Ao39 t451.length co39] 25 (0, 0)) (by (with_reducible repeat (first | refine blk_drewN ?_ _ | refine blk_drew ?_ | refine blk_alloc ?_ _)); exact BK435.out) hb); have n12_ := Aside0.mk (blk_below (g := gb468) (o := .cells #[.int .i64 t460, .slice Ao121 t461.length co121, .slice Ao122 t464.length co122] 25 (0, 0)) (by (with_reducible repeat (first | refine blk_drewN ?_ _ | refine blk_drew ?_ | refine blk_alloc ?_ _)); exact BK468.out) hb); have n13_ := Aside0.mk (below_step (by repeat (first | (with_reducible first | exact HB.out | apply below_alloc | apply pw_below_drewN | apply below_drew1 | refine below_set ?_ GE401.out | refine below_set ?_ GE418.out | refine below_set ?_ GE426.out | refine below_set ?_ GE435.out | refine below_set ?_ GE468.out) | exact HB.out)) hb); clear HO_419001; clear HO_419002; clear HO_427001; clear HO_427002; clear HO_436001; clear HO_436002; clear HO_469001; clear HO_469002; clear BK401; clear BK418; clear BK426; clear BK435; clear BK468; clear HB; have HO_419001 := n0_; have HO_419002 := n1_; have HO_427001 := n2_; have HO_427002 := n3_; have HO_436001 := n4_; have HO_436002 := n5_; have HO_469001 := n6_; have HO_469002 := n7_; have BK401 := n8_; have BK418 := n9_; have BK426 := n10_; have BK435 := n11_; have BK468 := n12_; have HB := n13_; clear n0_ n1_ n2_ n3_ n4_ n5_ n6_ n7_ n8_ n9_ n10_ n11_ n12_ n13_; (try clear hb); (try clear hb2); (try clear hk); (try clear hi)))
                                go_ret
                                exact ⟨by first | rfl | (simp [errW_none, errW_some] <;> rfl) | (simp [*, errW_none, errW_some] <;> rfl), by repeat (first | (with_reducible first | exact HB.out | apply below_alloc | apply pw_below_drewN | apply below_drew1 | refine below_set ?_ GE401.out | refine below_set ?_ GE418.out | refine below_set ?_ GE426.out | refine below_set ?_ GE435.out | refine below_set ?_ GE468.out) | exact HB.out)⟩
                              · rw [if_neg c148] at H
                                exact absurd H (by simp)
                    · rw [if_neg c97] at H
                      exact absurd H (by simp)
          · replace c61 := Bool.eq_false_iff.mpr c61
            subst c61
            have H1 : (none) = some r := by rw [if_neg (show ¬ (false = true) by decide)] at H; exact H
            clear H
            have H := H1
            clear H1
            exact absurd H (by simp)

end Go.Proofs.Ytdbhpcekjcohdaa.Q
