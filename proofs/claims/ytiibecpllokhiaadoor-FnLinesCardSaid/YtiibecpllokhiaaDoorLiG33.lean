import Derived.Test.YtiibecpllokhiaaDoorLiB0
import Derived.Test.YtiibecpllokhiaaDoorLiG13
import Derived.Test.YtiibecpllokhiaaDoorLiG18
import Derived.Test.YtiibecpllokhiaaDoorLiG31
import Derived.Test.YtiibecpllokhiaaDoorLiG65
import Derived.Test.YtiibecpllokhiaaDoorLiG68
import Derived.Test.YtiibecpllokhiaaDoorLiG71
import Derived.Test.YtiibecpllokhiaaDoorLiG77
import Derived.Test.YtiibecpllokhiaaDoorLiG111
import Derived.Test.YtiibecpllokhiaaDoorLiWords
namespace Go.Proofs.YtiibecpllokhiaaDoor.Q
open Go.RowKit Go.Proofs.YtiibecpllokhiaaDoorW.PrintWords Go.Proofs.YtiibecpllokhiaaDoorW.PrintLast Go.Proofs.YtiibecpllokhiaaDoorW.PrintMore
attribute [local go_sem] max2_int min2_int max_two min_two max_three min_three max_four min_four   -- for this text's walks alone
set_option linter.unusedVariables false
set_option linter.unusedSimpArgs false
def spec_DrawTargetOf.f (k : Nat) (l0 : List Int) : Option (ByteArray × (List (S40))) := (spec_l01New.f k l0).bind fun bt498 => ((spec_l09Any.f k bt498.1 bt498.2.1 bt498.2.2).bind fun bt502 => (some (bt502.1, bt502.2.1)))
set_option maxHeartbeats 8000000 in
set_option maxRecDepth 100000 in
theorem spec_DrawTargetOf.calls (k : Nat) (A0 : Option Addr) (c0 : Nat) (l0 : List Int) (r1 : ByteArray) (r2 : List (S40)) (w : World) (hr0 : Kd.C (Kd.int .u8) w A0 l0.length l0) (hc0 : l0.length ≤ c0) (h : spec_DrawTargetOf.f k l0 = some (r1, r2)) :
    Calls Tryd.prog 33 #[.slice A0 l0.length c0] w fun e w' => ∃ v1_ : Value, e = .returned (.agg #[.string r1, v1_]) ∧ Kd.R k40 40 w' w.heap.size (fun _ => True) v1_ r2 ∧ Below w.heap.size w w' := by
  have hu26 := Tryd.underlying26
  have HR0 := Aside0.mk hr0
  have HC0 := Aside0.mk hc0
  clear hr0 hc0
  have HB := Aside0.mk (Below.refl w.heap.size w)
  have H : ((spec_l01New.f k l0).bind fun bt498 => ((spec_l09Any.f k bt498.1 bt498.2.1 bt498.2.2).bind fun bt502 => (some (bt502.1, bt502.2.1)))) = some (r1, r2) := h
  clear h
  replace H := Option.bind_eq_some_iff.mp H
  obtain ⟨⟨t498, t499, t500⟩, A20, H⟩ := H
  replace H : ((spec_l09Any.f k t498 t499 t500).bind fun bt502 => (some (bt502.1, bt502.2.1))) = some (r1, r2) := H
  have A2 := Aside0.mk A20
  clear A20
  replace H := Option.bind_eq_some_iff.mp H
  obtain ⟨⟨t502, t503, t506, t507⟩, A30, H⟩ := H
  replace H : (some (t502, t503)) = some (r1, r2) := H
  have A3 := Aside0.mk A30
  clear A30
  simp only [Option.some.injEq, Prod.mk.injEq] at H
  obtain ⟨rfl, rfl⟩ := H
  go_enter Tryd.func33, Tryd.ntmps33
  go_wp2_with (first | ((with_reducible refine gate_dst (N := 2) rfl ?_); refine box_event ?hg (N := 2) ?hd (cs := #[.string (⟨#[]⟩ : ByteArray), .slice none 0 0]) (t := 26) ?hr ?_; (case hd => rfl); (case hg => rfl); (case hr => first | (go_simp; done) | (go_simp; rfl)); intro gb497 hg w4 hbox hb; have n0_ := Aside0.mk (below_step (by repeat (first | (with_reducible first | exact HB.out | apply below_alloc | apply pw_below_drewN | apply below_drew1) | exact HB.out)) hb); have n1_ := Aside0.mk (hbox); have n2_ := Aside0.mk ((by rw [hg]; exact (below_size (by repeat (first | (with_reducible first | exact HB.out | apply below_alloc | apply pw_below_drewN | apply below_drew1) | exact HB.out))) : w.heap.size ≤ gb497)); have n3_ := Aside0.mk ((by rw [hg]; exact (below_size (by repeat (first | (with_reducible first | exact HB.out | apply below_alloc | apply pw_below_drewN | apply below_drew1) | exact HB.out))) : w.heap.size ≤ gb497)); clear HB; have HB := n0_; have BK497 := n1_; have GW497 := n2_; have GE497 := n3_; clear n0_ n1_ n2_ n3_; clear hb hbox hg) | ((with_reducible refine gate_callee (f := 48) rfl ?_); refine goesL_ (some 4) rfl rfl Tryd.func48 (by kernel_rfl) rfl #[.slice A0 l0.length c0] rfl (by (try simp only [List.map_toArray, List.map_cons, List.map_nil]); first | done | rfl | (simp only [List.length_drop, List.length_take]; rfl)) ?_; (with_reducible refine (spec_l01New.calls k _ _ l0 t498 t499 t500 w _ ?side1 ?side2 ?side3 A2.out).mono ?_); (case side1 => repeat (first | (with_reducible first | exact HB.out | apply below_alloc | apply pw_below_drewN | apply below_drew1 | refine below_set ?_ GE497.out) | exact HB.out)); (case side2 => exact HR0.out); (case side3 => exact HC0.out); rintro e w5 ⟨g501, rfl, hi, hb, hb2⟩; refine ⟨_, rfl, ?_⟩; have n0_ := Aside0.mk (blk_below (g := gb497) (o := .cells #[.string (⟨#[]⟩ : ByteArray), .slice none 0 0] 26 (0, 0)) (by (with_reducible repeat (first | refine blk_drewN ?_ _ | refine blk_drew ?_ | refine blk_alloc ?_ _)); exact BK497.out) hb2); have n1_ := Aside0.mk (hb); have n2_ := Aside0.mk (hi); have n3_ := Aside0.mk (IsS91.ne_blk hi (blk_below (g := gb497) (o := .cells #[.string (⟨#[]⟩ : ByteArray), .slice none 0 0] 26 (0, 0)) (by (with_reducible repeat (first | refine blk_drewN ?_ _ | refine blk_drew ?_ | refine blk_alloc ?_ _)); exact BK497.out) hb2) (by decide)); have n4_ := Aside0.mk (Ne.symm (IsS91.ne_blk hi (blk_below (g := gb497) (o := .cells #[.string (⟨#[]⟩ : ByteArray), .slice none 0 0] 26 (0, 0)) (by (with_reducible repeat (first | refine blk_drewN ?_ _ | refine blk_drew ?_ | refine blk_alloc ?_ _)); exact BK497.out) hb2) (by decide))); clear BK497; clear HB; have BK497 := n0_; have HB := n1_; have HI501 := n2_; have NB501_497 := n3_; have NB497_501 := n4_; clear n0_ n1_ n2_ n3_ n4_; (try clear hb); (try clear hb2); (try clear hk); (try clear hi)) | ((with_reducible refine gate_callee (f := 69) rfl ?_); refine goesL_ (some 5) rfl rfl Tryd.func69 (by kernel_rfl) rfl #[.pointer (some ⟨g501, 0, none⟩)] rfl (by (try simp only [List.map_toArray, List.map_cons, List.map_nil]); first | done | rfl | (simp only [List.length_drop, List.length_take]; rfl)) ?_; (with_reducible refine (spec_l09Any.calls k g501 t498 t499 t500 t502 t503 t506 t507 w _ ?side1 ?side2 A3.out).mono ?_); (case side1 => repeat (first | (with_reducible first | exact HI501.out | apply IsS91.alloc | apply IsS91.drewN | apply IsS91.drew | apply IsS91.set_1 | apply IsS91.set_2 | refine IsS91.far ?_ NB501_497.out _) | exact HI501.out)); (case side2 => repeat (first | (with_reducible first | exact HB.out | apply below_alloc | apply pw_below_drewN | apply below_drew1 | refine below_set ?_ (IsS91.ge HI501.out) | refine below_set ?_ GE497.out) | exact HB.out)); rintro e w6 ⟨v504, rfl, ho0, hi, hb, hk⟩; refine ⟨_, rfl, ?_⟩; have n0_ := Aside0.mk (KeepBut.blk hk (g' := gb497) (o := .cells #[.string (⟨#[]⟩ : ByteArray), .slice none 0 0] 26 (0, 0)) (by (with_reducible repeat (first | refine blk_drewN ?_ _ | refine blk_drew ?_ | refine blk_alloc ?_ _)); exact BK497.out) NB497_501.out (by simp)); have n1_ := Aside0.mk (Kd.R_lower ho0 (below_size (by repeat (first | (with_reducible first | exact HB.out | apply below_alloc | apply pw_below_drewN | apply below_drew1 | refine below_set ?_ (IsS91.ge HI501.out) | refine below_set ?_ GE497.out) | exact HB.out)))); have n2_ := Aside0.mk (hb); have n3_ := Aside0.mk (hi); clear BK497; clear HB; clear HI501; have BK497 := n0_; have HO505 := n1_; have HB := n2_; have HI501 := n3_; clear n0_ n1_ n2_ n3_; (try clear hb); (try clear hb2); (try clear hk); (try clear hi); (try clear ho0); have hnb7 := NB497_501.out; have hnc7 := NB501_497.out; have hcz8_0 : w6.cell? ⟨gb497, 0, none⟩ = some (.string (⟨#[]⟩ : ByteArray)) := (blk_cell BK497.out 0).trans rfl; have hcz8_1 : w6.cell? ⟨gb497, 1, none⟩ = some (.slice none 0 0) := (blk_cell BK497.out 1).trans rfl; have hfz8_0 := blk_frozen BK497.out 0; have hfz8_1 := blk_frozen BK497.out 1; obtain ⟨Ao9, co9, eo9⟩ := Kd.R_slice HO505.out; subst eo9))
  refine bodyPost_ret (results_cell_row rfl _ _ gb497 26 #[.string t502, .slice Ao9 t503.length co9] (0, 0) _ rfl (by (with_reducible repeat (first | refine blk_drewN ?_ _ | refine blk_drew ?_ | refine blk_alloc ?_ _)); refine blk_put (cs := #[.string t502, .slice none 0 0]) ?_ 1 _ rfl; (with_reducible repeat (first | refine blk_drewN ?_ _ | refine blk_drew ?_ | refine blk_alloc ?_ _)); refine blk_put (cs := #[.string (⟨#[]⟩ : ByteArray), .slice none 0 0]) ?_ 0 _ rfl; (with_reducible repeat (first | refine blk_drewN ?_ _ | refine blk_drew ?_ | refine blk_alloc ?_ _)); exact BK497.out) Tryd.underlying26 rfl (by kernel_rfl)) rfl ?_
  exact ⟨_, by first | rfl | (simp [errW_none, errW_some] <;> rfl) | (simp [*, errW_none, errW_some] <;> rfl), by (with_reducible repeat (first | apply Kd.R_alloc | apply Kd.R_drewN | apply Kd.R_drew)); exact Kd.R_mono (Kd.R_far (p := ⟨gb497, 1, none⟩) (Kd.R_far (p := ⟨gb497, 0, none⟩) (Kd.R_types HO505.out BK497.out (by decide)) (fun _ hk => hk.2) (.string t502)) (fun _ hk => hk.2) (.slice Ao9 t503.length co9)) (fun _ hk => trivial), by repeat (first | (with_reducible first | exact HB.out | apply below_alloc | apply pw_below_drewN | apply below_drew1 | refine below_set ?_ (IsS91.ge HI501.out) | refine below_set ?_ GE497.out) | exact HB.out)⟩
def stringslite_CutSuffix.f (a0 : ByteArray) (a1 : ByteArray) : Option (ByteArray × Bool) := (stringslite_HasSuffix.f a0 a1).bind fun t508 => (if t508 = true then (if 0 ≤ (wrap64 ((a0.size : Int) - (a1.size : Int))) then (if (wrap64 ((a0.size : Int) - (a1.size : Int))) ≤ (a0.size : Int) then (some (a0.extract 0 ((wrap64 ((a0.size : Int) - (a1.size : Int))) : Int).toNat, true)) else (none)) else (none)) else (some (a0, false)))
set_option maxHeartbeats 8000000 in
set_option maxRecDepth 100000 in
theorem stringslite_CutSuffix.calls (a0 : ByteArray) (a1 : ByteArray) (r1 : ByteArray) (r2 : Bool) (w : World) (h : stringslite_CutSuffix.f a0 a1 = some (r1, r2)) :
    Calls Tryd.prog 95 #[.string a0, .string a1] w fun e w' => e = .returned (.tuple #[.string r1, .bool r2]) ∧ w = w' := by
  have H : ((stringslite_HasSuffix.f a0 a1).bind fun t508 => (if t508 = true then (if 0 ≤ (wrap64 ((a0.size : Int) - (a1.size : Int))) then (if (wrap64 ((a0.size : Int) - (a1.size : Int))) ≤ (a0.size : Int) then (some (a0.extract 0 ((wrap64 ((a0.size : Int) - (a1.size : Int))) : Int).toNat, true)) else (none)) else (none)) else (some (a0, false)))) = some (r1, r2) := h
  clear h
  replace H := Option.bind_eq_some_iff.mp H
  obtain ⟨t508, A30, H⟩ := H
  replace H : (if t508 = true then (if 0 ≤ (wrap64 ((a0.size : Int) - (a1.size : Int))) then (if (wrap64 ((a0.size : Int) - (a1.size : Int))) ≤ (a0.size : Int) then (some (a0.extract 0 ((wrap64 ((a0.size : Int) - (a1.size : Int))) : Int).toNat, true)) else (none)) else (none)) else (some (a0, false))) = some (r1, r2) := H
  have A3 := Aside0.mk A30
  clear A30
  have HS4 := Aside0.mk H
  clear H
  go_enter Tryd.func95, Tryd.ntmps95
  go_upto_if 9 with (first | ((with_reducible refine gate_callee (f := 111) rfl ?_); refine goesL_ (some 8) rfl rfl Tryd.func111 (by kernel_rfl) rfl #[.string a0, .string a1] rfl (by (try simp only [List.map_toArray, List.map_cons, List.map_nil]); first | done | rfl | (simp only [List.length_drop, List.length_take]; rfl)) ?_; (with_reducible refine (stringslite_HasSuffix.calls a0 a1 t508 _ A3.out).mono ?_); rintro e w' ⟨rfl, rfl⟩; refine ⟨_, rfl, ?_⟩))
  (try simp only [Act.put, List.setIfInBounds_toArray, List.set_cons_zero, List.set_cons_succ])
  have H := HS4.out
  clear HS4
  by_cases c5 : t508 = true
  · subst c5
    have H1 : (if 0 ≤ (wrap64 ((a0.size : Int) - (a1.size : Int))) then (if (wrap64 ((a0.size : Int) - (a1.size : Int))) ≤ (a0.size : Int) then (some (a0.extract 0 ((wrap64 ((a0.size : Int) - (a1.size : Int))) : Int).toNat, true)) else (none)) else (none)) = some (r1, r2) := by rw [if_pos rfl] at H; exact H
    clear H
    have H := H1
    clear H1
    obtain ⟨ji6, hji6⟩ : ∃ j_ : Int, (wrap64 ((a0.size : Int) - (a1.size : Int))) = j_ := ⟨_, rfl⟩
    replace H : (if 0 ≤ (ji6) then (if (ji6) ≤ (a0.size : Int) then (some (a0.extract 0 ((ji6) : Int).toNat, true)) else (none)) else (none)) = some (r1, r2) := by first | (rw [hji6] at H; exact H) | (simp only [hji6] at H ⊢; exact H)
    have hji6w : (IntKind.i64.wrap ((a0.size : Int) - (a1.size : Int))) = ji6 := (i64_w _).trans hji6
    by_cases c7 : 0 ≤ (ji6)
    · rw [if_pos c7] at H
      have c7b0 := eq_true c7
      have c7b1 : decide (0 ≤ (ji6)) = true := decide_eq_true c7
      clear c7
      by_cases c8 : (ji6) ≤ (a0.size : Int)
      · rw [if_pos c8] at H
        have c8b0 := eq_true c8
        have c8b1 : decide ((ji6) ≤ (a0.size : Int)) = true := decide_eq_true c8
        clear c8
        simp only [Option.some.injEq, Prod.mk.injEq] at H
        obtain ⟨rfl, rfl⟩ := H
        go_wp2
        go_ret2
        exact ⟨by first | rfl | (simp; done) | (simp only [← hji6] <;> (first | rfl | simp)) | (simp [*]; done), rfl⟩
      · rw [if_neg c8] at H
        exact absurd H (by simp)
    · rw [if_neg c7] at H
      exact absurd H (by simp)
  · replace c5 := Bool.eq_false_iff.mpr c5
    subst c5
    have H1 : (some (a0, false)) = some (r1, r2) := by rw [if_neg (show ¬ (false = true) by decide)] at H; exact H
    clear H
    have H := H1
    clear H1
    simp only [Option.some.injEq, Prod.mk.injEq] at H
    obtain ⟨rfl, rfl⟩ := H
    go_wp2
    go_ret2
    exact ⟨by first | rfl | (simp; done) | (simp [*]; done), rfl⟩
def strings_CutSuffix.f (a0 : ByteArray) (a1 : ByteArray) : Option (ByteArray × Bool) := (stringslite_CutSuffix.f a0 a1).bind fun bt509 => (some (bt509.1, bt509.2))
set_option maxHeartbeats 8000000 in
set_option maxRecDepth 100000 in
theorem strings_CutSuffix.calls (a0 : ByteArray) (a1 : ByteArray) (r1 : ByteArray) (r2 : Bool) (w : World) (h : strings_CutSuffix.f a0 a1 = some (r1, r2)) :
    Calls Tryd.prog 70 #[.string a0, .string a1] w fun e w' => e = .returned (.tuple #[.string r1, .bool r2]) ∧ w = w' := by
  have H : ((stringslite_CutSuffix.f a0 a1).bind fun bt509 => (some (bt509.1, bt509.2))) = some (r1, r2) := h
  clear h
  replace H := Option.bind_eq_some_iff.mp H
  obtain ⟨⟨t509, t510⟩, A30, H⟩ := H
  replace H : (some (t509, t510)) = some (r1, r2) := H
  have A3 := Aside0.mk A30
  clear A30
  simp only [Option.some.injEq, Prod.mk.injEq] at H
  obtain ⟨rfl, rfl⟩ := H
  go_enter Tryd.func70, Tryd.ntmps70
  go_wp2_with (first | ((with_reducible refine gate_callee (f := 95) rfl ?_); refine goesL_ (some 8) rfl rfl Tryd.func95 (by kernel_rfl) rfl #[.string a0, .string a1] rfl (by (try simp only [List.map_toArray, List.map_cons, List.map_nil]); first | done | rfl | (simp only [List.length_drop, List.length_take]; rfl)) ?_; (with_reducible refine (stringslite_CutSuffix.calls a0 a1 t509 t510 _ A3.out).mono ?_); rintro e w' ⟨rfl, rfl⟩; refine ⟨_, rfl, ?_⟩))
  go_ret2
  exact ⟨by first | rfl | (simp; done) | (simp [*]; done), rfl⟩
def impl_TargetOf.f (k : Nat) (a0_0 : ByteArray) (l0_1 : List (S40)) : Option (ByteArray × Bool) := (strings_CutPrefix.f a0_0 (⟨#[71, 69, 84, 32]⟩ : ByteArray)).bind fun bt512 => ((strings_CutSuffix.f bt512.1 (⟨#[32, 72, 84, 84, 80, 47, 49, 46, 49]⟩ : ByteArray)).bind fun bt514 => (if bt512.2 = true then (if bt514.2 = true then ((impl_within.f (bt514.1.size : Int) 1 20).bind fun t516 => (if t516 = true then ((impl_bytesIn.f k bt514.1 33 126).bind fun t517 => (if t517 = true then (if 0 < (bt514.1.size : Int) then (if (bt bt514.1 0) = 47 then (some (bt514.1, true)) else (some ((⟨#[]⟩ : ByteArray), false))) else (none)) else (some ((⟨#[]⟩ : ByteArray), false)))) else (some ((⟨#[]⟩ : ByteArray), false)))) else (some ((⟨#[]⟩ : ByteArray), false))) else (some ((⟨#[]⟩ : ByteArray), false))))
set_option maxHeartbeats 8000000 in
set_option maxRecDepth 100000 in
theorem impl_TargetOf.calls (k : Nat) (a0_0 : ByteArray) (A0_1 : Option Addr) (c0_1 : Nat) (l0_1 : List (S40)) (r1 : ByteArray) (r2 : Bool) (w : World) (hr0_1 : Kd.C k40 w A0_1 l0_1.length l0_1) (hc0_1 : l0_1.length ≤ c0_1) (h : impl_TargetOf.f k a0_0 l0_1 = some (r1, r2)) :
    Calls Tryd.prog 34 #[.agg #[.string a0_0, .slice A0_1 l0_1.length c0_1]] w fun e w' => e = .returned (.tuple #[.string r1, .bool r2]) ∧ Below w.heap.size w w' := by
  have hu26 := Tryd.underlying26
  have HR0_1 := Aside0.mk hr0_1
  have HC0_1 := Aside0.mk hc0_1
  clear hr0_1 hc0_1
  have HB := Aside0.mk (Below.refl w.heap.size w)
  have H : ((strings_CutPrefix.f a0_0 (⟨#[71, 69, 84, 32]⟩ : ByteArray)).bind fun bt512 => ((strings_CutSuffix.f bt512.1 (⟨#[32, 72, 84, 84, 80, 47, 49, 46, 49]⟩ : ByteArray)).bind fun bt514 => (if bt512.2 = true then (if bt514.2 = true then ((impl_within.f (bt514.1.size : Int) 1 20).bind fun t516 => (if t516 = true then ((impl_bytesIn.f k bt514.1 33 126).bind fun t517 => (if t517 = true then (if 0 < (bt514.1.size : Int) then (if (bt bt514.1 0) = 47 then (some (bt514.1, true)) else (some ((⟨#[]⟩ : ByteArray), false))) else (none)) else (some ((⟨#[]⟩ : ByteArray), false)))) else (some ((⟨#[]⟩ : ByteArray), false)))) else (some ((⟨#[]⟩ : ByteArray), false))) else (some ((⟨#[]⟩ : ByteArray), false))))) = some (r1, r2) := h
  clear h
  replace H := Option.bind_eq_some_iff.mp H
  obtain ⟨⟨t512, t513⟩, A20, H⟩ := H
  replace H : ((strings_CutSuffix.f t512 (⟨#[32, 72, 84, 84, 80, 47, 49, 46, 49]⟩ : ByteArray)).bind fun bt514 => (if t513 = true then (if bt514.2 = true then ((impl_within.f (bt514.1.size : Int) 1 20).bind fun t516 => (if t516 = true then ((impl_bytesIn.f k bt514.1 33 126).bind fun t517 => (if t517 = true then (if 0 < (bt514.1.size : Int) then (if (bt bt514.1 0) = 47 then (some (bt514.1, true)) else (some ((⟨#[]⟩ : ByteArray), false))) else (none)) else (some ((⟨#[]⟩ : ByteArray), false)))) else (some ((⟨#[]⟩ : ByteArray), false)))) else (some ((⟨#[]⟩ : ByteArray), false))) else (some ((⟨#[]⟩ : ByteArray), false)))) = some (r1, r2) := H
  have A2 := Aside0.mk A20
  clear A20
  replace H := Option.bind_eq_some_iff.mp H
  obtain ⟨⟨t514, t515⟩, A30, H⟩ := H
  replace H : (if t513 = true then (if t515 = true then ((impl_within.f (t514.size : Int) 1 20).bind fun t516 => (if t516 = true then ((impl_bytesIn.f k t514 33 126).bind fun t517 => (if t517 = true then (if 0 < (t514.size : Int) then (if (bt t514 0) = 47 then (some (t514, true)) else (some ((⟨#[]⟩ : ByteArray), false))) else (none)) else (some ((⟨#[]⟩ : ByteArray), false)))) else (some ((⟨#[]⟩ : ByteArray), false)))) else (some ((⟨#[]⟩ : ByteArray), false))) else (some ((⟨#[]⟩ : ByteArray), false))) = some (r1, r2) := H
  have A3 := Aside0.mk A30
  clear A30
  have HS4 := Aside0.mk H
  clear H
  go_enter Tryd.func34, Tryd.ntmps34
  go_upto_region 3 with (first | ((with_reducible refine gate_dst (N := 1) rfl ?_); (try (refine gate_guard (by rfl) ?_; dsimp only)); refine box_event ?hg (N := 1) ?hd (cs := #[.string a0_0, .slice A0_1 l0_1.length c0_1]) (t := 26) ?hr ?_; (case hd => rfl); (case hg => rfl); (case hr => first | (go_simp; done) | (go_simp; rfl)); intro gb511 hg w5 hbox hb; have n0_ := Aside0.mk (below_step (by repeat (first | (with_reducible first | exact HB.out | apply below_alloc | apply pw_below_drewN | apply below_drew1) | exact HB.out)) hb); have n1_ := Aside0.mk (hbox); have n2_ := Aside0.mk ((by rw [hg]; exact (below_size (by repeat (first | (with_reducible first | exact HB.out | apply below_alloc | apply pw_below_drewN | apply below_drew1) | exact HB.out))) : w.heap.size ≤ gb511)); have n3_ := Aside0.mk ((by rw [hg]; exact (below_size (by repeat (first | (with_reducible first | exact HB.out | apply below_alloc | apply pw_below_drewN | apply below_drew1) | exact HB.out))) : w.heap.size ≤ gb511)); clear HB; have HB := n0_; have BK511 := n1_; have GW511 := n2_; have GE511 := n3_; clear n0_ n1_ n2_ n3_; clear hb hbox hg; have hcz6_0 : w5.cell? ⟨gb511, 0, none⟩ = some (.string a0_0) := (blk_cell BK511.out 0).trans rfl; have hcz6_1 : w5.cell? ⟨gb511, 1, none⟩ = some (.slice A0_1 l0_1.length c0_1) := (blk_cell BK511.out 1).trans rfl; have hfz6_0 := blk_frozen BK511.out 0; have hfz6_1 := blk_frozen BK511.out 1) | ((with_reducible refine gate_callee (f := 66) rfl ?_); refine goesL_ (some 11) rfl rfl Tryd.func66 (by kernel_rfl) rfl #[.string a0_0, .string (⟨#[71, 69, 84, 32]⟩ : ByteArray)] rfl (by (try simp only [List.map_toArray, List.map_cons, List.map_nil]); first | done | rfl | (simp only [List.length_drop, List.length_take]; rfl)) ?_; (with_reducible refine (strings_CutPrefix.calls a0_0 (⟨#[71, 69, 84, 32]⟩ : ByteArray) t512 t513 _ A2.out).mono ?_); rintro e w' ⟨rfl, rfl⟩; refine ⟨_, rfl, ?_⟩) | ((with_reducible refine gate_callee (f := 70) rfl ?_); refine goesL_ (some 16) rfl rfl Tryd.func70 (by kernel_rfl) rfl #[.string t512, .string (⟨#[32, 72, 84, 84, 80, 47, 49, 46, 49]⟩ : ByteArray)] rfl (by (try simp only [List.map_toArray, List.map_cons, List.map_nil]); first | done | rfl | (simp only [List.length_drop, List.length_take]; rfl)) ?_; (with_reducible refine (strings_CutSuffix.calls t512 (⟨#[32, 72, 84, 84, 80, 47, 49, 46, 49]⟩ : ByteArray) t514 t515 _ A3.out).mono ?_); rintro e w' ⟨rfl, rfl⟩; refine ⟨_, rfl, ?_⟩))
  (try simp only [Act.put, List.setIfInBounds_toArray, List.set_cons_zero, List.set_cons_succ])
  have H := HS4.out
  clear HS4
  by_cases c7 : t513 = true
  · subst c7
    have H1 : (if t515 = true then ((impl_within.f (t514.size : Int) 1 20).bind fun t516 => (if t516 = true then ((impl_bytesIn.f k t514 33 126).bind fun t517 => (if t517 = true then (if 0 < (t514.size : Int) then (if (bt t514 0) = 47 then (some (t514, true)) else (some ((⟨#[]⟩ : ByteArray), false))) else (none)) else (some ((⟨#[]⟩ : ByteArray), false)))) else (some ((⟨#[]⟩ : ByteArray), false)))) else (some ((⟨#[]⟩ : ByteArray), false))) = some (r1, r2) := by rw [if_pos rfl] at H; exact H
    clear H
    have H := H1
    clear H1
    by_cases c8 : t515 = true
    · subst c8
      have H1 : ((impl_within.f (t514.size : Int) 1 20).bind fun t516 => (if t516 = true then ((impl_bytesIn.f k t514 33 126).bind fun t517 => (if t517 = true then (if 0 < (t514.size : Int) then (if (bt t514 0) = 47 then (some (t514, true)) else (some ((⟨#[]⟩ : ByteArray), false))) else (none)) else (some ((⟨#[]⟩ : ByteArray), false)))) else (some ((⟨#[]⟩ : ByteArray), false)))) = some (r1, r2) := by rw [if_pos rfl] at H; exact H
      clear H
      have H := H1
      clear H1
      replace H := Option.bind_eq_some_iff.mp H
      obtain ⟨t516, A90, H⟩ := H
      replace H : (if t516 = true then ((impl_bytesIn.f k t514 33 126).bind fun t517 => (if t517 = true then (if 0 < (t514.size : Int) then (if (bt t514 0) = 47 then (some (t514, true)) else (some ((⟨#[]⟩ : ByteArray), false))) else (none)) else (some ((⟨#[]⟩ : ByteArray), false)))) else (some ((⟨#[]⟩ : ByteArray), false))) = some (r1, r2) := H
      have A9 := Aside0.mk A90
      clear A90
      by_cases c10 : t516 = true
      · subst c10
        have H1 : ((impl_bytesIn.f k t514 33 126).bind fun t517 => (if t517 = true then (if 0 < (t514.size : Int) then (if (bt t514 0) = 47 then (some (t514, true)) else (some ((⟨#[]⟩ : ByteArray), false))) else (none)) else (some ((⟨#[]⟩ : ByteArray), false)))) = some (r1, r2) := by rw [if_pos rfl] at H; exact H
        clear H
        have H := H1
        clear H1
        replace H := Option.bind_eq_some_iff.mp H
        obtain ⟨t517, A110, H⟩ := H
        replace H : (if t517 = true then (if 0 < (t514.size : Int) then (if (bt t514 0) = 47 then (some (t514, true)) else (some ((⟨#[]⟩ : ByteArray), false))) else (none)) else (some ((⟨#[]⟩ : ByteArray), false))) = some (r1, r2) := H
        have A11 := Aside0.mk A110
        clear A110
        by_cases c12 : t517 = true
        · subst c12
          have H1 : (if 0 < (t514.size : Int) then (if (bt t514 0) = 47 then (some (t514, true)) else (some ((⟨#[]⟩ : ByteArray), false))) else (none)) = some (r1, r2) := by rw [if_pos rfl] at H; exact H
          clear H
          have H := H1
          clear H1
          by_cases c13 : 0 < (t514.size : Int)
          · rw [if_pos c13] at H
            have c13b0 : decide (0 < (t514.size : Int)) = true := decide_eq_true c13
            have c13b1 : decide (0 < t514.size) = true := decide_eq_true (by omega)
            clear c13
            have HS15 := Aside0.mk H
            clear H
            go_upto_if 40 with (first | (go_at_call 68; (with_reducible refine (impl_within.calls (t514.size : Int) 1 20 true _ A9.out).mono ?_); rintro e w' ⟨rfl, rfl⟩) | (go_at_call 59; (with_reducible refine (impl_bytesIn.calls k t514 33 126 true _ A11.out).mono ?_); rintro e w' ⟨rfl, ⟨nd, rfl⟩⟩; have p14 : 0 ≤ (0 : Int) := (by omega); have q14 : 0 < t514.size := (by have : (0 : Int) < (t514.size : Int) := of_decide_eq_true (by first | (with_reducible assumption) | assumption); omega); have hx14 : ∀ h : 0 < t514.size, ((t514[0]'h).toNat : Int) = bt t514 0 := bt_at t514 0; clear p14; have qi14 : (0 < (t514.size : Int)) = True := eq_true (of_decide_eq_true (by first | (with_reducible assumption) | assumption)); replace q14 := eq_true q14))
            (try simp only [Act.put, List.setIfInBounds_toArray, List.set_cons_zero, List.set_cons_succ])
            have H := HS15.out
            clear HS15
            by_cases c16 : (bt t514 0) = 47
            · rw [if_pos c16] at H
              have c16b0 : ((bt t514 0) == 47) = true := beq_iff_eq.mpr c16
              have c16b1 : ((bt t514 0) != 47) = false := bne_eq_false_iff_eq.mpr c16
              clear c16
              (first | rw [c16b0] | (simp only [i64_w, i32_w]; rw [c16b0]) | skip)
              simp only [Option.some.injEq, Prod.mk.injEq] at H
              obtain ⟨rfl, rfl⟩ := H
              go_wp2
              go_ret2
              exact ⟨by first | rfl | (simp [errW_none, errW_some] <;> rfl) | (simp [*, errW_none, errW_some] <;> rfl), by repeat (first | (with_reducible first | exact HB.out | apply below_alloc | apply pw_below_drewN | apply below_drew1 | refine below_set ?_ GE511.out) | exact HB.out)⟩
            · rw [if_neg c16] at H
              have c16b0 : ((bt t514 0) == 47) = false := beq_eq_false_iff_ne.mpr c16
              have c16b1 : ((bt t514 0) != 47) = true := bne_iff_ne.mpr c16
              (first | rw [c16b0] | (simp only [i64_w, i32_w]; rw [c16b0]) | skip)
              simp only [Option.some.injEq, Prod.mk.injEq] at H
              obtain ⟨rfl, rfl⟩ := H
              go_wp2
              go_ret2
              exact ⟨by first | rfl | (simp [errW_none, errW_some] <;> rfl) | (simp [*, errW_none, errW_some] <;> rfl), by repeat (first | (with_reducible first | exact HB.out | apply below_alloc | apply pw_below_drewN | apply below_drew1 | refine below_set ?_ GE511.out) | exact HB.out)⟩
          · rw [if_neg c13] at H
            exact absurd H (by simp)
        · replace c12 := Bool.eq_false_iff.mpr c12
          subst c12
          have H1 : (some ((⟨#[]⟩ : ByteArray), false)) = some (r1, r2) := by rw [if_neg (show ¬ (false = true) by decide)] at H; exact H
          clear H
          have H := H1
          clear H1
          simp only [Option.some.injEq, Prod.mk.injEq] at H
          obtain ⟨rfl, rfl⟩ := H
          go_wp2_with (first | (go_at_call 68; (with_reducible refine (impl_within.calls (t514.size : Int) 1 20 true _ A9.out).mono ?_); rintro e w' ⟨rfl, rfl⟩) | (go_at_call 59; (with_reducible refine (impl_bytesIn.calls k t514 33 126 false _ A11.out).mono ?_); rintro e w' ⟨rfl, ⟨nd, rfl⟩⟩))
          go_ret2
          exact ⟨by first | rfl | (simp [errW_none, errW_some] <;> rfl) | (simp [*, errW_none, errW_some] <;> rfl), by repeat (first | (with_reducible first | exact HB.out | apply below_alloc | apply pw_below_drewN | apply below_drew1 | refine below_set ?_ GE511.out) | exact HB.out)⟩
      · replace c10 := Bool.eq_false_iff.mpr c10
        subst c10
        have H1 : (some ((⟨#[]⟩ : ByteArray), false)) = some (r1, r2) := by rw [if_neg (show ¬ (false = true) by decide)] at H; exact H
        clear H
        have H := H1
        clear H1
        simp only [Option.some.injEq, Prod.mk.injEq] at H
        obtain ⟨rfl, rfl⟩ := H
        go_wp2_with (first | (go_at_call 68; (with_reducible refine (impl_within.calls (t514.size : Int) 1 20 false _ A9.out).mono ?_); rintro e w' ⟨rfl, rfl⟩))
        go_ret2
        exact ⟨by first | rfl | (simp [errW_none, errW_some] <;> rfl) | (simp [*, errW_none, errW_some] <;> rfl), by repeat (first | (with_reducible first | exact HB.out | apply below_alloc | apply pw_below_drewN | apply below_drew1 | refine below_set ?_ GE511.out) | exact HB.out)⟩
    · replace c8 := Bool.eq_false_iff.mpr c8
      subst c8
      have H1 : (some ((⟨#[]⟩ : ByteArray), false)) = some (r1, r2) := by rw [if_neg (show ¬ (false = true) by decide)] at H; exact H
      clear H
      have H := H1
      clear H1
      simp only [Option.some.injEq, Prod.mk.injEq] at H
      obtain ⟨rfl, rfl⟩ := H
      go_wp2
      go_ret2
      exact ⟨by first | rfl | (simp [errW_none, errW_some] <;> rfl) | (simp [*, errW_none, errW_some] <;> rfl), by repeat (first | (with_reducible first | exact HB.out | apply below_alloc | apply pw_below_drewN | apply below_drew1 | refine below_set ?_ GE511.out) | exact HB.out)⟩
  · replace c7 := Bool.eq_false_iff.mpr c7
    subst c7
    have H1 : (some ((⟨#[]⟩ : ByteArray), false)) = some (r1, r2) := by rw [if_neg (show ¬ (false = true) by decide)] at H; exact H
    clear H
    have H := H1
    clear H1
    simp only [Option.some.injEq, Prod.mk.injEq] at H
    obtain ⟨rfl, rfl⟩ := H
    go_wp2
    go_ret2
    exact ⟨by first | rfl | (simp [errW_none, errW_some] <;> rfl) | (simp [*, errW_none, errW_some] <;> rfl), by repeat (first | (with_reducible first | exact HB.out | apply below_alloc | apply pw_below_drewN | apply below_drew1 | refine below_set ?_ GE511.out) | exact HB.out)⟩
mutual
def spec_TargetOf.j0 : Nat → ByteArray → Bool → Option (ByteArray × Bool)
  | 0, _, _ => none
  | k + 1, x4, x24 => if x24 = true then (some ((⟨#[]⟩ : ByteArray), false)) else (if 4 ≤ (wrap64 ((x4.size : Int) - 9)) then (if (wrap64 ((x4.size : Int) - 9)) ≤ (x4.size : Int) then (spec_TargetOf.l0 k (x4.extract 4 ((wrap64 ((x4.size : Int) - 9)) : Int).toNat) 0) else (none)) else (none))
def spec_TargetOf.l0 : Nat → ByteArray → Int → Option (ByteArray × Bool)
  | 0, _, _ => none
  | k + 1, x5, x6 => if x6 < (x5.size : Int) then (if 0 ≤ x6 then (if (bt x5 x6) < 33 then (some ((⟨#[]⟩ : ByteArray), false)) else (if (bt x5 x6) > 126 then (some ((⟨#[]⟩ : ByteArray), false)) else (spec_TargetOf.l0 k x5 (wrap64 (x6 + 1))))) else (none)) else ((spec_l01In.f (x5.size : Int) 1 20).bind fun t519 => (if t519 = true then (if 0 < (x5.size : Int) then (if (bt x5 0) = 47 then (some (x5, true)) else (some ((⟨#[]⟩ : ByteArray), false))) else (none)) else (some ((⟨#[]⟩ : ByteArray), false))))
end
def spec_TargetOf.f (k : Nat) (a0_0 : ByteArray) (l0_1 : List (S40)) : Option (ByteArray × Bool) := if (a0_0.size : Int) < 14 then (spec_TargetOf.j0 k a0_0 true) else (if 4 ≤ (a0_0.size : Int) then (if (a0_0.extract 0 4).toList = ([71, 69, 84, 32] : List UInt8) then (if 0 ≤ (wrap64 ((a0_0.size : Int) - 9)) then (if (wrap64 ((a0_0.size : Int) - 9)) ≤ (a0_0.size : Int) then (spec_TargetOf.j0 k a0_0 ((a0_0.extract ((wrap64 ((a0_0.size : Int) - 9)) : Int).toNat a0_0.size).toList != ([32, 72, 84, 84, 80, 47, 49, 46, 49] : List UInt8))) else (none)) else (none)) else (spec_TargetOf.j0 k a0_0 true)) else (none))
set_option maxHeartbeats 8000000 in
set_option maxRecDepth 100000 in
theorem spec_TargetOf.calls (k : Nat) (a0_0 : ByteArray) (A0_1 : Option Addr) (c0_1 : Nat) (l0_1 : List (S40)) (r1 : ByteArray) (r2 : Bool) (w : World) (hr0_1 : Kd.C k40 w A0_1 l0_1.length l0_1) (hc0_1 : l0_1.length ≤ c0_1) (h : spec_TargetOf.f k a0_0 l0_1 = some (r1, r2)) :
    Calls Tryd.prog 35 #[.agg #[.string a0_0, .slice A0_1 l0_1.length c0_1]] w fun e w' => e = .returned (.tuple #[.string r1, .bool r2]) ∧ Below w.heap.size w w' := by
  have hu26 := Tryd.underlying26
  have HR0_1 := Aside0.mk hr0_1
  have HC0_1 := Aside0.mk hc0_1
  clear hr0_1 hc0_1
  have HB := Aside0.mk (Below.refl w.heap.size w)
  have H : (if (a0_0.size : Int) < 14 then (spec_TargetOf.j0 k a0_0 true) else (if 4 ≤ (a0_0.size : Int) then (if (a0_0.extract 0 4).toList = ([71, 69, 84, 32] : List UInt8) then (if 0 ≤ (wrap64 ((a0_0.size : Int) - 9)) then (if (wrap64 ((a0_0.size : Int) - 9)) ≤ (a0_0.size : Int) then (spec_TargetOf.j0 k a0_0 ((a0_0.extract ((wrap64 ((a0_0.size : Int) - 9)) : Int).toNat a0_0.size).toList != ([32, 72, 84, 84, 80, 47, 49, 46, 49] : List UInt8))) else (none)) else (none)) else (spec_TargetOf.j0 k a0_0 true)) else (none))) = some (r1, r2) := h
  clear h
  have HC2 := Aside0.mk H
  clear H
  go_enter Tryd.func35, Tryd.ntmps35
  go_upto_region 2 with (first | ((with_reducible refine gate_dst (N := 1) rfl ?_); (try (refine gate_guard (by rfl) ?_; dsimp only)); refine box_event ?hg (N := 1) ?hd (cs := #[.string a0_0, .slice A0_1 l0_1.length c0_1]) (t := 26) ?hr ?_; (case hd => rfl); (case hg => rfl); (case hr => first | (go_simp; done) | (go_simp; rfl)); intro gb518 hg w3 hbox hb; have n0_ := Aside0.mk (below_step (by repeat (first | (with_reducible first | exact HB.out | apply below_alloc | apply pw_below_drewN | apply below_drew1) | exact HB.out)) hb); have n1_ := Aside0.mk (hbox); have n2_ := Aside0.mk ((by rw [hg]; exact (below_size (by repeat (first | (with_reducible first | exact HB.out | apply below_alloc | apply pw_below_drewN | apply below_drew1) | exact HB.out))) : w.heap.size ≤ gb518)); have n3_ := Aside0.mk ((by rw [hg]; exact (below_size (by repeat (first | (with_reducible first | exact HB.out | apply below_alloc | apply pw_below_drewN | apply below_drew1) | exact HB.out))) : w.heap.size ≤ gb518)); clear HB; have HB := n0_; have BK518 := n1_; have GW518 := n2_; have GE518 := n3_; clear n0_ n1_ n2_ n3_; clear hb hbox hg; have hcz4_0 : w3.cell? ⟨gb518, 0, none⟩ = some (.string a0_0) := (blk_cell BK518.out 0).trans rfl; have hcz4_1 : w3.cell? ⟨gb518, 1, none⟩ = some (.slice A0_1 l0_1.length c0_1) := (blk_cell BK518.out 1).trans rfl; have hfz4_0 := blk_frozen BK518.out 0; have hfz4_1 := blk_frozen BK518.out 1))
  (try simp only [Act.put, List.setIfInBounds_toArray, List.set_cons_zero, List.set_cons_succ])
  go_cut [24] (fun v24 wc => ∃ (kq : Nat) (x24_1 : Bool), v24 = .bool x24_1 ∧ Aside0 (spec_TargetOf.j0 kq a0_0 x24_1 = some (r1, r2)) ∧ Aside0 (kq ≤ k) ∧ Aside0 (wc.heap[gb518]? = some (.cells #[.string a0_0, (.slice A0_1 l0_1.length c0_1)] 26 (0, 0))) ∧ Aside0 (Below w.heap.size w wc))
  case first =>
    have H := HC2.out
    clear HC2
    by_cases c5 : (a0_0.size : Int) < 14
    · rw [if_pos c5] at H
      have c5b0 : decide ((a0_0.size : Int) < 14) = true := decide_eq_true c5
      have c5b1 : decide (a0_0.size < 14) = true := decide_eq_true (by omega)
      clear c5
      (first | rw [c5b0] | (simp only [i64_w, i32_w]; rw [c5b0]) | skip)
      have H' := Aside0.mk H
      clear H
      go_wp2
      go_meet
      case rel => exact ⟨_, (true), (by first | rfl | (simp; done) | (simp [*]; done)), H', ⟨by first | omega | exact Nat.le_refl _⟩, ⟨by (with_reducible repeat (first | refine blk_drewN ?_ _ | refine blk_drew ?_ | refine blk_alloc ?_ _)); exact BK518.out⟩, ⟨by repeat (first | (with_reducible first | exact HB.out | apply below_alloc | apply pw_below_drewN | apply below_drew1 | refine below_set ?_ GE518.out) | exact HB.out)⟩⟩
    · rw [if_neg c5] at H
      have c5b0 : decide ((a0_0.size : Int) < 14) = false := decide_eq_false c5
      have c5b1 : decide (a0_0.size < 14) = false := decide_eq_false (by omega)
      clear c5
      (first | rw [c5b0] | (simp only [i64_w, i32_w]; rw [c5b0]) | skip)
      by_cases c6 : 4 ≤ (a0_0.size : Int)
      · rw [if_pos c6] at H
        have c6b0 := eq_true c6
        have c6b1 : decide (4 ≤ (a0_0.size : Int)) = true := decide_eq_true c6
        clear c6
        by_cases c7 : (a0_0.extract 0 4).toList = ([71, 69, 84, 32] : List UInt8)
        · rw [if_pos c7] at H
          have c7b0 : ((a0_0.extract 0 4).toList == ([71, 69, 84, 32] : List UInt8)) = true := beq_iff_eq.mpr c7
          have c7b1 : ((a0_0.extract 0 4).toList != ([71, 69, 84, 32] : List UInt8)) = false := bne_eq_false_iff_eq.mpr c7
          clear c7
          obtain ⟨ji8, hji8⟩ : ∃ j_ : Int, (wrap64 ((a0_0.size : Int) - 9)) = j_ := ⟨_, rfl⟩
          replace H : (if 0 ≤ (ji8) then (if (ji8) ≤ (a0_0.size : Int) then (spec_TargetOf.j0 k a0_0 ((a0_0.extract ((ji8) : Int).toNat a0_0.size).toList != ([32, 72, 84, 84, 80, 47, 49, 46, 49] : List UInt8))) else (none)) else (none)) = some (r1, r2) := by first | (rw [hji8] at H; exact H) | (simp only [hji8] at H ⊢; exact H)
          have hji8w : (IntKind.i64.wrap ((a0_0.size : Int) - 9)) = ji8 := (i64_w _).trans hji8
          by_cases c9 : 0 ≤ (ji8)
          · rw [if_pos c9] at H
            have c9b0 := eq_true c9
            have c9b1 : decide (0 ≤ (ji8)) = true := decide_eq_true c9
            clear c9
            by_cases c10 : (ji8) ≤ (a0_0.size : Int)
            · rw [if_pos c10] at H
              have c10b0 := eq_true c10
              have c10b1 : decide ((ji8) ≤ (a0_0.size : Int)) = true := decide_eq_true c10
              clear c10
              have H' := Aside0.mk H
              clear H
              go_wp2
              go_meet
              case rel => exact ⟨_, (((a0_0.extract ((ji8) : Int).toNat a0_0.size).toList != ([32, 72, 84, 84, 80, 47, 49, 46, 49] : List UInt8))), (by first | rfl | (simp; done) | (simp only [← hji8] <;> (first | rfl | simp)) | (simp [*]; done)), H', ⟨by first | omega | exact Nat.le_refl _⟩, ⟨by (with_reducible repeat (first | refine blk_drewN ?_ _ | refine blk_drew ?_ | refine blk_alloc ?_ _)); exact BK518.out⟩, ⟨by repeat (first | (with_reducible first | exact HB.out | apply below_alloc | apply pw_below_drewN | apply below_drew1 | refine below_set ?_ GE518.out) | exact HB.out)⟩⟩
            · rw [if_neg c10] at H
              exact absurd H (by simp)
          · rw [if_neg c9] at H
            exact absurd H (by simp)
        · rw [if_neg c7] at H
          have c7b0 : ((a0_0.extract 0 4).toList == ([71, 69, 84, 32] : List UInt8)) = false := beq_eq_false_iff_ne.mpr c7
          have c7b1 : ((a0_0.extract 0 4).toList != ([71, 69, 84, 32] : List UInt8)) = true := bne_iff_ne.mpr c7
          have H' := Aside0.mk H
          clear H
          go_wp2
          go_meet
          case rel => exact ⟨_, (true), (by first | rfl | (simp; done) | (simp [*]; done)), H', ⟨by first | omega | exact Nat.le_refl _⟩, ⟨by (with_reducible repeat (first | refine blk_drewN ?_ _ | refine blk_drew ?_ | refine blk_alloc ?_ _)); exact BK518.out⟩, ⟨by repeat (first | (with_reducible first | exact HB.out | apply below_alloc | apply pw_below_drewN | apply below_drew1 | refine below_set ?_ GE518.out) | exact HB.out)⟩⟩
      · rw [if_neg c6] at H
        exact absurd H (by simp)
  case rest =>
    clear HC2
    try clear c1
    try clear p2
    try clear c3
    try clear c5
    try clear c5b0
    try clear c5b1
    try clear c6
    try clear c6b0
    try clear c6b1
    try clear p6
    try clear c7
    try clear c7b0
    try clear c7b1
    try clear c9
    try clear c9b0
    try clear c9b1
    try clear c10
    try clear c10b0
    try clear c10b1
    try clear hcz4_0
    try clear hcz4_1
    try clear hfz4_0
    try clear hfz4_1
    obtain ⟨kq, x24_1, rfl, HA, HJ1, BK518, HB⟩ := hcut
    cases kq with
    | zero => exact absurd HA.out (by simp [spec_TargetOf.j0])
    | succ kj1 =>
      have H := HA.out
      clear HA
      simp only [spec_TargetOf.j0] at H
      by_cases c11 : x24_1 = true
      · subst c11
        have H1 : (some ((⟨#[]⟩ : ByteArray), false)) = some (r1, r2) := by rw [if_pos rfl] at H; exact H
        clear H
        have H := H1
        clear H1
        simp only [Option.some.injEq, Prod.mk.injEq] at H
        obtain ⟨rfl, rfl⟩ := H
        go_wp2
        go_ret2
        exact ⟨by first | rfl | (simp [errW_none, errW_some] <;> rfl) | (simp [*, errW_none, errW_some] <;> rfl), by repeat (first | (with_reducible first | exact HB.out | apply below_alloc | apply pw_below_drewN | apply below_drew1 | refine below_set ?_ GE518.out) | exact HB.out)⟩
      · replace c11 := Bool.eq_false_iff.mpr c11
        subst c11
        have H1 : (if 4 ≤ (wrap64 ((a0_0.size : Int) - 9)) then (if (wrap64 ((a0_0.size : Int) - 9)) ≤ (a0_0.size : Int) then (spec_TargetOf.l0 kj1 (a0_0.extract 4 ((wrap64 ((a0_0.size : Int) - 9)) : Int).toNat) 0) else (none)) else (none)) = some (r1, r2) := by rw [if_neg (show ¬ (false = true) by decide)] at H; exact H
        clear H
        have H := H1
        clear H1
        by_cases c12 : 4 ≤ (wrap64 ((a0_0.size : Int) - 9))
        · rw [if_pos c12] at H
          have c12b0 := eq_true c12
          have c12b1 : decide (4 ≤ (wrap64 ((a0_0.size : Int) - 9))) = true := decide_eq_true c12
          clear c12
          by_cases c13 : (wrap64 ((a0_0.size : Int) - 9)) ≤ (a0_0.size : Int)
          · rw [if_pos c13] at H
            have c13b0 := eq_true c13
            have c13b1 : decide ((wrap64 ((a0_0.size : Int) - 9)) ≤ (a0_0.size : Int)) = true := decide_eq_true c13
            clear c13
            have H' := Aside0.mk H
            clear H
            go_wp2
            generalize hg_gs14 : a0_0.extract 4 ((wrap64 ((a0_0.size : Int) - 9)) : Int).toNat = gs14 at H' ⊢
            clear hg_gs14
            go_loopg [6] kj1 (fun kq v6 w' => ∃ (x6_2 : Int), v6 = .int .i64 x6_2 ∧ Aside0 (spec_TargetOf.l0 kq gs14 x6_2 = some (r1, r2)) ∧ Aside0 (kq ≤ kj1) ∧ Aside0 (w'.heap[gb518]? = some (.cells #[.string a0_0, (.slice A0_1 l0_1.length c0_1)] 26 (0, 0))) ∧ Aside0 (Below w.heap.size w w'))
            case atStart => exact ⟨(0), (by first | rfl | (simp; done) | (simp [*]; done)), H', ⟨Nat.le_refl _⟩, ⟨by (with_reducible repeat (first | refine blk_drewN ?_ _ | refine blk_drew ?_ | refine blk_alloc ?_ _)); exact BK518.out⟩, ⟨by repeat (first | (with_reducible first | exact HB.out | apply below_alloc | apply pw_below_drewN | apply below_drew1 | refine below_set ?_ GE518.out) | exact HB.out)⟩⟩
            case round =>
              clear H'
              try clear c1
              try clear p2
              try clear c3
              try clear c5
              try clear c5b0
              try clear c5b1
              try clear c6
              try clear c6b0
              try clear c6b1
              try clear p6
              try clear c7
              try clear c7b0
              try clear c7b1
              try clear c9
              try clear c9b0
              try clear c9b1
              try clear c10
              try clear c10b0
              try clear c10b1
              try clear c11
              try clear c12
              try clear c12b0
              try clear c12b1
              try clear c13
              try clear c13b0
              try clear c13b1
              try clear hcz4_0
              try clear hcz4_1
              try clear hfz4_0
              try clear hfz4_1
              try clear p2
              try clear p6
              obtain ⟨x6_2, rfl, HA, HK2, BK518, HB⟩ := hrel
              cases gk with
              | zero => exact absurd HA.out (by simp [spec_TargetOf.l0])
              | succ k2 =>
                have H := HA.out
                clear HA
                simp only [spec_TargetOf.l0] at H
                by_cases c15 : x6_2 < (gs14.size : Int)
                · rw [if_pos c15] at H
                  have c15b0 : decide (x6_2 < (gs14.size : Int)) = true := decide_eq_true c15
                  clear c15
                  by_cases c16 : 0 ≤ x6_2
                  · rw [if_pos c16] at H
                    have c16b0 : decide (0 ≤ x6_2) = true := decide_eq_true c16
                    clear c16
                    by_cases c18 : (bt gs14 x6_2) < 33
                    · rw [if_pos c18] at H
                      have c18b0 : decide ((bt gs14 x6_2) < 33) = true := decide_eq_true c18
                      clear c18
                      simp only [Option.some.injEq, Prod.mk.injEq] at H
                      obtain ⟨rfl, rfl⟩ := H
                      have p17 : 0 ≤ (x6_2 : Int) := of_decide_eq_true (by first | (with_reducible assumption) | assumption)
                      have q17 : x6_2 < (gs14.size : Int) := of_decide_eq_true (by first | (with_reducible assumption) | assumption)
                      have hx17 := bt_at gs14 x6_2
                      replace p17 := eq_true p17
                      replace q17 := eq_true q17
                      go_wp2
                      go_ret2
                      exact ⟨by first | rfl | (simp [errW_none, errW_some] <;> rfl) | (simp [*, errW_none, errW_some] <;> rfl), by repeat (first | (with_reducible first | exact HB.out | apply below_alloc | apply pw_below_drewN | apply below_drew1 | refine below_set ?_ GE518.out) | exact HB.out)⟩
                    · rw [if_neg c18] at H
                      have c18b0 : decide ((bt gs14 x6_2) < 33) = false := decide_eq_false c18
                      clear c18
                      by_cases c20 : (bt gs14 x6_2) > 126
                      · rw [if_pos c20] at H
                        have c20b0 : decide (126 < (bt gs14 x6_2)) = true := decide_eq_true c20
                        clear c20
                        simp only [Option.some.injEq, Prod.mk.injEq] at H
                        obtain ⟨rfl, rfl⟩ := H
                        have p17 : 0 ≤ (x6_2 : Int) := of_decide_eq_true (by first | (with_reducible assumption) | assumption)
                        have q17 : x6_2 < (gs14.size : Int) := of_decide_eq_true (by first | (with_reducible assumption) | assumption)
                        have hx17 := bt_at gs14 x6_2
                        replace p17 := eq_true p17
                        replace q17 := eq_true q17
                        have p19 : 0 ≤ (x6_2 : Int) := of_decide_eq_true (by first | (with_reducible assumption) | assumption)
                        have q19 : x6_2 < (gs14.size : Int) := of_decide_eq_true (by first | (with_reducible assumption) | assumption)
                        have hx19 := bt_at gs14 x6_2
                        replace p19 := eq_true p19
                        replace q19 := eq_true q19
                        go_wp2
                        go_ret2
                        exact ⟨by first | rfl | (simp [errW_none, errW_some] <;> rfl) | (simp [*, errW_none, errW_some] <;> rfl), by repeat (first | (with_reducible first | exact HB.out | apply below_alloc | apply pw_below_drewN | apply below_drew1 | refine below_set ?_ GE518.out) | exact HB.out)⟩
                      · rw [if_neg c20] at H
                        have c20b0 : decide (126 < (bt gs14 x6_2)) = false := decide_eq_false c20
                        clear c20
                        have H' := Aside0.mk H
                        clear H
                        have p17 : 0 ≤ (x6_2 : Int) := of_decide_eq_true (by first | (with_reducible assumption) | assumption)
                        have q17 : x6_2 < (gs14.size : Int) := of_decide_eq_true (by first | (with_reducible assumption) | assumption)
                        have hx17 := bt_at gs14 x6_2
                        replace p17 := eq_true p17
                        replace q17 := eq_true q17
                        have p19 : 0 ≤ (x6_2 : Int) := of_decide_eq_true (by first | (with_reducible assumption) | assumption)
                        have q19 : x6_2 < (gs14.size : Int) := of_decide_eq_true (by first | (with_reducible assumption) | assumption)
                        have hx19 := bt_at gs14 x6_2
                        replace p19 := eq_true p19
                        replace q19 := eq_true q19
                        go_wp2
                        go_roundg k2
                        case measure => have := HJ1.out; have := HK2.out; omega
                        case rel => exact ⟨(wrap64 (x6_2 + 1)), (by first | rfl | (simp; done) | (simp [*]; done)), H', ⟨by have := HJ1.out; have := HK2.out; omega⟩, ⟨by (with_reducible repeat (first | refine blk_drewN ?_ _ | refine blk_drew ?_ | refine blk_alloc ?_ _)); exact BK518.out⟩, ⟨by repeat (first | (with_reducible first | exact HB.out | apply below_alloc | apply pw_below_drewN | apply below_drew1 | refine below_set ?_ GE518.out) | exact HB.out)⟩⟩
                  · rw [if_neg c16] at H
                    exact absurd H (by simp)
                · rw [if_neg c15] at H
                  have c15b0 : decide (x6_2 < (gs14.size : Int)) = false := decide_eq_false c15
                  clear c15
                  replace H := Option.bind_eq_some_iff.mp H
                  obtain ⟨t519, A210, H⟩ := H
                  replace H : (if t519 = true then (if 0 < (gs14.size : Int) then (if (bt gs14 0) = 47 then (some (gs14, true)) else (some ((⟨#[]⟩ : ByteArray), false))) else (none)) else (some ((⟨#[]⟩ : ByteArray), false))) = some (r1, r2) := H
                  have A21 := Aside0.mk A210
                  clear A210
                  by_cases c22 : t519 = true
                  · subst c22
                    have H1 : (if 0 < (gs14.size : Int) then (if (bt gs14 0) = 47 then (some (gs14, true)) else (some ((⟨#[]⟩ : ByteArray), false))) else (none)) = some (r1, r2) := by rw [if_pos rfl] at H; exact H
                    clear H
                    have H := H1
                    clear H1
                    by_cases c23 : 0 < (gs14.size : Int)
                    · rw [if_pos c23] at H
                      have c23b0 : decide (0 < (gs14.size : Int)) = true := decide_eq_true c23
                      have c23b1 : decide (0 < gs14.size) = true := decide_eq_true (by omega)
                      clear c23
                      have HS25 := Aside0.mk H
                      clear H
                      go_upto_if 54 with (first | ((with_reducible refine gate_callee (f := 65) rfl ?_); refine goesL_ (some 48) rfl rfl Tryd.func65 (by kernel_rfl) rfl #[.int .i64 (gs14.size : Int), .int .i64 1, .int .i64 20] rfl (by (try simp only [List.map_toArray, List.map_cons, List.map_nil]); first | done | rfl | (simp only [List.length_drop, List.length_take]; rfl)) ?_; (with_reducible refine (spec_l01In.calls (gs14.size : Int) 1 20 true _ A21.out).mono ?_); rintro e w' ⟨rfl, rfl⟩; refine ⟨_, rfl, ?_⟩; have p24 : 0 ≤ (0 : Int) := (by omega); have q24 : 0 < gs14.size := (by have : (0 : Int) < (gs14.size : Int) := of_decide_eq_true (by first | (with_reducible assumption) | assumption); omega); have hx24 : ∀ h : 0 < gs14.size, ((gs14[0]'h).toNat : Int) = bt gs14 0 := bt_at gs14 0; clear p24; have qi24 : (0 < (gs14.size : Int)) = True := eq_true (of_decide_eq_true (by first | (with_reducible assumption) | assumption)); replace q24 := eq_true q24))
                      (try simp only [Act.put, List.setIfInBounds_toArray, List.set_cons_zero, List.set_cons_succ])
                      have H := HS25.out
                      clear HS25
                      by_cases c26 : (bt gs14 0) = 47
                      · rw [if_pos c26] at H
                        have c26b0 : ((bt gs14 0) == 47) = true := beq_iff_eq.mpr c26
                        have c26b1 : ((bt gs14 0) != 47) = false := bne_eq_false_iff_eq.mpr c26
                        clear c26
                        (first | rw [c26b0] | (simp only [i64_w, i32_w]; rw [c26b0]) | skip)
                        simp only [Option.some.injEq, Prod.mk.injEq] at H
                        obtain ⟨rfl, rfl⟩ := H
                        go_wp2
                        go_ret2
                        exact ⟨by first | rfl | (simp [errW_none, errW_some] <;> rfl) | (simp [*, errW_none, errW_some] <;> rfl), by repeat (first | (with_reducible first | exact HB.out | apply below_alloc | apply pw_below_drewN | apply below_drew1 | refine below_set ?_ GE518.out) | exact HB.out)⟩
                      · rw [if_neg c26] at H
                        have c26b0 : ((bt gs14 0) == 47) = false := beq_eq_false_iff_ne.mpr c26
                        have c26b1 : ((bt gs14 0) != 47) = true := bne_iff_ne.mpr c26
                        (first | rw [c26b0] | (simp only [i64_w, i32_w]; rw [c26b0]) | skip)
                        simp only [Option.some.injEq, Prod.mk.injEq] at H
                        obtain ⟨rfl, rfl⟩ := H
                        go_wp2
                        go_ret2
                        exact ⟨by first | rfl | (simp [errW_none, errW_some] <;> rfl) | (simp [*, errW_none, errW_some] <;> rfl), by repeat (first | (with_reducible first | exact HB.out | apply below_alloc | apply pw_below_drewN | apply below_drew1 | refine below_set ?_ GE518.out) | exact HB.out)⟩
                    · rw [if_neg c23] at H
                      exact absurd H (by simp)
                  · replace c22 := Bool.eq_false_iff.mpr c22
                    subst c22
                    have H1 : (some ((⟨#[]⟩ : ByteArray), false)) = some (r1, r2) := by rw [if_neg (show ¬ (false = true) by decide)] at H; exact H
                    clear H
                    have H := H1
                    clear H1
                    simp only [Option.some.injEq, Prod.mk.injEq] at H
                    obtain ⟨rfl, rfl⟩ := H
                    go_wp2_with (first | ((with_reducible refine gate_callee (f := 65) rfl ?_); refine goesL_ (some 48) rfl rfl Tryd.func65 (by kernel_rfl) rfl #[.int .i64 (gs14.size : Int), .int .i64 1, .int .i64 20] rfl (by (try simp only [List.map_toArray, List.map_cons, List.map_nil]); first | done | rfl | (simp only [List.length_drop, List.length_take]; rfl)) ?_; (with_reducible refine (spec_l01In.calls (gs14.size : Int) 1 20 false _ A21.out).mono ?_); rintro e w' ⟨rfl, rfl⟩; refine ⟨_, rfl, ?_⟩))
                    go_ret2
                    exact ⟨by first | rfl | (simp [errW_none, errW_some] <;> rfl) | (simp [*, errW_none, errW_some] <;> rfl), by repeat (first | (with_reducible first | exact HB.out | apply below_alloc | apply pw_below_drewN | apply below_drew1 | refine below_set ?_ GE518.out) | exact HB.out)⟩
          · rw [if_neg c13] at H
            exact absurd H (by simp)
        · rw [if_neg c12] at H
          exact absurd H (by simp)
def laws_FnLines.f (k : Nat) (l0 : List Int) : Option (Bool) := (laws_big.f l0).bind fun t528 => (if t528 = true then (some true) else ((spec_DrawTargetOf.f k l0).bind fun bt529 => ((impl_TargetOf.f k bt529.1 bt529.2).bind fun bt534 => ((spec_TargetOf.f k bt529.1 bt529.2).bind fun bt536 => ((impl_StatusOf.f k bt529.1 bt529.2).bind fun bt538 => ((spec_StatusOf.f k bt529.1 bt529.2).bind fun bt540 => ((spec_DrawPlaces.f k l0).bind fun t542 => (if 0 < (t542.length : Int) then (if 1 < (t542.length : Int) then ((spec_Decimal.f k (rd t542 1)).bind fun t547 => (if 6 + t547.size ≤ 9223372036854775807 then (if ((⟨#[71, 69, 84, 32, 47, 120]⟩ : ByteArray) ++ t547).size + 9 ≤ 9223372036854775807 then ((impl_TargetOf.f k (((⟨#[71, 69, 84, 32, 47, 120]⟩ : ByteArray) ++ t547) ++ (⟨#[32, 72, 84, 84, 80, 47, 49, 46, 49]⟩ : ByteArray)) ([] : List (S40))).bind fun bt548 => ((spec_Decimal.f k (wrap64 (100 + (Int.tmod (rd t542 0) 500)))).bind fun t550 => (if 9 + t550.size ≤ 9223372036854775807 then (if ((⟨#[72, 84, 84, 80, 47, 49, 46, 49, 32]⟩ : ByteArray) ++ t550).size + 5 ≤ 9223372036854775807 then ((impl_StatusOf.f k (((⟨#[72, 84, 84, 80, 47, 49, 46, 49, 32]⟩ : ByteArray) ++ t550) ++ (⟨#[32, 115, 97, 105, 100]⟩ : ByteArray)) ([] : List (S40))).bind fun bt551 => (if (bt534.2 == bt536.2) = true then (if bt534.1.toList = bt536.1.toList then (if (bt538.2 == bt540.2) = true then (if bt538.1 = bt540.1 then (if bt548.2 = true then ((spec_Decimal.f k (rd t542 1)).bind fun t554 => (if 2 + t554.size ≤ 9223372036854775807 then (if bt548.1.toList = ((⟨#[47, 120]⟩ : ByteArray) ++ t554).toList then (if bt551.2 = true then (some (bt551.1 == (wrap64 (100 + (Int.tmod (rd t542 0) 500))))) else (none)) else (none)) else (none))) else (none)) else (none)) else (none)) else (none)) else (none))) else (none)) else (none)))) else (none)) else (none))) else (none)) else (none)))))))))
set_option maxHeartbeats 8000000 in
set_option maxRecDepth 100000 in
theorem laws_FnLines.calls (k : Nat) (A0 : Option Addr) (c0 : Nat) (l0 : List Int) (r : Bool) (w : World) (hr0 : Kd.C (Kd.int .u8) w A0 l0.length l0) (hc0 : l0.length ≤ c0) (htb : Tab w) (h : laws_FnLines.f k l0 = some r) :
    Calls Tryd.prog 9 #[.slice A0 l0.length c0] w fun e w' => e = .returned (.bool r) ∧ Below w.heap.size w w' := by
  have hu26 := Tryd.underlying26
  have HTB := Aside0.mk htb
  clear htb
  have HR0 := Aside0.mk hr0
  have HC0 := Aside0.mk hc0
  clear hr0 hc0
  have HB := Aside0.mk (Below.refl w.heap.size w)
  have H : ((laws_big.f l0).bind fun t528 => (if t528 = true then (some true) else ((spec_DrawTargetOf.f k l0).bind fun bt529 => ((impl_TargetOf.f k bt529.1 bt529.2).bind fun bt534 => ((spec_TargetOf.f k bt529.1 bt529.2).bind fun bt536 => ((impl_StatusOf.f k bt529.1 bt529.2).bind fun bt538 => ((spec_StatusOf.f k bt529.1 bt529.2).bind fun bt540 => ((spec_DrawPlaces.f k l0).bind fun t542 => (if 0 < (t542.length : Int) then (if 1 < (t542.length : Int) then ((spec_Decimal.f k (rd t542 1)).bind fun t547 => (if 6 + t547.size ≤ 9223372036854775807 then (if ((⟨#[71, 69, 84, 32, 47, 120]⟩ : ByteArray) ++ t547).size + 9 ≤ 9223372036854775807 then ((impl_TargetOf.f k (((⟨#[71, 69, 84, 32, 47, 120]⟩ : ByteArray) ++ t547) ++ (⟨#[32, 72, 84, 84, 80, 47, 49, 46, 49]⟩ : ByteArray)) ([] : List (S40))).bind fun bt548 => ((spec_Decimal.f k (wrap64 (100 + (Int.tmod (rd t542 0) 500)))).bind fun t550 => (if 9 + t550.size ≤ 9223372036854775807 then (if ((⟨#[72, 84, 84, 80, 47, 49, 46, 49, 32]⟩ : ByteArray) ++ t550).size + 5 ≤ 9223372036854775807 then ((impl_StatusOf.f k (((⟨#[72, 84, 84, 80, 47, 49, 46, 49, 32]⟩ : ByteArray) ++ t550) ++ (⟨#[32, 115, 97, 105, 100]⟩ : ByteArray)) ([] : List (S40))).bind fun bt551 => (if (bt534.2 == bt536.2) = true then (if bt534.1.toList = bt536.1.toList then (if (bt538.2 == bt540.2) = true then (if bt538.1 = bt540.1 then (if bt548.2 = true then ((spec_Decimal.f k (rd t542 1)).bind fun t554 => (if 2 + t554.size ≤ 9223372036854775807 then (if bt548.1.toList = ((⟨#[47, 120]⟩ : ByteArray) ++ t554).toList then (if bt551.2 = true then (some (bt551.1 == (wrap64 (100 + (Int.tmod (rd t542 0) 500))))) else (none)) else (none)) else (none))) else (none)) else (none)) else (none)) else (none)) else (none))) else (none)) else (none)))) else (none)) else (none))) else (none)) else (none)))))))))) = some r := h
  clear h
  replace H := Option.bind_eq_some_iff.mp H
  obtain ⟨t528, A20, H⟩ := H
  replace H : (if t528 = true then (some true) else ((spec_DrawTargetOf.f k l0).bind fun bt529 => ((impl_TargetOf.f k bt529.1 bt529.2).bind fun bt534 => ((spec_TargetOf.f k bt529.1 bt529.2).bind fun bt536 => ((impl_StatusOf.f k bt529.1 bt529.2).bind fun bt538 => ((spec_StatusOf.f k bt529.1 bt529.2).bind fun bt540 => ((spec_DrawPlaces.f k l0).bind fun t542 => (if 0 < (t542.length : Int) then (if 1 < (t542.length : Int) then ((spec_Decimal.f k (rd t542 1)).bind fun t547 => (if 6 + t547.size ≤ 9223372036854775807 then (if ((⟨#[71, 69, 84, 32, 47, 120]⟩ : ByteArray) ++ t547).size + 9 ≤ 9223372036854775807 then ((impl_TargetOf.f k (((⟨#[71, 69, 84, 32, 47, 120]⟩ : ByteArray) ++ t547) ++ (⟨#[32, 72, 84, 84, 80, 47, 49, 46, 49]⟩ : ByteArray)) ([] : List (S40))).bind fun bt548 => ((spec_Decimal.f k (wrap64 (100 + (Int.tmod (rd t542 0) 500)))).bind fun t550 => (if 9 + t550.size ≤ 9223372036854775807 then (if ((⟨#[72, 84, 84, 80, 47, 49, 46, 49, 32]⟩ : ByteArray) ++ t550).size + 5 ≤ 9223372036854775807 then ((impl_StatusOf.f k (((⟨#[72, 84, 84, 80, 47, 49, 46, 49, 32]⟩ : ByteArray) ++ t550) ++ (⟨#[32, 115, 97, 105, 100]⟩ : ByteArray)) ([] : List (S40))).bind fun bt551 => (if (bt534.2 == bt536.2) = true then (if bt534.1.toList = bt536.1.toList then (if (bt538.2 == bt540.2) = true then (if bt538.1 = bt540.1 then (if bt548.2 = true then ((spec_Decimal.f k (rd t542 1)).bind fun t554 => (if 2 + t554.size ≤ 9223372036854775807 then (if bt548.1.toList = ((⟨#[47, 120]⟩ : ByteArray) ++ t554).toList then (if bt551.2 = true then (some (bt551.1 == (wrap64 (100 + (Int.tmod (rd t542 0) 500))))) else (none)) else (none)) else (none))) else (none)) else (none)) else (none)) else (none)) else (none))) else (none)) else (none)))) else (none)) else (none))) else (none)) else (none))))))))) = some r := H
  have A2 := Aside0.mk A20
  clear A20
  have HS3 := Aside0.mk H
  clear H
  go_enter Tryd.func9, Tryd.ntmps9
  go_upto_if 19 with (first | ((with_reducible refine gate_callee (f := 13) rfl ?_); refine goesL_ (some 19) rfl rfl Tryd.func13 (by kernel_rfl) rfl #[.slice A0 l0.length c0] rfl (by (try simp only [List.map_toArray, List.map_cons, List.map_nil]); first | done | rfl | (simp only [List.length_drop, List.length_take]; rfl)) ?_; (with_reducible refine (laws_big.calls _ _ l0 t528 _ ?side1 ?side2 A2.out).mono ?_); (case side1 => repeat (first | exact HR0.out | (with_reducible refine Kd.C_alloc ?_ _) | (with_reducible refine Kd.C_drewN ?_ _) | (with_reducible refine Kd.C_drew ?_))); (case side2 => exact HC0.out); rintro e w' ⟨rfl, rfl⟩; refine ⟨_, rfl, ?_⟩))
  (try simp only [Act.put, List.setIfInBounds_toArray, List.set_cons_zero, List.set_cons_succ])
  have H := HS3.out
  clear HS3
  by_cases c4 : t528 = true
  · subst c4
    have H1 : (some true) = some r := by rw [if_pos rfl] at H; exact H
    clear H
    have H := H1
    clear H1
    obtain rfl := Option.some.inj H
    go_wp2
    go_ret
    exact ⟨by first | rfl | (simp [errW_none, errW_some] <;> rfl) | (simp [*, errW_none, errW_some] <;> rfl), by repeat (first | (with_reducible first | exact HB.out | apply below_alloc | apply pw_below_drewN | apply below_drew1) | exact HB.out)⟩
  · replace c4 := Bool.eq_false_iff.mpr c4
    subst c4
    have H1 : ((spec_DrawTargetOf.f k l0).bind fun bt529 => ((impl_TargetOf.f k bt529.1 bt529.2).bind fun bt534 => ((spec_TargetOf.f k bt529.1 bt529.2).bind fun bt536 => ((impl_StatusOf.f k bt529.1 bt529.2).bind fun bt538 => ((spec_StatusOf.f k bt529.1 bt529.2).bind fun bt540 => ((spec_DrawPlaces.f k l0).bind fun t542 => (if 0 < (t542.length : Int) then (if 1 < (t542.length : Int) then ((spec_Decimal.f k (rd t542 1)).bind fun t547 => (if 6 + t547.size ≤ 9223372036854775807 then (if ((⟨#[71, 69, 84, 32, 47, 120]⟩ : ByteArray) ++ t547).size + 9 ≤ 9223372036854775807 then ((impl_TargetOf.f k (((⟨#[71, 69, 84, 32, 47, 120]⟩ : ByteArray) ++ t547) ++ (⟨#[32, 72, 84, 84, 80, 47, 49, 46, 49]⟩ : ByteArray)) ([] : List (S40))).bind fun bt548 => ((spec_Decimal.f k (wrap64 (100 + (Int.tmod (rd t542 0) 500)))).bind fun t550 => (if 9 + t550.size ≤ 9223372036854775807 then (if ((⟨#[72, 84, 84, 80, 47, 49, 46, 49, 32]⟩ : ByteArray) ++ t550).size + 5 ≤ 9223372036854775807 then ((impl_StatusOf.f k (((⟨#[72, 84, 84, 80, 47, 49, 46, 49, 32]⟩ : ByteArray) ++ t550) ++ (⟨#[32, 115, 97, 105, 100]⟩ : ByteArray)) ([] : List (S40))).bind fun bt551 => (if (bt534.2 == bt536.2) = true then (if bt534.1.toList = bt536.1.toList then (if (bt538.2 == bt540.2) = true then (if bt538.1 = bt540.1 then (if bt548.2 = true then ((spec_Decimal.f k (rd t542 1)).bind fun t554 => (if 2 + t554.size ≤ 9223372036854775807 then (if bt548.1.toList = ((⟨#[47, 120]⟩ : ByteArray) ++ t554).toList then (if bt551.2 = true then (some (bt551.1 == (wrap64 (100 + (Int.tmod (rd t542 0) 500))))) else (none)) else (none)) else (none))) else (none)) else (none)) else (none)) else (none)) else (none))) else (none)) else (none)))) else (none)) else (none))) else (none)) else (none)))))))) = some r := by rw [if_neg (show ¬ (false = true) by decide)] at H; exact H
    clear H
    have H := H1
    clear H1
    replace H := Option.bind_eq_some_iff.mp H
    obtain ⟨⟨t529, t530⟩, A50, H⟩ := H
    replace H : ((impl_TargetOf.f k t529 t530).bind fun bt534 => ((spec_TargetOf.f k t529 t530).bind fun bt536 => ((impl_StatusOf.f k t529 t530).bind fun bt538 => ((spec_StatusOf.f k t529 t530).bind fun bt540 => ((spec_DrawPlaces.f k l0).bind fun t542 => (if 0 < (t542.length : Int) then (if 1 < (t542.length : Int) then ((spec_Decimal.f k (rd t542 1)).bind fun t547 => (if 6 + t547.size ≤ 9223372036854775807 then (if ((⟨#[71, 69, 84, 32, 47, 120]⟩ : ByteArray) ++ t547).size + 9 ≤ 9223372036854775807 then ((impl_TargetOf.f k (((⟨#[71, 69, 84, 32, 47, 120]⟩ : ByteArray) ++ t547) ++ (⟨#[32, 72, 84, 84, 80, 47, 49, 46, 49]⟩ : ByteArray)) ([] : List (S40))).bind fun bt548 => ((spec_Decimal.f k (wrap64 (100 + (Int.tmod (rd t542 0) 500)))).bind fun t550 => (if 9 + t550.size ≤ 9223372036854775807 then (if ((⟨#[72, 84, 84, 80, 47, 49, 46, 49, 32]⟩ : ByteArray) ++ t550).size + 5 ≤ 9223372036854775807 then ((impl_StatusOf.f k (((⟨#[72, 84, 84, 80, 47, 49, 46, 49, 32]⟩ : ByteArray) ++ t550) ++ (⟨#[32, 115, 97, 105, 100]⟩ : ByteArray)) ([] : List (S40))).bind fun bt551 => (if (bt534.2 == bt536.2) = true then (if bt534.1.toList = bt536.1.toList then (if (bt538.2 == bt540.2) = true then (if bt538.1 = bt540.1 then (if bt548.2 = true then ((spec_Decimal.f k (rd t542 1)).bind fun t554 => (if 2 + t554.size ≤ 9223372036854775807 then (if bt548.1.toList = ((⟨#[47, 120]⟩ : ByteArray) ++ t554).toList then (if bt551.2 = true then (some (bt551.1 == (wrap64 (100 + (Int.tmod (rd t542 0) 500))))) else (none)) else (none)) else (none))) else (none)) else (none)) else (none)) else (none)) else (none))) else (none)) else (none)))) else (none)) else (none))) else (none)) else (none))))))) = some r := H
    have A5 := Aside0.mk A50
    clear A50
    replace H := Option.bind_eq_some_iff.mp H
    obtain ⟨⟨t534, t535⟩, A60, H⟩ := H
    replace H : ((spec_TargetOf.f k t529 t530).bind fun bt536 => ((impl_StatusOf.f k t529 t530).bind fun bt538 => ((spec_StatusOf.f k t529 t530).bind fun bt540 => ((spec_DrawPlaces.f k l0).bind fun t542 => (if 0 < (t542.length : Int) then (if 1 < (t542.length : Int) then ((spec_Decimal.f k (rd t542 1)).bind fun t547 => (if 6 + t547.size ≤ 9223372036854775807 then (if ((⟨#[71, 69, 84, 32, 47, 120]⟩ : ByteArray) ++ t547).size + 9 ≤ 9223372036854775807 then ((impl_TargetOf.f k (((⟨#[71, 69, 84, 32, 47, 120]⟩ : ByteArray) ++ t547) ++ (⟨#[32, 72, 84, 84, 80, 47, 49, 46, 49]⟩ : ByteArray)) ([] : List (S40))).bind fun bt548 => ((spec_Decimal.f k (wrap64 (100 + (Int.tmod (rd t542 0) 500)))).bind fun t550 => (if 9 + t550.size ≤ 9223372036854775807 then (if ((⟨#[72, 84, 84, 80, 47, 49, 46, 49, 32]⟩ : ByteArray) ++ t550).size + 5 ≤ 9223372036854775807 then ((impl_StatusOf.f k (((⟨#[72, 84, 84, 80, 47, 49, 46, 49, 32]⟩ : ByteArray) ++ t550) ++ (⟨#[32, 115, 97, 105, 100]⟩ : ByteArray)) ([] : List (S40))).bind fun bt551 => (if (t535 == bt536.2) = true then (if t534.toList = bt536.1.toList then (if (bt538.2 == bt540.2) = true then (if bt538.1 = bt540.1 then (if bt548.2 = true then ((spec_Decimal.f k (rd t542 1)).bind fun t554 => (if 2 + t554.size ≤ 9223372036854775807 then (if bt548.1.toList = ((⟨#[47, 120]⟩ : ByteArray) ++ t554).toList then (if bt551.2 = true then (some (bt551.1 == (wrap64 (100 + (Int.tmod (rd t542 0) 500))))) else (none)) else (none)) else (none))) else (none)) else (none)) else (none)) else (none)) else (none))) else (none)) else (none)))) else (none)) else (none))) else (none)) else (none)))))) = some r := H
    have A6 := Aside0.mk A60
    clear A60
    replace H := Option.bind_eq_some_iff.mp H
    obtain ⟨⟨t536, t537⟩, A70, H⟩ := H
    replace H : ((impl_StatusOf.f k t529 t530).bind fun bt538 => ((spec_StatusOf.f k t529 t530).bind fun bt540 => ((spec_DrawPlaces.f k l0).bind fun t542 => (if 0 < (t542.length : Int) then (if 1 < (t542.length : Int) then ((spec_Decimal.f k (rd t542 1)).bind fun t547 => (if 6 + t547.size ≤ 9223372036854775807 then (if ((⟨#[71, 69, 84, 32, 47, 120]⟩ : ByteArray) ++ t547).size + 9 ≤ 9223372036854775807 then ((impl_TargetOf.f k (((⟨#[71, 69, 84, 32, 47, 120]⟩ : ByteArray) ++ t547) ++ (⟨#[32, 72, 84, 84, 80, 47, 49, 46, 49]⟩ : ByteArray)) ([] : List (S40))).bind fun bt548 => ((spec_Decimal.f k (wrap64 (100 + (Int.tmod (rd t542 0) 500)))).bind fun t550 => (if 9 + t550.size ≤ 9223372036854775807 then (if ((⟨#[72, 84, 84, 80, 47, 49, 46, 49, 32]⟩ : ByteArray) ++ t550).size + 5 ≤ 9223372036854775807 then ((impl_StatusOf.f k (((⟨#[72, 84, 84, 80, 47, 49, 46, 49, 32]⟩ : ByteArray) ++ t550) ++ (⟨#[32, 115, 97, 105, 100]⟩ : ByteArray)) ([] : List (S40))).bind fun bt551 => (if (t535 == t537) = true then (if t534.toList = t536.toList then (if (bt538.2 == bt540.2) = true then (if bt538.1 = bt540.1 then (if bt548.2 = true then ((spec_Decimal.f k (rd t542 1)).bind fun t554 => (if 2 + t554.size ≤ 9223372036854775807 then (if bt548.1.toList = ((⟨#[47, 120]⟩ : ByteArray) ++ t554).toList then (if bt551.2 = true then (some (bt551.1 == (wrap64 (100 + (Int.tmod (rd t542 0) 500))))) else (none)) else (none)) else (none))) else (none)) else (none)) else (none)) else (none)) else (none))) else (none)) else (none)))) else (none)) else (none))) else (none)) else (none))))) = some r := H
    have A7 := Aside0.mk A70
    clear A70
    replace H := Option.bind_eq_some_iff.mp H
    obtain ⟨⟨t538, t539⟩, A80, H⟩ := H
    replace H : ((spec_StatusOf.f k t529 t530).bind fun bt540 => ((spec_DrawPlaces.f k l0).bind fun t542 => (if 0 < (t542.length : Int) then (if 1 < (t542.length : Int) then ((spec_Decimal.f k (rd t542 1)).bind fun t547 => (if 6 + t547.size ≤ 9223372036854775807 then (if ((⟨#[71, 69, 84, 32, 47, 120]⟩ : ByteArray) ++ t547).size + 9 ≤ 9223372036854775807 then ((impl_TargetOf.f k (((⟨#[71, 69, 84, 32, 47, 120]⟩ : ByteArray) ++ t547) ++ (⟨#[32, 72, 84, 84, 80, 47, 49, 46, 49]⟩ : ByteArray)) ([] : List (S40))).bind fun bt548 => ((spec_Decimal.f k (wrap64 (100 + (Int.tmod (rd t542 0) 500)))).bind fun t550 => (if 9 + t550.size ≤ 9223372036854775807 then (if ((⟨#[72, 84, 84, 80, 47, 49, 46, 49, 32]⟩ : ByteArray) ++ t550).size + 5 ≤ 9223372036854775807 then ((impl_StatusOf.f k (((⟨#[72, 84, 84, 80, 47, 49, 46, 49, 32]⟩ : ByteArray) ++ t550) ++ (⟨#[32, 115, 97, 105, 100]⟩ : ByteArray)) ([] : List (S40))).bind fun bt551 => (if (t535 == t537) = true then (if t534.toList = t536.toList then (if (t539 == bt540.2) = true then (if t538 = bt540.1 then (if bt548.2 = true then ((spec_Decimal.f k (rd t542 1)).bind fun t554 => (if 2 + t554.size ≤ 9223372036854775807 then (if bt548.1.toList = ((⟨#[47, 120]⟩ : ByteArray) ++ t554).toList then (if bt551.2 = true then (some (bt551.1 == (wrap64 (100 + (Int.tmod (rd t542 0) 500))))) else (none)) else (none)) else (none))) else (none)) else (none)) else (none)) else (none)) else (none))) else (none)) else (none)))) else (none)) else (none))) else (none)) else (none)))) = some r := H
    have A8 := Aside0.mk A80
    clear A80
    replace H := Option.bind_eq_some_iff.mp H
    obtain ⟨⟨t540, t541⟩, A90, H⟩ := H
    replace H : ((spec_DrawPlaces.f k l0).bind fun t542 => (if 0 < (t542.length : Int) then (if 1 < (t542.length : Int) then ((spec_Decimal.f k (rd t542 1)).bind fun t547 => (if 6 + t547.size ≤ 9223372036854775807 then (if ((⟨#[71, 69, 84, 32, 47, 120]⟩ : ByteArray) ++ t547).size + 9 ≤ 9223372036854775807 then ((impl_TargetOf.f k (((⟨#[71, 69, 84, 32, 47, 120]⟩ : ByteArray) ++ t547) ++ (⟨#[32, 72, 84, 84, 80, 47, 49, 46, 49]⟩ : ByteArray)) ([] : List (S40))).bind fun bt548 => ((spec_Decimal.f k (wrap64 (100 + (Int.tmod (rd t542 0) 500)))).bind fun t550 => (if 9 + t550.size ≤ 9223372036854775807 then (if ((⟨#[72, 84, 84, 80, 47, 49, 46, 49, 32]⟩ : ByteArray) ++ t550).size + 5 ≤ 9223372036854775807 then ((impl_StatusOf.f k (((⟨#[72, 84, 84, 80, 47, 49, 46, 49, 32]⟩ : ByteArray) ++ t550) ++ (⟨#[32, 115, 97, 105, 100]⟩ : ByteArray)) ([] : List (S40))).bind fun bt551 => (if (t535 == t537) = true then (if t534.toList = t536.toList then (if (t539 == t541) = true then (if t538 = t540 then (if bt548.2 = true then ((spec_Decimal.f k (rd t542 1)).bind fun t554 => (if 2 + t554.size ≤ 9223372036854775807 then (if bt548.1.toList = ((⟨#[47, 120]⟩ : ByteArray) ++ t554).toList then (if bt551.2 = true then (some (bt551.1 == (wrap64 (100 + (Int.tmod (rd t542 0) 500))))) else (none)) else (none)) else (none))) else (none)) else (none)) else (none)) else (none)) else (none))) else (none)) else (none)))) else (none)) else (none))) else (none)) else (none))) = some r := H
    have A9 := Aside0.mk A90
    clear A90
    replace H := Option.bind_eq_some_iff.mp H
    obtain ⟨t542, A100, H⟩ := H
    replace H : (if 0 < (t542.length : Int) then (if 1 < (t542.length : Int) then ((spec_Decimal.f k (rd t542 1)).bind fun t547 => (if 6 + t547.size ≤ 9223372036854775807 then (if ((⟨#[71, 69, 84, 32, 47, 120]⟩ : ByteArray) ++ t547).size + 9 ≤ 9223372036854775807 then ((impl_TargetOf.f k (((⟨#[71, 69, 84, 32, 47, 120]⟩ : ByteArray) ++ t547) ++ (⟨#[32, 72, 84, 84, 80, 47, 49, 46, 49]⟩ : ByteArray)) ([] : List (S40))).bind fun bt548 => ((spec_Decimal.f k (wrap64 (100 + (Int.tmod (rd t542 0) 500)))).bind fun t550 => (if 9 + t550.size ≤ 9223372036854775807 then (if ((⟨#[72, 84, 84, 80, 47, 49, 46, 49, 32]⟩ : ByteArray) ++ t550).size + 5 ≤ 9223372036854775807 then ((impl_StatusOf.f k (((⟨#[72, 84, 84, 80, 47, 49, 46, 49, 32]⟩ : ByteArray) ++ t550) ++ (⟨#[32, 115, 97, 105, 100]⟩ : ByteArray)) ([] : List (S40))).bind fun bt551 => (if (t535 == t537) = true then (if t534.toList = t536.toList then (if (t539 == t541) = true then (if t538 = t540 then (if bt548.2 = true then ((spec_Decimal.f k (rd t542 1)).bind fun t554 => (if 2 + t554.size ≤ 9223372036854775807 then (if bt548.1.toList = ((⟨#[47, 120]⟩ : ByteArray) ++ t554).toList then (if bt551.2 = true then (some (bt551.1 == (wrap64 (100 + (Int.tmod (rd t542 0) 500))))) else (none)) else (none)) else (none))) else (none)) else (none)) else (none)) else (none)) else (none))) else (none)) else (none)))) else (none)) else (none))) else (none)) else (none)) = some r := H
    have A10 := Aside0.mk A100
    clear A100
    by_cases c11 : 0 < (t542.length : Int)
    · rw [if_pos c11] at H
      have c11b0 : decide (0 < (t542.length : Int)) = true := decide_eq_true c11
      have c11b1 : decide (0 < t542.length) = true := decide_eq_true (by omega)
      clear c11
      (first | rw [c11b0] | (simp only [i64_w, i32_w]; rw [c11b0]) | skip)
      by_cases c12 : 1 < (t542.length : Int)
      · rw [if_pos c12] at H
        have c12b0 : decide (1 < (t542.length : Int)) = true := decide_eq_true c12
        have c12b1 : decide (1 < t542.length) = true := decide_eq_true (by omega)
        clear c12
        replace H := Option.bind_eq_some_iff.mp H
        obtain ⟨t547, A130, H⟩ := H
        replace H : (if 6 + t547.size ≤ 9223372036854775807 then (if ((⟨#[71, 69, 84, 32, 47, 120]⟩ : ByteArray) ++ t547).size + 9 ≤ 9223372036854775807 then ((impl_TargetOf.f k (((⟨#[71, 69, 84, 32, 47, 120]⟩ : ByteArray) ++ t547) ++ (⟨#[32, 72, 84, 84, 80, 47, 49, 46, 49]⟩ : ByteArray)) ([] : List (S40))).bind fun bt548 => ((spec_Decimal.f k (wrap64 (100 + (Int.tmod (rd t542 0) 500)))).bind fun t550 => (if 9 + t550.size ≤ 9223372036854775807 then (if ((⟨#[72, 84, 84, 80, 47, 49, 46, 49, 32]⟩ : ByteArray) ++ t550).size + 5 ≤ 9223372036854775807 then ((impl_StatusOf.f k (((⟨#[72, 84, 84, 80, 47, 49, 46, 49, 32]⟩ : ByteArray) ++ t550) ++ (⟨#[32, 115, 97, 105, 100]⟩ : ByteArray)) ([] : List (S40))).bind fun bt551 => (if (t535 == t537) = true then (if t534.toList = t536.toList then (if (t539 == t541) = true then (if t538 = t540 then (if bt548.2 = true then ((spec_Decimal.f k (rd t542 1)).bind fun t554 => (if 2 + t554.size ≤ 9223372036854775807 then (if bt548.1.toList = ((⟨#[47, 120]⟩ : ByteArray) ++ t554).toList then (if bt551.2 = true then (some (bt551.1 == (wrap64 (100 + (Int.tmod (rd t542 0) 500))))) else (none)) else (none)) else (none))) else (none)) else (none)) else (none)) else (none)) else (none))) else (none)) else (none)))) else (none)) else (none)) = some r := H
        have A13 := Aside0.mk A130
        clear A130
        by_cases c14 : 6 + t547.size ≤ 9223372036854775807
        · rw [if_pos c14] at H
          have c14b0 := eq_true c14
          have c14b1 : decide (6 + t547.size ≤ 9223372036854775807) = true := decide_eq_true c14
          try have c14b2 : (9223372036854775807 < 6 + t547.size) = False := eq_false (Nat.not_lt.2 c14)
          by_cases c15 : ((⟨#[71, 69, 84, 32, 47, 120]⟩ : ByteArray) ++ t547).size + 9 ≤ 9223372036854775807
          · rw [if_pos c15] at H
            have c15b0 := eq_true c15
            have c15b1 : decide (((⟨#[71, 69, 84, 32, 47, 120]⟩ : ByteArray) ++ t547).size + 9 ≤ 9223372036854775807) = true := decide_eq_true c15
            have c15x : 6 + t547.size + 9 ≤ 9223372036854775807 := by have h_ := c15; (try simp only [ByteArray.size_append] at h_); exact h_
            have c15x0 := eq_true c15x
            have c15x2 : (9223372036854775807 < 6 + t547.size + 9) = False := eq_false (Nat.not_lt.2 c15x)
            try have c15b2 : (9223372036854775807 < ((⟨#[71, 69, 84, 32, 47, 120]⟩ : ByteArray) ++ t547).size + 9) = False := eq_false (Nat.not_lt.2 c15)
            replace H := Option.bind_eq_some_iff.mp H
            obtain ⟨⟨t548, t549⟩, A160, H⟩ := H
            replace H : ((spec_Decimal.f k (wrap64 (100 + (Int.tmod (rd t542 0) 500)))).bind fun t550 => (if 9 + t550.size ≤ 9223372036854775807 then (if ((⟨#[72, 84, 84, 80, 47, 49, 46, 49, 32]⟩ : ByteArray) ++ t550).size + 5 ≤ 9223372036854775807 then ((impl_StatusOf.f k (((⟨#[72, 84, 84, 80, 47, 49, 46, 49, 32]⟩ : ByteArray) ++ t550) ++ (⟨#[32, 115, 97, 105, 100]⟩ : ByteArray)) ([] : List (S40))).bind fun bt551 => (if (t535 == t537) = true then (if t534.toList = t536.toList then (if (t539 == t541) = true then (if t538 = t540 then (if t549 = true then ((spec_Decimal.f k (rd t542 1)).bind fun t554 => (if 2 + t554.size ≤ 9223372036854775807 then (if t548.toList = ((⟨#[47, 120]⟩ : ByteArray) ++ t554).toList then (if bt551.2 = true then (some (bt551.1 == (wrap64 (100 + (Int.tmod (rd t542 0) 500))))) else (none)) else (none)) else (none))) else (none)) else (none)) else (none)) else (none)) else (none))) else (none)) else (none))) = some r := H
            have A16 := Aside0.mk A160
            clear A160
            replace H := Option.bind_eq_some_iff.mp H
            obtain ⟨t550, A170, H⟩ := H
            replace H : (if 9 + t550.size ≤ 9223372036854775807 then (if ((⟨#[72, 84, 84, 80, 47, 49, 46, 49, 32]⟩ : ByteArray) ++ t550).size + 5 ≤ 9223372036854775807 then ((impl_StatusOf.f k (((⟨#[72, 84, 84, 80, 47, 49, 46, 49, 32]⟩ : ByteArray) ++ t550) ++ (⟨#[32, 115, 97, 105, 100]⟩ : ByteArray)) ([] : List (S40))).bind fun bt551 => (if (t535 == t537) = true then (if t534.toList = t536.toList then (if (t539 == t541) = true then (if t538 = t540 then (if t549 = true then ((spec_Decimal.f k (rd t542 1)).bind fun t554 => (if 2 + t554.size ≤ 9223372036854775807 then (if t548.toList = ((⟨#[47, 120]⟩ : ByteArray) ++ t554).toList then (if bt551.2 = true then (some (bt551.1 == (wrap64 (100 + (Int.tmod (rd t542 0) 500))))) else (none)) else (none)) else (none))) else (none)) else (none)) else (none)) else (none)) else (none))) else (none)) else (none)) = some r := H
            have A17 := Aside0.mk A170
            clear A170
            by_cases c18 : 9 + t550.size ≤ 9223372036854775807
            · rw [if_pos c18] at H
              have c18b0 := eq_true c18
              have c18b1 : decide (9 + t550.size ≤ 9223372036854775807) = true := decide_eq_true c18
              try have c18b2 : (9223372036854775807 < 9 + t550.size) = False := eq_false (Nat.not_lt.2 c18)
              by_cases c19 : ((⟨#[72, 84, 84, 80, 47, 49, 46, 49, 32]⟩ : ByteArray) ++ t550).size + 5 ≤ 9223372036854775807
              · rw [if_pos c19] at H
                have c19b0 := eq_true c19
                have c19b1 : decide (((⟨#[72, 84, 84, 80, 47, 49, 46, 49, 32]⟩ : ByteArray) ++ t550).size + 5 ≤ 9223372036854775807) = true := decide_eq_true c19
                have c19x : 9 + t550.size + 5 ≤ 9223372036854775807 := by have h_ := c19; (try simp only [ByteArray.size_append] at h_); exact h_
                have c19x0 := eq_true c19x
                have c19x2 : (9223372036854775807 < 9 + t550.size + 5) = False := eq_false (Nat.not_lt.2 c19x)
                try have c19b2 : (9223372036854775807 < ((⟨#[72, 84, 84, 80, 47, 49, 46, 49, 32]⟩ : ByteArray) ++ t550).size + 5) = False := eq_false (Nat.not_lt.2 c19)
                replace H := Option.bind_eq_some_iff.mp H
                obtain ⟨⟨t551, t552⟩, A200, H⟩ := H
                replace H : (if (t535 == t537) = true then (if t534.toList = t536.toList then (if (t539 == t541) = true then (if t538 = t540 then (if t549 = true then ((spec_Decimal.f k (rd t542 1)).bind fun t554 => (if 2 + t554.size ≤ 9223372036854775807 then (if t548.toList = ((⟨#[47, 120]⟩ : ByteArray) ++ t554).toList then (if t552 = true then (some (t551 == (wrap64 (100 + (Int.tmod (rd t542 0) 500))))) else (none)) else (none)) else (none))) else (none)) else (none)) else (none)) else (none)) else (none)) = some r := H
                have A20 := Aside0.mk A200
                clear A200
                by_cases c21 : (t535 == t537) = true
                · rw [if_pos c21] at H
                  have c21b0 : (t535 == t537) = true := c21
                  (try (have c21b1 : decide (t535 = t537) = true := by simpa using c21))
                  (try (have c21b2 : (t535 == t537) = true := by simpa using c21))
                  clear c21
                  by_cases c22 : t534.toList = t536.toList
                  · rw [if_pos c22] at H
                    have c22b0 : (t534.toList == t536.toList) = true := beq_iff_eq.mpr c22
                    have c22b1 : (t534.toList != t536.toList) = false := bne_eq_false_iff_eq.mpr c22
                    clear c22
                    by_cases c23 : (t539 == t541) = true
                    · rw [if_pos c23] at H
                      have c23b0 : (t539 == t541) = true := c23
                      (try (have c23b1 : decide (t539 = t541) = true := by simpa using c23))
                      (try (have c23b2 : (t539 == t541) = true := by simpa using c23))
                      clear c23
                      by_cases c24 : t538 = t540
                      · rw [if_pos c24] at H
                        have c24b0 : (t538 == t540) = true := beq_iff_eq.mpr c24
                        have c24b1 : (t538 != t540) = false := bne_eq_false_iff_eq.mpr c24
                        clear c24
                        by_cases c25 : t549 = true
                        · subst c25
                          have H1 : ((spec_Decimal.f k (rd t542 1)).bind fun t554 => (if 2 + t554.size ≤ 9223372036854775807 then (if t548.toList = ((⟨#[47, 120]⟩ : ByteArray) ++ t554).toList then (if t552 = true then (some (t551 == (wrap64 (100 + (Int.tmod (rd t542 0) 500))))) else (none)) else (none)) else (none))) = some r := by rw [if_pos rfl] at H; exact H
                          clear H
                          have H := H1
                          clear H1
                          replace H := Option.bind_eq_some_iff.mp H
                          obtain ⟨t554, A260, H⟩ := H
                          replace H : (if 2 + t554.size ≤ 9223372036854775807 then (if t548.toList = ((⟨#[47, 120]⟩ : ByteArray) ++ t554).toList then (if t552 = true then (some (t551 == (wrap64 (100 + (Int.tmod (rd t542 0) 500))))) else (none)) else (none)) else (none)) = some r := H
                          have A26 := Aside0.mk A260
                          clear A260
                          by_cases c27 : 2 + t554.size ≤ 9223372036854775807
                          · rw [if_pos c27] at H
                            have c27b0 := eq_true c27
                            have c27b1 : decide (2 + t554.size ≤ 9223372036854775807) = true := decide_eq_true c27
                            try have c27b2 : (9223372036854775807 < 2 + t554.size) = False := eq_false (Nat.not_lt.2 c27)
                            by_cases c28 : t548.toList = ((⟨#[47, 120]⟩ : ByteArray) ++ t554).toList
                            · rw [if_pos c28] at H
                              have c28b0 : (t548.toList == ((⟨#[47, 120]⟩ : ByteArray) ++ t554).toList) = true := beq_iff_eq.mpr c28
                              have c28b1 : (t548.toList != ((⟨#[47, 120]⟩ : ByteArray) ++ t554).toList) = false := bne_eq_false_iff_eq.mpr c28
                              clear c28
                              by_cases c29 : t552 = true
                              · subst c29
                                have H1 : (some (t551 == (wrap64 (100 + (Int.tmod (rd t542 0) 500))))) = some r := by rw [if_pos rfl] at H; exact H
                                clear H
                                have H := H1
                                clear H1
                                obtain rfl := Option.some.inj H
                                go_wp2_with (first | ((with_reducible refine gate_callee (f := 33) rfl ?_); refine goesL_ (some 21) rfl rfl Tryd.func33 (by kernel_rfl) rfl #[.slice A0 l0.length c0] rfl (by (try simp only [List.map_toArray, List.map_cons, List.map_nil]); first | done | rfl | (simp only [List.length_drop, List.length_take]; rfl)) ?_; (with_reducible refine (spec_DrawTargetOf.calls k _ _ l0 t529 t530 _ ?side1 ?side2 A5.out).mono ?_); (case side1 => repeat (first | exact (Kd.C_below HR0.out HB.out) | (with_reducible refine Kd.C_alloc ?_ _) | (with_reducible refine Kd.C_drewN ?_ _) | (with_reducible refine Kd.C_drew ?_))); (case side2 => exact HC0.out); rintro e w30 ⟨v531, rfl, ho0, hb⟩; refine ⟨_, rfl, ?_⟩; have n0_ := Aside0.mk (Kd.R_lower ho0 (below_size (by repeat (first | (with_reducible first | exact HB.out | apply below_alloc | apply pw_below_drewN | apply below_drew1) | exact HB.out)))); have n1_ := Aside0.mk (below_step (by repeat (first | (with_reducible first | exact HB.out | apply below_alloc | apply pw_below_drewN | apply below_drew1) | exact HB.out)) hb); clear HB; have HO532 := n0_; have HB := n1_; clear n0_ n1_; (try clear hb); (try clear hb2); (try clear hk); (try clear hi); (try clear ho0)) | ((with_reducible refine gate_dst (N := 3) rfl ?_); refine box_event ?hg (N := 3) ?hd (cs := #[.string (⟨#[]⟩ : ByteArray), .slice none 0 0]) (t := 26) ?hr ?_; (case hd => rfl); (case hg => rfl); (case hr => first | (go_simp; done) | (go_simp; rfl)); intro gb533 hg w31 hbox hb; have n0_ := Aside0.mk (Kd.R_below (by (with_reducible repeat (first | apply Kd.R_alloc | apply Kd.R_drewN | apply Kd.R_drew)); exact HO532.out) hb); have n1_ := Aside0.mk (below_step (by repeat (first | (with_reducible first | exact HB.out | apply below_alloc | apply pw_below_drewN | apply below_drew1) | exact HB.out)) hb); have n2_ := Aside0.mk (hbox); have n3_ := Aside0.mk ((by rw [hg]; exact (below_size (by repeat (first | (with_reducible first | exact HB.out | apply below_alloc | apply pw_below_drewN | apply below_drew1) | exact HB.out))) : w.heap.size ≤ gb533)); have n4_ := Aside0.mk ((by rw [hg]; exact (below_size (by repeat (first | (with_reducible first | exact HB.out | apply below_alloc | apply pw_below_drewN | apply below_drew1) | exact HB.out))) : w.heap.size ≤ gb533)); clear HO532; clear HB; have HO532 := n0_; have HB := n1_; have BK533 := n2_; have GW533 := n3_; have GE533 := n4_; clear n0_ n1_ n2_ n3_ n4_; clear hb hbox hg; have hcz32_0 : w31.cell? ⟨gb533, 0, none⟩ = some (.string (⟨#[]⟩ : ByteArray)) := (blk_cell BK533.out 0).trans rfl; have hcz32_1 : w31.cell? ⟨gb533, 1, none⟩ = some (.slice none 0 0) := (blk_cell BK533.out 1).trans rfl; have hfz32_0 := blk_frozen BK533.out 0; have hfz32_1 := blk_frozen BK533.out 1; obtain ⟨Ao33, co33, eo33⟩ := Kd.R_slice HO532.out; subst eo33) | ((with_reducible refine gate_callee (f := 34) rfl ?_); refine goesL_ (some 24) rfl rfl Tryd.func34 (by kernel_rfl) rfl #[.agg #[.string t529, .slice Ao33 t530.length co33]] rfl (by (try simp only [List.map_toArray, List.map_cons, List.map_nil]); first | done | rfl | (simp only [List.length_drop, List.length_take]; rfl)) ?_; (with_reducible refine (impl_TargetOf.calls k t529 _ _ t530 t534 t535 _ ?side1 ?side2 A6.out).mono ?_); (case side1 => refine (Kd.R_reads' (e := 40) (base := w.heap.size) (ok := fun k_ => True) (n := t530.length) (c := co33) ?_).2.2; exact (by (with_reducible repeat (first | apply Kd.R_alloc | apply Kd.R_drewN | apply Kd.R_drew)); exact (Kd.R_mono (Kd.R_far (p := ⟨gb533, 1, none⟩) (Kd.R_far (p := ⟨gb533, 0, none⟩) (Kd.R_types HO532.out BK533.out (by decide)) (fun _ hk => hk.2) (.string t529)) (fun _ hk => hk.2) (.slice Ao33 t530.length co33)) (fun _ h_ => by first | exact h_.1 | simp only [h_, ne_eq, not_false_eq_true, and_self])))); (case side2 => exact (Kd.R_reads' HO532.out).2.1); rintro e w34 ⟨rfl, hb⟩; refine ⟨_, rfl, ?_⟩; have n0_ := Aside0.mk (Kd.R_below (by (with_reducible repeat (first | apply Kd.R_alloc | apply Kd.R_drewN | apply Kd.R_drew)); exact (Kd.R_mono (Kd.R_far (p := ⟨gb533, 1, none⟩) (Kd.R_far (p := ⟨gb533, 0, none⟩) (Kd.R_types HO532.out BK533.out (by decide)) (fun _ hk => hk.2) (.string t529)) (fun _ hk => hk.2) (.slice Ao33 t530.length co33)) (fun _ h_ => by first | exact h_.1 | simp only [h_, ne_eq, not_false_eq_true, and_self]))) hb); have n1_ := Aside0.mk (blk_below (g := gb533) (o := .cells #[.string t529, .slice Ao33 t530.length co33] 26 (0, 0)) (by (with_reducible repeat (first | refine blk_drewN ?_ _ | refine blk_drew ?_ | refine blk_alloc ?_ _)); refine blk_put (cs := #[.string t529, .slice none 0 0]) ?_ 1 _ rfl; (with_reducible repeat (first | refine blk_drewN ?_ _ | refine blk_drew ?_ | refine blk_alloc ?_ _)); refine blk_put (cs := #[.string (⟨#[]⟩ : ByteArray), .slice none 0 0]) ?_ 0 _ rfl; (with_reducible repeat (first | refine blk_drewN ?_ _ | refine blk_drew ?_ | refine blk_alloc ?_ _)); exact BK533.out) hb); have n2_ := Aside0.mk (below_step (by repeat (first | (with_reducible first | exact HB.out | apply below_alloc | apply pw_below_drewN | apply below_drew1 | refine below_set ?_ GE533.out) | exact HB.out)) hb); clear HO532; clear BK533; clear HB; have HO532 := n0_; have BK533 := n1_; have HB := n2_; clear n0_ n1_ n2_; (try clear hb); (try clear hb2); (try clear hk); (try clear hi); have hcz35_0 : w34.cell? ⟨gb533, 0, none⟩ = some (.string t529) := (blk_cell BK533.out 0).trans rfl; have hcz35_1 : w34.cell? ⟨gb533, 1, none⟩ = some (.slice Ao33 t530.length co33) := (blk_cell BK533.out 1).trans rfl; have hfz35_0 := blk_frozen BK533.out 0; have hfz35_1 := blk_frozen BK533.out 1) | ((with_reducible refine gate_callee (f := 35) rfl ?_); refine goesL_ (some 29) rfl rfl Tryd.func35 (by kernel_rfl) rfl #[.agg #[.string t529, .slice Ao33 t530.length co33]] rfl (by (try simp only [List.map_toArray, List.map_cons, List.map_nil]); first | done | rfl | (simp only [List.length_drop, List.length_take]; rfl)) ?_; (with_reducible refine (spec_TargetOf.calls k t529 _ _ t530 t536 t537 _ ?side1 ?side2 A7.out).mono ?_); (case side1 => repeat (first | exact (Kd.R_reads' HO532.out).2.2 | (with_reducible refine Kd.C_alloc ?_ _) | (with_reducible refine Kd.C_drewN ?_ _) | (with_reducible refine Kd.C_drew ?_))); (case side2 => exact (Kd.R_reads' HO532.out).2.1); rintro e w36 ⟨rfl, hb⟩; refine ⟨_, rfl, ?_⟩; have n0_ := Aside0.mk (Kd.R_below (by (with_reducible repeat (first | apply Kd.R_alloc | apply Kd.R_drewN | apply Kd.R_drew)); exact HO532.out) hb); have n1_ := Aside0.mk (blk_below (g := gb533) (o := .cells #[.string t529, .slice Ao33 t530.length co33] 26 (0, 0)) (by (with_reducible repeat (first | refine blk_drewN ?_ _ | refine blk_drew ?_ | refine blk_alloc ?_ _)); exact BK533.out) hb); have n2_ := Aside0.mk (below_step (by repeat (first | (with_reducible first | exact HB.out | apply below_alloc | apply pw_below_drewN | apply below_drew1 | refine below_set ?_ GE533.out) | exact HB.out)) hb); clear HO532; clear BK533; clear HB; have HO532 := n0_; have BK533 := n1_; have HB := n2_; clear n0_ n1_ n2_; (try clear hb); (try clear hb2); (try clear hk); (try clear hi); have hcz37_0 : w36.cell? ⟨gb533, 0, none⟩ = some (.string t529) := (blk_cell BK533.out 0).trans rfl; have hcz37_1 : w36.cell? ⟨gb533, 1, none⟩ = some (.slice Ao33 t530.length co33) := (blk_cell BK533.out 1).trans rfl; have hfz37_0 := blk_frozen BK533.out 0; have hfz37_1 := blk_frozen BK533.out 1) | ((with_reducible refine gate_callee (f := 32) rfl ?_); refine goesL_ (some 34) rfl rfl Tryd.func32 (by kernel_rfl) rfl #[.agg #[.string t529, .slice Ao33 t530.length co33]] rfl (by (try simp only [List.map_toArray, List.map_cons, List.map_nil]); first | done | rfl | (simp only [List.length_drop, List.length_take]; rfl)) ?_; (with_reducible refine (impl_StatusOf.calls k t529 _ _ t530 t538 t539 _ ?side1 ?side2 ?side3 A8.out).mono ?_); (case side1 => repeat (first | exact (Kd.R_reads' HO532.out).2.2 | (with_reducible refine Kd.C_alloc ?_ _) | (with_reducible refine Kd.C_drewN ?_ _) | (with_reducible refine Kd.C_drew ?_))); (case side2 => exact (Kd.R_reads' HO532.out).2.1); (case side3 => first | exact Tab.below HTB.out (by repeat (first | (with_reducible first | exact HB.out | apply below_alloc | apply pw_below_drewN | apply below_drew1 | refine below_set ?_ GE533.out) | exact HB.out)) | exact HTB.out); rintro e w38 ⟨rfl, hb⟩; refine ⟨_, rfl, ?_⟩; have n0_ := Aside0.mk (Kd.R_below (by (with_reducible repeat (first | apply Kd.R_alloc | apply Kd.R_drewN | apply Kd.R_drew)); exact HO532.out) hb); have n1_ := Aside0.mk (blk_below (g := gb533) (o := .cells #[.string t529, .slice Ao33 t530.length co33] 26 (0, 0)) (by (with_reducible repeat (first | refine blk_drewN ?_ _ | refine blk_drew ?_ | refine blk_alloc ?_ _)); exact BK533.out) hb); have n2_ := Aside0.mk (below_step (by repeat (first | (with_reducible first | exact HB.out | apply below_alloc | apply pw_below_drewN | apply below_drew1 | refine below_set ?_ GE533.out) | exact HB.out)) hb); clear HO532; clear BK533; clear HB; have HO532 := n0_; have BK533 := n1_; have HB := n2_; clear n0_ n1_ n2_; (try clear hb); (try clear hb2); (try clear hk); (try clear hi); have hcz39_0 : w38.cell? ⟨gb533, 0, none⟩ = some (.string t529) := (blk_cell BK533.out 0).trans rfl; have hcz39_1 : w38.cell? ⟨gb533, 1, none⟩ = some (.slice Ao33 t530.length co33) := (blk_cell BK533.out 1).trans rfl; have hfz39_0 := blk_frozen BK533.out 0; have hfz39_1 := blk_frozen BK533.out 1) | ((with_reducible refine gate_callee (f := 31) rfl ?_); refine goesL_ (some 39) rfl rfl Tryd.func31 (by kernel_rfl) rfl #[.agg #[.string t529, .slice Ao33 t530.length co33]] rfl (by (try simp only [List.map_toArray, List.map_cons, List.map_nil]); first | done | rfl | (simp only [List.length_drop, List.length_take]; rfl)) ?_; (with_reducible refine (spec_StatusOf.calls k t529 _ _ t530 t540 t541 _ ?side1 ?side2 A9.out).mono ?_); (case side1 => repeat (first | exact (Kd.R_reads' HO532.out).2.2 | (with_reducible refine Kd.C_alloc ?_ _) | (with_reducible refine Kd.C_drewN ?_ _) | (with_reducible refine Kd.C_drew ?_))); (case side2 => exact (Kd.R_reads' HO532.out).2.1); rintro e w40 ⟨rfl, hb⟩; refine ⟨_, rfl, ?_⟩; have n0_ := Aside0.mk (Kd.R_below (by (with_reducible repeat (first | apply Kd.R_alloc | apply Kd.R_drewN | apply Kd.R_drew)); exact HO532.out) hb); have n1_ := Aside0.mk (blk_below (g := gb533) (o := .cells #[.string t529, .slice Ao33 t530.length co33] 26 (0, 0)) (by (with_reducible repeat (first | refine blk_drewN ?_ _ | refine blk_drew ?_ | refine blk_alloc ?_ _)); exact BK533.out) hb); have n2_ := Aside0.mk (below_step (by repeat (first | (with_reducible first | exact HB.out | apply below_alloc | apply pw_below_drewN | apply below_drew1 | refine below_set ?_ GE533.out) | exact HB.out)) hb); clear HO532; clear BK533; clear HB; have HO532 := n0_; have BK533 := n1_; have HB := n2_; clear n0_ n1_ n2_; (try clear hb); (try clear hb2); (try clear hk); (try clear hi)) | ((with_reducible refine gate_callee (f := 18) rfl ?_); refine goesL_ (some 43) rfl rfl Tryd.func18 (by kernel_rfl) rfl #[.slice A0 l0.length c0] rfl (by (try simp only [List.map_toArray, List.map_cons, List.map_nil]); first | done | rfl | (simp only [List.length_drop, List.length_take]; rfl)) ?_; (with_reducible refine (spec_DrawPlaces.calls k _ _ l0 t542 _ ?side1 ?side2 A10.out).mono ?_); (case side1 => repeat (first | exact (Kd.C_below HR0.out HB.out) | (with_reducible refine Kd.C_alloc ?_ _) | (with_reducible refine Kd.C_drewN ?_ _) | (with_reducible refine Kd.C_drew ?_))); (case side2 => exact HC0.out); rintro e w41 ⟨v543, rfl, ho0, hb⟩; refine ⟨_, rfl, ?_⟩; have n0_ := Aside0.mk (Kd.R_below (by (with_reducible repeat (first | apply Kd.R_alloc | apply Kd.R_drewN | apply Kd.R_drew)); exact HO532.out) hb); have n1_ := Aside0.mk (Kd.R_lower ho0 (below_size (by repeat (first | (with_reducible first | exact HB.out | apply below_alloc | apply pw_below_drewN | apply below_drew1 | refine below_set ?_ GE533.out) | exact HB.out)))); have n2_ := Aside0.mk (blk_below (g := gb533) (o := .cells #[.string t529, .slice Ao33 t530.length co33] 26 (0, 0)) (by (with_reducible repeat (first | refine blk_drewN ?_ _ | refine blk_drew ?_ | refine blk_alloc ?_ _)); exact BK533.out) hb); have n3_ := Aside0.mk (below_step (by repeat (first | (with_reducible first | exact HB.out | apply below_alloc | apply pw_below_drewN | apply below_drew1 | refine below_set ?_ GE533.out) | exact HB.out)) hb); clear HO532; clear BK533; clear HB; have HO532 := n0_; have HO544 := n1_; have BK533 := n2_; have HB := n3_; clear n0_ n1_ n2_ n3_; (try clear hb); (try clear hb2); (try clear hk); (try clear hi); (try clear ho0); obtain ⟨Ao42, co42, eo42⟩ := Kd.R_slice HO544.out; subst eo42; have p545 : 0 ≤ (0 : Int) := (by omega); have q545 : 0 < (t542.length : Int) := of_decide_eq_true (by first | (with_reducible assumption) | assumption); obtain ⟨ad545, e545, hx545_0⟩ := Kd.at_int (Kd.R_reads' HO544.out).2.2 0 p545 q545; cases e545; have qi545 : (0 < t542.length) = True := eq_true (by omega); (try rw [show ((0 : Int)).toNat = 0 from rfl] at hx545_0); (try rw [Addr.add_zero'] at hx545_0); replace p545 := eq_true p545; replace q545 := eq_true q545; have p546 : 0 ≤ (1 : Int) := (by omega); have q546 : 1 < (t542.length : Int) := of_decide_eq_true (by first | (with_reducible assumption) | assumption); obtain ⟨ad546, e546, hx546_0⟩ := Kd.at_int (Kd.R_reads' HO544.out).2.2 1 p546 q546; obtain rfl : ad545 = ad546 := (by injection e546); (try simp only [show (1 : Int).toNat = 1 from rfl, Nat.reduceMul, Nat.reduceEqDiff, Go.Addr.add, ↓reduceIte] at hx546_0); have qi546 : (1 < t542.length) = True := eq_true (by omega); (try rw [show ((1 : Int)).toNat = 1 from rfl] at hx546_0); replace p546 := eq_true p546; replace q546 := eq_true q546) | ((with_reducible refine gate_callee (f := 36) rfl ?_); refine goesL_ (some 53) rfl rfl Tryd.func36 (by kernel_rfl) rfl #[.int .i64 (rd t542 1)] rfl (by (try simp only [List.map_toArray, List.map_cons, List.map_nil]); first | done | rfl | (simp only [List.length_drop, List.length_take]; rfl)) ?_; (with_reducible refine (spec_Decimal.calls k (rd t542 1) t547 _ A13.out).mono ?_); rintro e w43 ⟨rfl, hb⟩; refine ⟨_, rfl, ?_⟩; have n0_ := Aside0.mk (Kd.R_below (by (with_reducible repeat (first | apply Kd.R_alloc | apply Kd.R_drewN | apply Kd.R_drew)); exact HO532.out) hb); have n1_ := Aside0.mk (Kd.R_below (by (with_reducible repeat (first | apply Kd.R_alloc | apply Kd.R_drewN | apply Kd.R_drew)); exact HO544.out) hb); have n2_ := Aside0.mk (blk_below (g := gb533) (o := .cells #[.string t529, .slice Ao33 t530.length co33] 26 (0, 0)) (by (with_reducible repeat (first | refine blk_drewN ?_ _ | refine blk_drew ?_ | refine blk_alloc ?_ _)); exact BK533.out) hb); have n3_ := Aside0.mk (below_step (by repeat (first | (with_reducible first | exact HB.out | apply below_alloc | apply pw_below_drewN | apply below_drew1 | refine below_set ?_ GE533.out) | exact HB.out)) hb); clear HO532; clear HO544; clear BK533; clear HB; have HO532 := n0_; have HO544 := n1_; have BK533 := n2_; have HB := n3_; clear n0_ n1_ n2_ n3_; (try clear hb); (try clear hb2); (try clear hk); (try clear hi)) | ((with_reducible refine gate_callee (f := 34) rfl ?_); refine goesL_ (some 57) rfl rfl Tryd.func34 (by kernel_rfl) rfl #[.agg #[.string (((⟨#[71, 69, 84, 32, 47, 120]⟩ : ByteArray) ++ t547) ++ (⟨#[32, 72, 84, 84, 80, 47, 49, 46, 49]⟩ : ByteArray)), .slice none 0 0]] rfl (by (try simp only [List.map_toArray, List.map_cons, List.map_nil]); first | done | rfl | (simp only [List.length_drop, List.length_take]; rfl)) ?_; (refine (impl_TargetOf.calls k (((⟨#[71, 69, 84, 32, 47, 120]⟩ : ByteArray) ++ t547) ++ (⟨#[32, 72, 84, 84, 80, 47, 49, 46, 49]⟩ : ByteArray)) _ _ ([] : List (S40)) t548 true _ ?side1 ?side2 A16.out).mono ?_); (case side1 => exact Kd.C_nil _ _); (case side2 => exact Nat.le_refl _); rintro e w44 ⟨rfl, hb⟩; refine ⟨_, rfl, ?_⟩; have n0_ := Aside0.mk (Kd.R_below (by (with_reducible repeat (first | apply Kd.R_alloc | apply Kd.R_drewN | apply Kd.R_drew)); exact HO532.out) hb); have n1_ := Aside0.mk (Kd.R_below (by (with_reducible repeat (first | apply Kd.R_alloc | apply Kd.R_drewN | apply Kd.R_drew)); exact HO544.out) hb); have n2_ := Aside0.mk (blk_below (g := gb533) (o := .cells #[.string t529, .slice Ao33 t530.length co33] 26 (0, 0)) (by (with_reducible repeat (first | refine blk_drewN ?_ _ | refine blk_drew ?_ | refine blk_alloc ?_ _)); exact BK533.out) hb); have n3_ := Aside0.mk (below_step (by repeat (first | (with_reducible first | exact HB.out | apply below_alloc | apply pw_below_drewN | apply below_drew1 | refine below_set ?_ GE533.out) | exact HB.out)) hb); clear HO532; clear HO544; clear BK533; clear HB; have HO532 := n0_; have HO544 := n1_; have BK533 := n2_; have HB := n3_; clear n0_ n1_ n2_ n3_; (try clear hb); (try clear hb2); (try clear hk); (try clear hi)) | ((with_reducible refine gate_callee (f := 36) rfl ?_); refine goesL_ (some 62) rfl rfl Tryd.func36 (by kernel_rfl) rfl #[.int .i64 (wrap64 (100 + (Int.tmod (rd t542 0) 500)))] rfl (by (try simp only [List.map_toArray, List.map_cons, List.map_nil]); first | done | rfl | (simp only [List.length_drop, List.length_take]; rfl)) ?_; (with_reducible refine (spec_Decimal.calls k (wrap64 (100 + (Int.tmod (rd t542 0) 500))) t550 _ A17.out).mono ?_); rintro e w45 ⟨rfl, hb⟩; refine ⟨_, rfl, ?_⟩; have n0_ := Aside0.mk (Kd.R_below (by (with_reducible repeat (first | apply Kd.R_alloc | apply Kd.R_drewN | apply Kd.R_drew)); exact HO532.out) hb); have n1_ := Aside0.mk (Kd.R_below (by (with_reducible repeat (first | apply Kd.R_alloc | apply Kd.R_drewN | apply Kd.R_drew)); exact HO544.out) hb); have n2_ := Aside0.mk (blk_below (g := gb533) (o := .cells #[.string t529, .slice Ao33 t530.length co33] 26 (0, 0)) (by (with_reducible repeat (first | refine blk_drewN ?_ _ | refine blk_drew ?_ | refine blk_alloc ?_ _)); exact BK533.out) hb); have n3_ := Aside0.mk (below_step (by repeat (first | (with_reducible first | exact HB.out | apply below_alloc | apply pw_below_drewN | apply below_drew1 | refine below_set ?_ GE533.out) | exact HB.out)) hb); clear HO532; clear HO544; clear BK533; clear HB; have HO532 := n0_; have HO544 := n1_; have BK533 := n2_; have HB := n3_; clear n0_ n1_ n2_ n3_; (try clear hb); (try clear hb2); (try clear hk); (try clear hi)) | ((with_reducible refine gate_callee (f := 32) rfl ?_); refine goesL_ (some 66) rfl rfl Tryd.func32 (by kernel_rfl) rfl #[.agg #[.string (((⟨#[72, 84, 84, 80, 47, 49, 46, 49, 32]⟩ : ByteArray) ++ t550) ++ (⟨#[32, 115, 97, 105, 100]⟩ : ByteArray)), .slice none 0 0]] rfl (by (try simp only [List.map_toArray, List.map_cons, List.map_nil]); first | done | rfl | (simp only [List.length_drop, List.length_take]; rfl)) ?_; (refine (impl_StatusOf.calls k (((⟨#[72, 84, 84, 80, 47, 49, 46, 49, 32]⟩ : ByteArray) ++ t550) ++ (⟨#[32, 115, 97, 105, 100]⟩ : ByteArray)) _ _ ([] : List (S40)) t551 true _ ?side1 ?side2 ?side3 A20.out).mono ?_); (case side1 => exact Kd.C_nil _ _); (case side2 => exact Nat.le_refl _); (case side3 => first | exact Tab.below HTB.out (by repeat (first | (with_reducible first | exact HB.out | apply below_alloc | apply pw_below_drewN | apply below_drew1 | refine below_set ?_ GE533.out) | exact HB.out)) | exact HTB.out); rintro e w46 ⟨rfl, hb⟩; refine ⟨_, rfl, ?_⟩; have n0_ := Aside0.mk (Kd.R_below (by (with_reducible repeat (first | apply Kd.R_alloc | apply Kd.R_drewN | apply Kd.R_drew)); exact HO532.out) hb); have n1_ := Aside0.mk (Kd.R_below (by (with_reducible repeat (first | apply Kd.R_alloc | apply Kd.R_drewN | apply Kd.R_drew)); exact HO544.out) hb); have n2_ := Aside0.mk (blk_below (g := gb533) (o := .cells #[.string t529, .slice Ao33 t530.length co33] 26 (0, 0)) (by (with_reducible repeat (first | refine blk_drewN ?_ _ | refine blk_drew ?_ | refine blk_alloc ?_ _)); exact BK533.out) hb); have n3_ := Aside0.mk (below_step (by repeat (first | (with_reducible first | exact HB.out | apply below_alloc | apply pw_below_drewN | apply below_drew1 | refine below_set ?_ GE533.out) | exact HB.out)) hb); clear HO532; clear HO544; clear BK533; clear HB; have HO532 := n0_; have HO544 := n1_; have BK533 := n2_; have HB := n3_; clear n0_ n1_ n2_ n3_; (try clear hb); (try clear hb2); (try clear hk); (try clear hi); have p553 : 0 ≤ (1 : Int) := (by omega); have q553 : 1 < (t542.length : Int) := of_decide_eq_true (by first | (with_reducible assumption) | assumption); obtain ⟨ad553, e553, hx553_0⟩ := Kd.at_int (Kd.R_reads' HO544.out).2.2 1 p553 q553; obtain rfl : ad545 = ad553 := (by injection e553); (try simp only [show (1 : Int).toNat = 1 from rfl, Nat.reduceMul, Nat.reduceEqDiff, Go.Addr.add, ↓reduceIte] at hx553_0); have qi553 : (1 < t542.length) = True := eq_true (by omega); (try rw [show ((1 : Int)).toNat = 1 from rfl] at hx553_0); replace p553 := eq_true p553; replace q553 := eq_true q553) | (go_at_call 36; (with_reducible refine (spec_Decimal.calls k (rd t542 1) t554 _ A26.out).mono ?_); rintro e w47 ⟨rfl, hb⟩; have n0_ := Aside0.mk (Kd.R_below (by (with_reducible repeat (first | apply Kd.R_alloc | apply Kd.R_drewN | apply Kd.R_drew)); exact HO532.out) hb); have n1_ := Aside0.mk (Kd.R_below (by (with_reducible repeat (first | apply Kd.R_alloc | apply Kd.R_drewN | apply Kd.R_drew)); exact HO544.out) hb); have n2_ := Aside0.mk (blk_below (g := gb533) (o := .cells #[.string t529, .slice Ao33 t530.length co33] 26 (0, 0)) (by (with_reducible repeat (first | refine blk_drewN ?_ _ | refine blk_drew ?_ | refine blk_alloc ?_ _)); exact BK533.out) hb); have n3_ := Aside0.mk (below_step (by repeat (first | (with_reducible first | exact HB.out | apply below_alloc | apply pw_below_drewN | apply below_drew1 | refine below_set ?_ GE533.out) | exact HB.out)) hb); clear HO532; clear HO544; clear BK533; clear HB; have HO532 := n0_; have HO544 := n1_; have BK533 := n2_; have HB := n3_; clear n0_ n1_ n2_ n3_; (try clear hb); (try clear hb2); (try clear hk); (try clear hi)))
                                go_ret
                                exact ⟨by first | rfl | (simp [errW_none, errW_some] <;> rfl) | (simp [*, errW_none, errW_some] <;> rfl), by repeat (first | (with_reducible first | exact HB.out | apply below_alloc | apply pw_below_drewN | apply below_drew1 | refine below_set ?_ GE533.out) | exact HB.out)⟩
                              · replace c29 := Bool.eq_false_iff.mpr c29
                                subst c29
                                have H1 : (none) = some r := by rw [if_neg (show ¬ (false = true) by decide)] at H; exact H
                                clear H
                                have H := H1
                                clear H1
                                exact absurd H (by simp)
                            · rw [if_neg c28] at H
                              exact absurd H (by simp)
                          · rw [if_neg c27] at H
                            exact absurd H (by simp)
                        · replace c25 := Bool.eq_false_iff.mpr c25
                          subst c25
                          have H1 : (none) = some r := by rw [if_neg (show ¬ (false = true) by decide)] at H; exact H
                          clear H
                          have H := H1
                          clear H1
                          exact absurd H (by simp)
                      · rw [if_neg c24] at H
                        exact absurd H (by simp)
                    · rw [if_neg c23] at H
                      exact absurd H (by simp)
                  · rw [if_neg c22] at H
                    exact absurd H (by simp)
                · rw [if_neg c21] at H
                  exact absurd H (by simp)
              · rw [if_neg c19] at H
                exact absurd H (by simp)
            · rw [if_neg c18] at H
              exact absurd H (by simp)
          · rw [if_neg c15] at H
            exact absurd H (by simp)
        · rw [if_neg c14] at H
          exact absurd H (by simp)
      · rw [if_neg c12] at H
        exact absurd H (by simp)
    · rw [if_neg c11] at H
      exact absurd H (by simp)
end Go.Proofs.YtiibecpllokhiaaDoor.Q
