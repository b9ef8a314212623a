import Derived.Lib.SplitLaws
import Derived.Test.YthjigecaojaalaaDoorKlShelf
import Derived.Test.YthjigecaojaalaaDoorKlB0
import Derived.Test.YthjigecaojaalaaDoorKlG35
import Derived.Test.YthjigecaojaalaaDoorKlWords
namespace Go.Proofs.YthjigecaojaalaaDoor.Q
open Go.RowKit Go.Proofs.YthjigecaojaalaaDoorW.PrintWords Go.Proofs.YthjigecaojaalaaDoorW.PrintLast Go.Proofs.YthjigecaojaalaaDoorW.PrintMore
attribute [local go_sem] max2_int min2_int max_two min_two max_three min_three max_four min_four   -- for this text's walks alone
set_option linter.unusedVariables false
set_option linter.unusedSimpArgs false
def strings_Split.f (a0 : ByteArray) (a1 : ByteArray) : Option (List ByteArray) := if a0.size < 4294967281 ∧ 1 ≤ a1.size ∧ Lib.countB a0 a1 + 1 ≤ maxLen then some (Lib.splitB a1 0 (Lib.countB a0 a1) a0) else none
theorem strings_Split.calls (a0 : ByteArray) (a1 : ByteArray) (r : List ByteArray) (w : World) (hsh : Shp w) (h : strings_Split.f a0 a1 = some r) :
    Calls Tryd.prog 34 #[.string a0, .string a1] w fun e w' => ∃ v0_ : Value, e = .returned (v0_) ∧ Kd.R Kd.string 9 w' w.heap.size (fun _ => True) v0_ r ∧ Below w.heap.size w w' := by
  unfold strings_Split.f at h
  by_cases c : a0.size < 4294967281 ∧ 1 ≤ a1.size ∧ Lib.countB a0 a1 + 1 ≤ maxLen
  · rw [if_pos c] at h
    obtain rfl := Option.some.inj h
    obtain ⟨m, hm⟩ := hsh
    have hl := Lib.splitB_all a1 c.2.1 0 (Lib.countB a0 a1) a0 rfl
    refine (Tryd.strings_Split a0 a1 m w c.1 hm c.2.1).mono ?_
    rintro e w' ⟨rfl, rfl⟩
    refine ⟨_, rfl, Kd.R_of_own (enc := Value.string) ⟨by simp [encs], .inr ⟨w.heap.size, Lib.countB a0 a1 + 1, _, by rw [hl], Nat.le_refl _, heap_alloc_new _ _, ?_, ?_, ?_, ?_⟩⟩ (fun _ _ => trivial), (Below.refl _ _).alloc (Nat.le_refl _) _⟩
    · rw [hl]; exact Nat.le_refl _
    · exact c.2.2
    · simp [hl]
    · simp only [encs, Nat.mul_one]
      exact List.take_of_length_le (by simp [hl])
  · rw [if_neg c] at h; exact absurd h (by simp)
mutual
def impl_ControlOf.l0 : Nat → List ByteArray → Int → Int → Bool → Bool → Int → Int → Option (Bool × Bool × Int × Int)
  | 0, _, _, _, _, _, _, _ => none
  | k + 1, x13, x14, x15, x182000, x182001, x182002, x182003 => if x15 < x14 then (if 0 ≤ x15 then (if x15 < (x13.length : Int) then ((strings_Trim.f (rdOf ByteArray.empty x13 x15) (⟨#[32]⟩ : ByteArray)).bind fun t186 => ((impl_lower.f t186).bind fun t187 => (if t187.toList = ([110, 111, 45, 115, 116, 111, 114, 101] : List UInt8) then (impl_ControlOf.j1 k t187 x13 x14 x15 t187 (t187.toList == ([110, 111, 45, 115, 116, 111, 114, 101] : List UInt8)) x182000 x182001 x182002 x182003) else (impl_ControlOf.j1 k t187 x13 x14 x15 t187 (t187.toList == ([112, 114, 105, 118, 97, 116, 101] : List UInt8)) x182000 x182001 x182002 x182003)))) else (none)) else (none)) else (some (x182000, x182001, x182002, x182003))
def impl_ControlOf.j2 : Nat → ByteArray → List ByteArray → Int → Int → Bool → Bool → Int → Int → Option (Bool × Bool × Int × Int)
  | 0, _, _, _, _, _, _, _, _ => none
  | k + 1, x5, x13, x14, x15, x182000, x182001, x182002, x182003 => (strings_Cut.f x5 (⟨#[61]⟩ : ByteArray)).bind fun bt188 => ((impl_figuresOf.f k bt188.2.1 6).bind fun bt191 => (if bt191.2 = true then (impl_ControlOf.j3 k bt188.1 bt191.1 bt191.2 x13 x14 x15 (bt188.1.toList == ([109, 97, 120, 45, 97, 103, 101] : List UInt8)) x182000 x182001 x182002 x182003) else (impl_ControlOf.j3 k bt188.1 bt191.1 bt191.2 x13 x14 x15 false x182000 x182001 x182002 x182003)))
def impl_ControlOf.j3 : Nat → ByteArray → Int → Bool → List ByteArray → Int → Int → Bool → Bool → Bool → Int → Int → Option (Bool × Bool × Int × Int)
  | 0, _, _, _, _, _, _, _, _, _, _, _ => none
  | k + 1, x6, x9, x10, x13, x14, x15, x45, x182000, x182001, x182002, x182003 => if x45 = true then (if x10 = true then (if x6.toList = ([115, 45, 109, 97, 120, 97, 103, 101] : List UInt8) then (impl_ControlOf.l0 k x13 x14 (wrap64 (x15 + 1)) x182000 x182001 x9 x9) else (impl_ControlOf.l0 k x13 x14 (wrap64 (x15 + 1)) x182000 x182001 x9 x182003)) else (impl_ControlOf.l0 k x13 x14 (wrap64 (x15 + 1)) x182000 x182001 x9 x182003)) else (if x10 = true then (if x6.toList = ([115, 45, 109, 97, 120, 97, 103, 101] : List UInt8) then (impl_ControlOf.l0 k x13 x14 (wrap64 (x15 + 1)) x182000 x182001 x182002 x9) else (impl_ControlOf.l0 k x13 x14 (wrap64 (x15 + 1)) x182000 x182001 x182002 x182003)) else (impl_ControlOf.l0 k x13 x14 (wrap64 (x15 + 1)) x182000 x182001 x182002 x182003))
def impl_ControlOf.j1 : Nat → ByteArray → List ByteArray → Int → Int → ByteArray → Bool → Bool → Bool → Int → Int → Option (Bool × Bool × Int × Int)
  | 0, _, _, _, _, _, _, _, _, _, _ => none
  | k + 1, x5, x13, x14, x15, x22, x23, x182000, x182001, x182002, x182003 => if x23 = true then (impl_ControlOf.j2 k x5 x13 x14 x15 true x182001 x182002 x182003) else (if x22.toList = ([110, 111, 45, 99, 97, 99, 104, 101] : List UInt8) then (impl_ControlOf.j2 k x5 x13 x14 x15 x182000 true x182002 x182003) else (impl_ControlOf.j2 k x5 x13 x14 x15 x182000 x182001 x182002 x182003))
end
def impl_ControlOf.f (k : Nat) (a0 : ByteArray) : Option (Bool × Bool × Int × Int) := (strings_Split.f a0 (⟨#[44]⟩ : ByteArray)).bind fun t182 => (impl_ControlOf.l0 k t182 (t182.length : Int) 0 false false (-1) (-1))
set_option maxHeartbeats 8000000 in
set_option maxRecDepth 100000 in
theorem impl_ControlOf.calls (k : Nat) (a0 : ByteArray) (r1 : Bool) (r2 : Bool) (r3 : Int) (r4 : Int) (w : World) (hsh : Shp w) (h : impl_ControlOf.f k a0 = some (r1, r2, r3, r4)) :
    Calls Tryd.prog 12 #[.string a0] w fun e w' => e = .returned (.agg #[.bool r1, .bool r2, .int .i64 r3, .int .i64 r4]) ∧ Below w.heap.size w w' := by
  have hu25 := Tryd.underlying25
  have HSH := Aside0.mk hsh
  clear hsh
  have HB := Aside0.mk (Below.refl w.heap.size w)
  have H : ((strings_Split.f a0 (⟨#[44]⟩ : ByteArray)).bind fun t182 => (impl_ControlOf.l0 k t182 (t182.length : Int) 0 false false (-1) (-1))) = some (r1, r2, r3, r4) := h
  clear h
  replace H := Option.bind_eq_some_iff.mp H
  obtain ⟨t182, A20, H⟩ := H
  replace H : (impl_ControlOf.l0 k t182 (t182.length : Int) 0 false false (-1) (-1)) = some (r1, r2, r3, r4) := H
  have A2 := Aside0.mk A20
  clear A20
  have H' := Aside0.mk H
  clear H
  go_enter Tryd.func12, Tryd.ntmps12
  go_wp2_with (first | ((with_reducible refine gate_dst (N := 2) rfl ?_); refine box_event ?hg (N := 2) ?hd (cs := #[.bool false, .bool false, .int .i64 0, .int .i64 0]) (t := 25) ?hr ?_; (case hd => rfl); (case hg => rfl); (case hr => (go_simp; done)); intro gb180 hg w3 hbox hb; have n0_ := Aside0.mk (below_step (by repeat ((with_reducible exact HB.out))) hb); have n1_ := Aside0.mk (hbox); have n2_ := Aside0.mk ((by rw [hg]; exact (below_size (by repeat ((with_reducible exact HB.out)))) : w.heap.size ≤ gb180)); have n3_ := Aside0.mk ((by rw [hg]; exact (below_size (by repeat ((with_reducible exact HB.out)))) : w.heap.size ≤ gb180)); clear HB; have HB := n0_; have BK180 := n1_; have GW180 := n2_; have GE180 := n3_; clear n0_ n1_ n2_ n3_; clear hb hbox hg) | ((with_reducible refine gate_dst (N := 3) rfl ?_); refine box_event ?hg (N := 3) ?hd (cs := #[.bool false, .bool false, .int .i64 0, .int .i64 0]) (t := 25) ?hr ?_; (case hd => rfl); (case hg => rfl); (case hr => (go_simp; done)); intro gb181 hg w4 hbox hb; have n0_ := Aside0.mk (blk_below (g := gb180) (o := .cells #[.bool false, .bool false, .int .i64 0, .int .i64 0] 25 (0, 0)) (by (with_reducible repeat (first | refine blk_drewN ?_ _ | refine blk_drew ?_ | refine blk_alloc ?_ _ )); exact BK180.out) hb); have n1_ := Aside0.mk (below_step (by repeat ((with_reducible exact HB.out))) hb); have n2_ := Aside0.mk (hbox); have n3_ := Aside0.mk ((by rw [hg]; exact (below_size (by repeat ((with_reducible exact HB.out)))) : w.heap.size ≤ gb181)); have n4_ := Aside0.mk ((by rw [hg]; exact (below_size (by repeat ((with_reducible exact HB.out)))) : w.heap.size ≤ gb181)); have n5_ := Aside0.mk ((by rw [hg]; exact Nat.ne_of_lt (blk_lt (g := gb180) (o := .cells #[.bool false, .bool false, .int .i64 0, .int .i64 0] 25 (0, 0)) (by (with_reducible repeat (first | refine blk_drewN ?_ _ | refine blk_drew ?_ | refine blk_alloc ?_ _ )); exact BK180.out)) : gb180 ≠ gb181)); have n6_ := Aside0.mk ((by rw [hg]; exact Nat.ne_of_gt (blk_lt (g := gb180) (o := .cells #[.bool false, .bool false, .int .i64 0, .int .i64 0] 25 (0, 0)) (by (with_reducible repeat (first | refine blk_drewN ?_ _ | refine blk_drew ?_ | refine blk_alloc ?_ _ )); exact BK180.out)) : gb181 ≠ gb180)); clear BK180; clear HB; have BK180 := n0_; have HB := n1_; have BK181 := n2_; have GW181 := n3_; have GE181 := n4_; have NB180_181 := n5_; have NB181_180 := n6_; clear n0_ n1_ n2_ n3_ n4_ n5_ n6_; clear hb hbox hg; have hnb5 := NB181_180.out; have hnc5 := NB180_181.out; have hcz6_0 : w4.cell? ⟨gb181, 0, none⟩ = some (.bool false) := (blk_cell BK181.out 0).trans rfl; have hcz6_1 : w4.cell? ⟨gb181, 1, none⟩ = some (.bool false) := (blk_cell BK181.out 1).trans rfl; have hcz6_2 : w4.cell? ⟨gb181, 2, none⟩ = some (.int .i64 0) := (blk_cell BK181.out 2).trans rfl; have hcz6_3 : w4.cell? ⟨gb181, 3, none⟩ = some (.int .i64 0) := (blk_cell BK181.out 3).trans rfl; have hfz6_0 := blk_frozen BK181.out 0; have hfz6_1 := blk_frozen BK181.out 1; have hfz6_2 := blk_frozen BK181.out 2; have hfz6_3 := blk_frozen BK181.out 3) | ((with_reducible refine gate_callee (f := 34) rfl ?_); refine goesL_ (some 13) rfl rfl Tryd.func34 (by kernel_rfl) rfl #[.string a0, .string (⟨#[44]⟩ : ByteArray)] rfl (by (try simp only [List.map_toArray, List.map_cons, List.map_nil]); rfl) ?_; (with_reducible refine (strings_Split.calls a0 (⟨#[44]⟩ : ByteArray) t182 _ ?side1 A2.out).mono ?_); (case side1 => exact Shp.below HSH.out (by repeat ((with_reducible first | exact HB.out | refine below_set ?_ GE181.out)))); rintro e w7 ⟨v183, rfl, ho0, hb⟩; refine ⟨_, rfl, ?_⟩; have n0_ := Aside0.mk (Kd.R_lower ho0 (below_size (by repeat ((with_reducible first | exact HB.out | refine below_set ?_ GE181.out))))); have n1_ := Aside0.mk (blk_below (g := gb180) (o := .cells #[.bool false, .bool false, .int .i64 0, .int .i64 0] 25 (0, 0)) (by (with_reducible repeat (first | refine blk_drewN ?_ _ | refine blk_drew ?_ | refine blk_alloc ?_ _ )); refine blk_far ?_ NB180_181.out _; (with_reducible repeat (first | refine blk_drewN ?_ _ | refine blk_drew ?_ | refine blk_alloc ?_ _ )); refine blk_far ?_ NB180_181.out _; (with_reducible repeat (first | refine blk_drewN ?_ _ | refine blk_drew ?_ | refine blk_alloc ?_ _ )); refine blk_far ?_ NB180_181.out _; (with_reducible repeat (first | refine blk_drewN ?_ _ | refine blk_drew ?_ | refine blk_alloc ?_ _ )); refine blk_far ?_ NB180_181.out _; (with_reducible repeat (first | refine blk_drewN ?_ _ | refine blk_drew ?_ | refine blk_alloc ?_ _ )); exact BK180.out) hb); have n2_ := Aside0.mk (blk_below (g := gb181) (o := .cells #[.bool false, .bool false, .int .i64 (-1), .int .i64 (-1)] 25 (0, 0)) (by (with_reducible repeat (first | refine blk_drewN ?_ _ | refine blk_drew ?_ | refine blk_alloc ?_ _ )); refine blk_put (cs := #[.bool false, .bool false, .int .i64 (-1), .int .i64 0]) ?_ 3 _ rfl; (with_reducible repeat (first | refine blk_drewN ?_ _ | refine blk_drew ?_ | refine blk_alloc ?_ _ )); refine blk_put (cs := #[.bool false, .bool false, .int .i64 0, .int .i64 0]) ?_ 2 _ rfl; (with_reducible repeat (first | refine blk_drewN ?_ _ | refine blk_drew ?_ | refine blk_alloc ?_ _ )); refine blk_put (cs := #[.bool false, .bool false, .int .i64 0, .int .i64 0]) ?_ 1 _ rfl; (with_reducible repeat (first | refine blk_drewN ?_ _ | refine blk_drew ?_ | refine blk_alloc ?_ _ )); refine blk_put (cs := #[.bool false, .bool false, .int .i64 0, .int .i64 0]) ?_ 0 _ rfl; (with_reducible repeat (first | refine blk_drewN ?_ _ | refine blk_drew ?_ | refine blk_alloc ?_ _ )); exact BK181.out) hb); have n3_ := Aside0.mk (below_step (by repeat ((with_reducible first | exact HB.out | refine below_set ?_ GE181.out))) hb); clear BK180; clear BK181; clear HB; have HO184 := n0_; have BK180 := n1_; have BK181 := n2_; have HB := n3_; clear n0_ n1_ n2_ n3_; (try clear hb); (try clear hb2); (try clear hk); (try clear hi); (try clear ho0); obtain ⟨Ao8, co8, eo8⟩ := Kd.R_slice HO184.out; subst eo8))
  go_loopg [15] k (fun kq v15 w' => ∃ (x15_1 : Int) (x182000_1 : Bool) (x182001_1 : Bool) (x182002_1 : Int) (x182003_1 : Int), v15 = .int .i64 x15_1 ∧ Aside0 (impl_ControlOf.l0 kq t182 (t182.length : Int) x15_1 x182000_1 x182001_1 x182002_1 x182003_1 = some (r1, r2, r3, r4)) ∧ Aside0 (kq ≤ k) ∧ Aside0 (Kd.R Kd.string 9 w' w.heap.size (fun _ => True) (.slice Ao8 t182.length co8) t182) ∧ Aside0 (w'.heap[gb180]? = some (.cells #[.bool false, .bool false, .int .i64 0, .int .i64 0] 25 (0, 0))) ∧ Aside0 (w'.heap[gb181]? = some (.cells #[.bool x182000_1, .bool x182001_1, .int .i64 x182002_1, .int .i64 x182003_1] 25 (0, 0))) ∧ Aside0 (Below w.heap.size w w'))
  case atStart => exact ⟨(0), (false), (false), ((-1)), ((-1)), (by rfl), H', ⟨Nat.le_refl _⟩, ⟨by (with_reducible repeat (first | apply Kd.R_alloc | apply Kd.R_drewN | apply Kd.R_drew )); exact HO184.out⟩, ⟨by (with_reducible repeat (first | refine blk_drewN ?_ _ | refine blk_drew ?_ | refine blk_alloc ?_ _ )); exact BK180.out⟩, ⟨by (with_reducible repeat (first | refine blk_drewN ?_ _ | refine blk_drew ?_ | refine blk_alloc ?_ _ )); exact BK181.out⟩, ⟨by repeat ((with_reducible exact HB.out))⟩⟩
  case round =>
    clear H'
    clear hcz6_0
    clear hcz6_1
    clear hcz6_2
    clear hcz6_3
    clear hfz6_0
    clear hfz6_1
    clear hfz6_2
    clear hfz6_3
    obtain ⟨x15_1, x182000_1, x182001_1, x182002_1, x182003_1, rfl, HA, HK1, HO_13, BK180, BK181, HB⟩ := hrel
    cases gk with
    | zero => exact absurd HA.out (by simp [impl_ControlOf.l0])
    | succ k1 =>
      have H := HA.out
      clear HA
      simp only [impl_ControlOf.l0] at H
      by_cases c9 : x15_1 < (t182.length : Int)
      · rw [if_pos c9] at H
        have c9b0 : decide (x15_1 < (t182.length : Int)) = true := decide_eq_true c9
        clear c9
        by_cases c10 : 0 ≤ x15_1
        · rw [if_pos c10] at H
          have c10b0 : decide (0 ≤ x15_1) = true := decide_eq_true c10
          clear c10
          by_cases c11 : x15_1 < (t182.length : Int)
          · rw [if_pos c11] at H
            have c11b0 : decide (x15_1 < (t182.length : Int)) = true := decide_eq_true c11
            clear c11
            replace H := Option.bind_eq_some_iff.mp H
            obtain ⟨t186, A120, H⟩ := H
            replace H : ((impl_lower.f t186).bind fun t187 => (if t187.toList = ([110, 111, 45, 115, 116, 111, 114, 101] : List UInt8) then (impl_ControlOf.j1 k1 t187 t182 (t182.length : Int) x15_1 t187 (t187.toList == ([110, 111, 45, 115, 116, 111, 114, 101] : List UInt8)) x182000_1 x182001_1 x182002_1 x182003_1) else (impl_ControlOf.j1 k1 t187 t182 (t182.length : Int) x15_1 t187 (t187.toList == ([112, 114, 105, 118, 97, 116, 101] : List UInt8)) x182000_1 x182001_1 x182002_1 x182003_1))) = some (r1, r2, r3, r4) := H
            have A12 := Aside0.mk A120
            clear A120
            replace H := Option.bind_eq_some_iff.mp H
            obtain ⟨t187, A130, H⟩ := H
            replace H : (if t187.toList = ([110, 111, 45, 115, 116, 111, 114, 101] : List UInt8) then (impl_ControlOf.j1 k1 t187 t182 (t182.length : Int) x15_1 t187 (t187.toList == ([110, 111, 45, 115, 116, 111, 114, 101] : List UInt8)) x182000_1 x182001_1 x182002_1 x182003_1) else (impl_ControlOf.j1 k1 t187 t182 (t182.length : Int) x15_1 t187 (t187.toList == ([112, 114, 105, 118, 97, 116, 101] : List UInt8)) x182000_1 x182001_1 x182002_1 x182003_1)) = some (r1, r2, r3, r4) := H
            have A13 := Aside0.mk A130
            clear A130
            have HC14 := Aside0.mk H
            clear H
            have p185 : 0 ≤ (x15_1 : Int) := of_decide_eq_true (by (with_reducible assumption))
            have q185 : x15_1 < (t182.length : Int) := of_decide_eq_true (by (with_reducible assumption))
            obtain ⟨ad185, e185, hx185_0⟩ := Kd.at_string (Kd.R_reads' HO_13.out).2.2 x15_1 p185 q185
            cases e185
            replace p185 := eq_true p185
            replace q185 := eq_true q185
            go_upto_block 2 with (first | ((with_reducible refine gate_callee (f := 36) rfl ?_); refine goesL_ (some 20) rfl rfl Tryd.func36 (by kernel_rfl) rfl #[.string (rdOf ByteArray.empty t182 x15_1), .string (⟨#[32]⟩ : ByteArray)] rfl (by (try simp only [List.map_toArray, List.map_cons, List.map_nil]); rfl) ?_; (with_reducible refine (strings_Trim.calls (rdOf ByteArray.empty t182 x15_1) (⟨#[32]⟩ : ByteArray) t186 _ A12.out).mono ?_); rintro e w15 ⟨rfl, hb⟩; refine ⟨_, rfl, ?_⟩; have n0_ := Aside0.mk (Kd.R_below (by (with_reducible repeat (first | apply Kd.R_alloc | apply Kd.R_drewN | apply Kd.R_drew )); exact HO_13.out) hb); have n1_ := Aside0.mk (blk_below (g := gb180) (o := .cells #[.bool false, .bool false, .int .i64 0, .int .i64 0] 25 (0, 0)) (by (with_reducible repeat (first | refine blk_drewN ?_ _ | refine blk_drew ?_ | refine blk_alloc ?_ _ )); exact BK180.out) hb); have n2_ := Aside0.mk (blk_below (g := gb181) (o := .cells #[.bool x182000_1, .bool x182001_1, .int .i64 x182002_1, .int .i64 x182003_1] 25 (0, 0)) (by (with_reducible repeat (first | refine blk_drewN ?_ _ | refine blk_drew ?_ | refine blk_alloc ?_ _ )); exact BK181.out) hb); have n3_ := Aside0.mk (below_step (by repeat ((with_reducible exact HB.out))) hb); clear HO_13; clear BK180; clear BK181; clear HB; have HO_13 := n0_; have BK180 := n1_; have BK181 := n2_; have HB := n3_; clear n0_ n1_ n2_ n3_; (try clear hb); (try clear hb2); (try clear hk); (try clear hi)) | ((with_reducible refine gate_callee (f := 35) rfl ?_); refine goesL_ (some 21) rfl rfl Tryd.func35 (by kernel_rfl) rfl #[.string t186] rfl (by (try simp only [List.map_toArray, List.map_cons, List.map_nil]); rfl) ?_; (with_reducible refine (impl_lower.calls t186 t187 _ A13.out).mono ?_); rintro e w16 ⟨rfl, hb⟩; refine ⟨_, rfl, ?_⟩; have n0_ := Aside0.mk (Kd.R_below (by (with_reducible repeat (first | apply Kd.R_alloc | apply Kd.R_drewN | apply Kd.R_drew )); exact HO_13.out) hb); have n1_ := Aside0.mk (blk_below (g := gb180) (o := .cells #[.bool false, .bool false, .int .i64 0, .int .i64 0] 25 (0, 0)) (by (with_reducible repeat (first | refine blk_drewN ?_ _ | refine blk_drew ?_ | refine blk_alloc ?_ _ )); exact BK180.out) hb); have n2_ := Aside0.mk (blk_below (g := gb181) (o := .cells #[.bool x182000_1, .bool x182001_1, .int .i64 x182002_1, .int .i64 x182003_1] 25 (0, 0)) (by (with_reducible repeat (first | refine blk_drewN ?_ _ | refine blk_drew ?_ | refine blk_alloc ?_ _ )); exact BK181.out) hb); have n3_ := Aside0.mk (below_step (by repeat ((with_reducible exact HB.out))) hb); clear HO_13; clear BK180; clear BK181; clear HB; have HO_13 := n0_; have BK180 := n1_; have BK181 := n2_; have HB := n3_; clear n0_ n1_ n2_ n3_; (try clear hb); (try clear hb2); (try clear hk); (try clear hi)))
            (try simp only [Act.put, List.setIfInBounds_toArray, List.set_cons_zero, List.set_cons_succ])
            go_cut [] (fun wc => ∃ (kq : Nat) (x182000_13 : Bool) (x182001_13 : Bool), Aside0 (impl_ControlOf.j2 kq t187 t182 (t182.length : Int) x15_1 x182000_13 x182001_13 x182002_1 x182003_1 = some (r1, r2, r3, r4)) ∧ Aside0 (kq ≤ k1) ∧ Aside0 (Kd.R Kd.string 9 wc w.heap.size (fun _ => True) (.slice (some ad185) t182.length co8) t182) ∧ Aside0 (wc.heap[gb180]? = some (.cells #[.bool false, .bool false, .int .i64 0, .int .i64 0] 25 (0, 0))) ∧ Aside0 (wc.heap[gb181]? = some (.cells #[.bool x182000_13, .bool x182001_13, .int .i64 x182002_1, .int .i64 x182003_1] 25 (0, 0))) ∧ Aside0 (Below w.heap.size w wc))
            case first =>
              have H := HC14.out
              clear HC14
              have HC17 := Aside0.mk H
              clear H
              go_upto_if 23 with (fail)
              go_cut [23] (fun v23 wc => ∃ (kq : Nat) (x23_16 : Bool), v23 = .bool x23_16 ∧ Aside0 (impl_ControlOf.j1 kq t187 t182 (t182.length : Int) x15_1 t187 x23_16 x182000_1 x182001_1 x182002_1 x182003_1 = some (r1, r2, r3, r4)) ∧ Aside0 (kq ≤ k1) ∧ Aside0 (Kd.R Kd.string 9 wc w.heap.size (fun _ => True) (.slice (some ad185) t182.length co8) t182) ∧ Aside0 (wc.heap[gb180]? = some (.cells #[.bool false, .bool false, .int .i64 0, .int .i64 0] 25 (0, 0))) ∧ Aside0 (wc.heap[gb181]? = some (.cells #[.bool x182000_1, .bool x182001_1, .int .i64 x182002_1, .int .i64 x182003_1] 25 (0, 0))) ∧ Aside0 (Below w.heap.size w wc))
              case first =>
                have H := HC17.out
                clear HC17
                by_cases c18 : t187.toList = ([110, 111, 45, 115, 116, 111, 114, 101] : List UInt8)
                · rw [if_pos c18] at H
                  have c18b0 : (t187.toList == ([110, 111, 45, 115, 116, 111, 114, 101] : List UInt8)) = true := beq_iff_eq.mpr c18
                  have c18b1 : (t187.toList != ([110, 111, 45, 115, 116, 111, 114, 101] : List UInt8)) = false := bne_eq_false_iff_eq.mpr c18
                  clear c18
                  (rw [c18b0])
                  have H' := Aside0.mk H
                  clear H
                  go_wp2
                  go_meet
                  case rel => exact ⟨_, ((t187.toList == ([110, 111, 45, 115, 116, 111, 114, 101] : List UInt8))), (by (simp [*]; done)), H', ⟨by have := HK1.out; omega⟩, ⟨by (with_reducible repeat (first | apply Kd.R_alloc | apply Kd.R_drewN | apply Kd.R_drew )); exact HO_13.out⟩, ⟨by (with_reducible repeat (first | refine blk_drewN ?_ _ | refine blk_drew ?_ | refine blk_alloc ?_ _ )); exact BK180.out⟩, ⟨by (with_reducible repeat (first | refine blk_drewN ?_ _ | refine blk_drew ?_ | refine blk_alloc ?_ _ )); exact BK181.out⟩, ⟨by repeat ((with_reducible exact HB.out))⟩⟩
                · rw [if_neg c18] at H
                  have c18b0 : (t187.toList == ([110, 111, 45, 115, 116, 111, 114, 101] : List UInt8)) = false := beq_eq_false_iff_ne.mpr c18
                  have c18b1 : (t187.toList != ([110, 111, 45, 115, 116, 111, 114, 101] : List UInt8)) = true := bne_iff_ne.mpr c18
                  (rw [c18b0])
                  have H' := Aside0.mk H
                  clear H
                  go_wp2
                  go_meet
                  case rel => exact ⟨_, ((t187.toList == ([112, 114, 105, 118, 97, 116, 101] : List UInt8))), (by rfl), H', ⟨by have := HK1.out; omega⟩, ⟨by (with_reducible repeat (first | apply Kd.R_alloc | apply Kd.R_drewN | apply Kd.R_drew )); exact HO_13.out⟩, ⟨by (with_reducible repeat (first | refine blk_drewN ?_ _ | refine blk_drew ?_ | refine blk_alloc ?_ _ )); exact BK180.out⟩, ⟨by (with_reducible repeat (first | refine blk_drewN ?_ _ | refine blk_drew ?_ | refine blk_alloc ?_ _ )); exact BK181.out⟩, ⟨by repeat ((with_reducible exact HB.out))⟩⟩
              case rest =>
                clear HC17
                clear c9b0
                clear c10b0
                clear c11b0
                clear hx185_0
                clear p185
                clear q185
                obtain ⟨kq, x23_16, rfl, HA, HJ16, HO_13, BK180, BK181, HB⟩ := hcut
                cases kq with
                | zero => exact absurd HA.out (by simp [impl_ControlOf.j1])
                | succ kj16 =>
                  have H := HA.out
                  clear HA
                  simp only [impl_ControlOf.j1] at H
                  by_cases c19 : x23_16 = true
                  · subst c19
                    have H1 : (impl_ControlOf.j2 kj16 t187 t182 (t182.length : Int) x15_1 true x182001_1 x182002_1 x182003_1) = some (r1, r2, r3, r4) := by rw [if_pos rfl] at H; exact H
                    clear H
                    have H := H1
                    clear H1
                    have H' := Aside0.mk H
                    clear H
                    have hnb20 := NB181_180.out
                    have hnc20 := NB180_181.out
                    have hcz21_0 : wc.cell? ⟨gb181, 0, none⟩ = some (.bool x182000_1) := (blk_cell BK181.out 0).trans rfl
                    have hcz21_1 : wc.cell? ⟨gb181, 1, none⟩ = some (.bool x182001_1) := (blk_cell BK181.out 1).trans rfl
                    have hcz21_2 : wc.cell? ⟨gb181, 2, none⟩ = some (.int .i64 x182002_1) := (blk_cell BK181.out 2).trans rfl
                    have hcz21_3 : wc.cell? ⟨gb181, 3, none⟩ = some (.int .i64 x182003_1) := (blk_cell BK181.out 3).trans rfl
                    have hfz21_0 := blk_frozen BK181.out 0
                    have hfz21_1 := blk_frozen BK181.out 1
                    have hfz21_2 := blk_frozen BK181.out 2
                    have hfz21_3 := blk_frozen BK181.out 3
                    go_wp2
                    go_meet
                    case rel => exact ⟨_, (true), (x182001_1), H', ⟨by have := HK1.out; have := HJ16.out; omega⟩, ⟨by (with_reducible repeat (first | apply Kd.R_alloc | apply Kd.R_drewN | apply Kd.R_drew )); exact Kd.R_mono (Kd.R_far (p := ⟨gb181, 0, none⟩) (Kd.R_types HO_13.out BK181.out (by decide)) (fun _ hk => hk.2) (.bool true)) (fun _ hk => trivial)⟩, ⟨by (with_reducible repeat (first | refine blk_drewN ?_ _ | refine blk_drew ?_ | refine blk_alloc ?_ _ )); refine blk_far ?_ NB180_181.out _; (with_reducible repeat (first | refine blk_drewN ?_ _ | refine blk_drew ?_ | refine blk_alloc ?_ _ )); exact BK180.out⟩, ⟨by (with_reducible repeat (first | refine blk_drewN ?_ _ | refine blk_drew ?_ | refine blk_alloc ?_ _ )); refine blk_put (cs := #[.bool x182000_1, .bool x182001_1, .int .i64 x182002_1, .int .i64 x182003_1]) ?_ 0 _ rfl; (with_reducible repeat (first | refine blk_drewN ?_ _ | refine blk_drew ?_ | refine blk_alloc ?_ _ )); exact BK181.out⟩, ⟨by repeat ((with_reducible first | exact HB.out | refine below_set ?_ GE181.out))⟩⟩
                  · replace c19 := Bool.eq_false_iff.mpr c19
                    subst c19
                    have H1 : (if t187.toList = ([110, 111, 45, 99, 97, 99, 104, 101] : List UInt8) then (impl_ControlOf.j2 kj16 t187 t182 (t182.length : Int) x15_1 x182000_1 true x182002_1 x182003_1) else (impl_ControlOf.j2 kj16 t187 t182 (t182.length : Int) x15_1 x182000_1 x182001_1 x182002_1 x182003_1)) = some (r1, r2, r3, r4) := by rw [if_neg (show ¬ (false = true) by decide)] at H; exact H
                    clear H
                    have H := H1
                    clear H1
                    by_cases c22 : t187.toList = ([110, 111, 45, 99, 97, 99, 104, 101] : List UInt8)
                    · rw [if_pos c22] at H
                      have c22b0 : (t187.toList == ([110, 111, 45, 99, 97, 99, 104, 101] : List UInt8)) = true := beq_iff_eq.mpr c22
                      have c22b1 : (t187.toList != ([110, 111, 45, 99, 97, 99, 104, 101] : List UInt8)) = false := bne_eq_false_iff_eq.mpr c22
                      clear c22
                      have H' := Aside0.mk H
                      clear H
                      have hnb23 := NB181_180.out
                      have hnc23 := NB180_181.out
                      have hcz24_0 : wc.cell? ⟨gb181, 0, none⟩ = some (.bool x182000_1) := (blk_cell BK181.out 0).trans rfl
                      have hcz24_1 : wc.cell? ⟨gb181, 1, none⟩ = some (.bool x182001_1) := (blk_cell BK181.out 1).trans rfl
                      have hcz24_2 : wc.cell? ⟨gb181, 2, none⟩ = some (.int .i64 x182002_1) := (blk_cell BK181.out 2).trans rfl
                      have hcz24_3 : wc.cell? ⟨gb181, 3, none⟩ = some (.int .i64 x182003_1) := (blk_cell BK181.out 3).trans rfl
                      have hfz24_0 := blk_frozen BK181.out 0
                      have hfz24_1 := blk_frozen BK181.out 1
                      have hfz24_2 := blk_frozen BK181.out 2
                      have hfz24_3 := blk_frozen BK181.out 3
                      go_wp2
                      go_meet
                      case rel => exact ⟨_, (x182000_1), (true), H', ⟨by have := HK1.out; have := HJ16.out; omega⟩, ⟨by (with_reducible repeat (first | apply Kd.R_alloc | apply Kd.R_drewN | apply Kd.R_drew )); exact Kd.R_mono (Kd.R_far (p := ⟨gb181, 1, none⟩) (Kd.R_types HO_13.out BK181.out (by decide)) (fun _ hk => hk.2) (.bool true)) (fun _ hk => trivial)⟩, ⟨by (with_reducible repeat (first | refine blk_drewN ?_ _ | refine blk_drew ?_ | refine blk_alloc ?_ _ )); refine blk_far ?_ NB180_181.out _; (with_reducible repeat (first | refine blk_drewN ?_ _ | refine blk_drew ?_ | refine blk_alloc ?_ _ )); exact BK180.out⟩, ⟨by (with_reducible repeat (first | refine blk_drewN ?_ _ | refine blk_drew ?_ | refine blk_alloc ?_ _ )); refine blk_put (cs := #[.bool x182000_1, .bool x182001_1, .int .i64 x182002_1, .int .i64 x182003_1]) ?_ 1 _ rfl; (with_reducible repeat (first | refine blk_drewN ?_ _ | refine blk_drew ?_ | refine blk_alloc ?_ _ )); exact BK181.out⟩, ⟨by repeat ((with_reducible first | exact HB.out | refine below_set ?_ GE181.out))⟩⟩
                    · rw [if_neg c22] at H
                      have c22b0 : (t187.toList == ([110, 111, 45, 99, 97, 99, 104, 101] : List UInt8)) = false := beq_eq_false_iff_ne.mpr c22
                      have c22b1 : (t187.toList != ([110, 111, 45, 99, 97, 99, 104, 101] : List UInt8)) = true := bne_iff_ne.mpr c22
                      have H' := Aside0.mk H
                      clear H
                      go_wp2
                      go_meet
                      case rel => exact ⟨_, (x182000_1), (x182001_1), H', ⟨by have := HK1.out; have := HJ16.out; omega⟩, ⟨by (with_reducible repeat (first | apply Kd.R_alloc | apply Kd.R_drewN | apply Kd.R_drew )); exact HO_13.out⟩, ⟨by (with_reducible repeat (first | refine blk_drewN ?_ _ | refine blk_drew ?_ | refine blk_alloc ?_ _ )); exact BK180.out⟩, ⟨by (with_reducible repeat (first | refine blk_drewN ?_ _ | refine blk_drew ?_ | refine blk_alloc ?_ _ )); exact BK181.out⟩, ⟨by repeat ((with_reducible exact HB.out))⟩⟩
            case rest =>
              clear HC14
              clear c9b0
              clear c10b0
              clear c11b0
              clear hx185_0
              clear p185
              clear q185
              obtain ⟨kq, x182000_13, x182001_13, HA, HJ13, HO_13, BK180, BK181, HB⟩ := hcut
              cases kq with
              | zero => exact absurd HA.out (by simp [impl_ControlOf.j2])
              | succ kj13 =>
                have H := HA.out
                clear HA
                simp only [impl_ControlOf.j2] at H
                replace H := Option.bind_eq_some_iff.mp H
                obtain ⟨⟨t188, t189, t190⟩, A250, H⟩ := H
                replace H : ((impl_figuresOf.f kj13 t189 6).bind fun bt191 => (if bt191.2 = true then (impl_ControlOf.j3 kj13 t188 bt191.1 bt191.2 t182 (t182.length : Int) x15_1 (t188.toList == ([109, 97, 120, 45, 97, 103, 101] : List UInt8)) x182000_13 x182001_13 x182002_1 x182003_1) else (impl_ControlOf.j3 kj13 t188 bt191.1 bt191.2 t182 (t182.length : Int) x15_1 false x182000_13 x182001_13 x182002_1 x182003_1))) = some (r1, r2, r3, r4) := H
                have A25 := Aside0.mk A250
                clear A250
                replace H := Option.bind_eq_some_iff.mp H
                obtain ⟨⟨t191, t192⟩, A260, H⟩ := H
                replace H : (if t192 = true then (impl_ControlOf.j3 kj13 t188 t191 t192 t182 (t182.length : Int) x15_1 (t188.toList == ([109, 97, 120, 45, 97, 103, 101] : List UInt8)) x182000_13 x182001_13 x182002_1 x182003_1) else (impl_ControlOf.j3 kj13 t188 t191 t192 t182 (t182.length : Int) x15_1 false x182000_13 x182001_13 x182002_1 x182003_1)) = some (r1, r2, r3, r4) := H
                have A26 := Aside0.mk A260
                clear A260
                have HC27 := Aside0.mk H
                clear H
                go_upto_region 14 with (first | ((with_reducible refine gate_callee (f := 37) rfl ?_); refine goesL_ (some 32) rfl rfl Tryd.func37 (by kernel_rfl) rfl #[.string t187, .string (⟨#[61]⟩ : ByteArray)] rfl (by (try simp only [List.map_toArray, List.map_cons, List.map_nil]); rfl) ?_; (with_reducible refine (strings_Cut.calls t187 (⟨#[61]⟩ : ByteArray) t188 t189 t190 _ ?side1 A25.out).mono ?_); (case side1 => exact Shp.below HSH.out (by repeat ((with_reducible exact HB.out)))); rintro e w28 ⟨rfl, hb⟩; refine ⟨_, rfl, ?_⟩; have n0_ := Aside0.mk (Kd.R_below (by (with_reducible repeat (first | apply Kd.R_alloc | apply Kd.R_drewN | apply Kd.R_drew )); exact HO_13.out) hb); have n1_ := Aside0.mk (blk_below (g := gb180) (o := .cells #[.bool false, .bool false, .int .i64 0, .int .i64 0] 25 (0, 0)) (by (with_reducible repeat (first | refine blk_drewN ?_ _ | refine blk_drew ?_ | refine blk_alloc ?_ _ )); exact BK180.out) hb); have n2_ := Aside0.mk (blk_below (g := gb181) (o := .cells #[.bool x182000_13, .bool x182001_13, .int .i64 x182002_1, .int .i64 x182003_1] 25 (0, 0)) (by (with_reducible repeat (first | refine blk_drewN ?_ _ | refine blk_drew ?_ | refine blk_alloc ?_ _ )); exact BK181.out) hb); have n3_ := Aside0.mk (below_step (by repeat ((with_reducible exact HB.out))) hb); clear HO_13; clear BK180; clear BK181; clear HB; have HO_13 := n0_; have BK180 := n1_; have BK181 := n2_; have HB := n3_; clear n0_ n1_ n2_ n3_; (try clear hb); (try clear hb2); (try clear hk); (try clear hi)) | ((with_reducible refine gate_callee (f := 38) rfl ?_); refine goesL_ (some 38) rfl rfl Tryd.func38 (by kernel_rfl) rfl #[.string t189, .int .i64 6] rfl (by (try simp only [List.map_toArray, List.map_cons, List.map_nil]); rfl) ?_; (with_reducible refine (impl_figuresOf.calls kj13 t189 6 t191 t192 _ A26.out).mono ?_); rintro e w' ⟨rfl, ⟨nd, rfl⟩⟩; refine ⟨_, rfl, ?_⟩))
                (try simp only [Act.put, List.setIfInBounds_toArray, List.set_cons_zero, List.set_cons_succ])
                go_cut [45] (fun v45 wc => ∃ (kq : Nat) (x45_26 : Bool), v45 = .bool x45_26 ∧ Aside0 (impl_ControlOf.j3 kq t188 t191 t192 t182 (t182.length : Int) x15_1 x45_26 x182000_13 x182001_13 x182002_1 x182003_1 = some (r1, r2, r3, r4)) ∧ Aside0 (kq ≤ kj13) ∧ Aside0 (Kd.R Kd.string 9 wc w.heap.size (fun _ => True) (.slice (some ad185) t182.length co8) t182) ∧ Aside0 (wc.heap[gb180]? = some (.cells #[.bool false, .bool false, .int .i64 0, .int .i64 0] 25 (0, 0))) ∧ Aside0 (wc.heap[gb181]? = some (.cells #[.bool x182000_13, .bool x182001_13, .int .i64 x182002_1, .int .i64 x182003_1] 25 (0, 0))) ∧ Aside0 (Below w.heap.size w wc))
                case first =>
                  have H := HC27.out
                  clear HC27
                  by_cases c29 : t192 = true
                  · subst c29
                    have H1 : (impl_ControlOf.j3 kj13 t188 t191 true t182 (t182.length : Int) x15_1 (t188.toList == ([109, 97, 120, 45, 97, 103, 101] : List UInt8)) x182000_13 x182001_13 x182002_1 x182003_1) = some (r1, r2, r3, r4) := by rw [if_pos rfl] at H; exact H
                    clear H
                    have H := H1
                    clear H1
                    have H' := Aside0.mk H
                    clear H
                    go_wp2
                    go_meet
                    case rel => exact ⟨_, ((t188.toList == ([109, 97, 120, 45, 97, 103, 101] : List UInt8))), (by rfl), H', ⟨by have := HK1.out; have := HJ13.out; omega⟩, ⟨by (with_reducible repeat (apply Kd.R_drewN)); exact HO_13.out⟩, ⟨by (with_reducible repeat (refine blk_drewN ?_ _)); exact BK180.out⟩, ⟨by (with_reducible repeat (refine blk_drewN ?_ _)); exact BK181.out⟩, ⟨by repeat ((with_reducible first | exact HB.out | apply pw_below_drewN))⟩⟩
                  · replace c29 := Bool.eq_false_iff.mpr c29
                    subst c29
                    have H1 : (impl_ControlOf.j3 kj13 t188 t191 false t182 (t182.length : Int) x15_1 false x182000_13 x182001_13 x182002_1 x182003_1) = some (r1, r2, r3, r4) := by rw [if_neg (show ¬ (false = true) by decide)] at H; exact H
                    clear H
                    have H := H1
                    clear H1
                    have H' := Aside0.mk H
                    clear H
                    go_wp2
                    go_meet
                    case rel => exact ⟨_, (false), (by rfl), H', ⟨by have := HK1.out; have := HJ13.out; omega⟩, ⟨by (with_reducible repeat (apply Kd.R_drewN)); exact HO_13.out⟩, ⟨by (with_reducible repeat (refine blk_drewN ?_ _)); exact BK180.out⟩, ⟨by (with_reducible repeat (refine blk_drewN ?_ _)); exact BK181.out⟩, ⟨by repeat ((with_reducible first | exact HB.out | apply pw_below_drewN))⟩⟩
                case rest =>
                  clear HC27
                  obtain ⟨kq, x45_26, rfl, HA, HJ26, HO_13, BK180, BK181, HB⟩ := hcut
                  cases kq with
                  | zero => exact absurd HA.out (by simp [impl_ControlOf.j3])
                  | succ kj26 =>
                    have H := HA.out
                    clear HA
                    simp only [impl_ControlOf.j3] at H
                    by_cases c30 : x45_26 = true
                    · subst c30
                      have H1 : (if t192 = true then (if t188.toList = ([115, 45, 109, 97, 120, 97, 103, 101] : List UInt8) then (impl_ControlOf.l0 kj26 t182 (t182.length : Int) (wrap64 (x15_1 + 1)) x182000_13 x182001_13 t191 t191) else (impl_ControlOf.l0 kj26 t182 (t182.length : Int) (wrap64 (x15_1 + 1)) x182000_13 x182001_13 t191 x182003_1)) else (impl_ControlOf.l0 kj26 t182 (t182.length : Int) (wrap64 (x15_1 + 1)) x182000_13 x182001_13 t191 x182003_1)) = some (r1, r2, r3, r4) := by rw [if_pos rfl] at H; exact H
                      clear H
                      have H := H1
                      clear H1
                      have HS31 := Aside0.mk H
                      clear H
                      have hnb32 := NB181_180.out
                      have hnc32 := NB180_181.out
                      have hcz33_0 : wc.cell? ⟨gb181, 0, none⟩ = some (.bool x182000_13) := (blk_cell BK181.out 0).trans rfl
                      have hcz33_1 : wc.cell? ⟨gb181, 1, none⟩ = some (.bool x182001_13) := (blk_cell BK181.out 1).trans rfl
                      have hcz33_2 : wc.cell? ⟨gb181, 2, none⟩ = some (.int .i64 x182002_1) := (blk_cell BK181.out 2).trans rfl
                      have hcz33_3 : wc.cell? ⟨gb181, 3, none⟩ = some (.int .i64 x182003_1) := (blk_cell BK181.out 3).trans rfl
                      have hfz33_0 := blk_frozen BK181.out 0
                      have hfz33_1 := blk_frozen BK181.out 1
                      have hfz33_2 := blk_frozen BK181.out 2
                      have hfz33_3 := blk_frozen BK181.out 3
                      go_upto_region 16 with (fail)
                      have H := HS31.out
                      clear HS31
                      by_cases c34 : t192 = true
                      · subst c34
                        have H1 : (if t188.toList = ([115, 45, 109, 97, 120, 97, 103, 101] : List UInt8) then (impl_ControlOf.l0 kj26 t182 (t182.length : Int) (wrap64 (x15_1 + 1)) x182000_13 x182001_13 t191 t191) else (impl_ControlOf.l0 kj26 t182 (t182.length : Int) (wrap64 (x15_1 + 1)) x182000_13 x182001_13 t191 x182003_1)) = some (r1, r2, r3, r4) := by rw [if_pos rfl] at H; exact H
                        clear H
                        have H := H1
                        clear H1
                        by_cases c35 : t188.toList = ([115, 45, 109, 97, 120, 97, 103, 101] : List UInt8)
                        · rw [if_pos c35] at H
                          have c35b0 : (t188.toList == ([115, 45, 109, 97, 120, 97, 103, 101] : List UInt8)) = true := beq_iff_eq.mpr c35
                          have c35b1 : (t188.toList != ([115, 45, 109, 97, 120, 97, 103, 101] : List UInt8)) = false := bne_eq_false_iff_eq.mpr c35
                          clear c35
                          have H' := Aside0.mk H
                          clear H
                          have hnb36 := NB181_180.out
                          have hnc36 := NB180_181.out
                          have hcz37_0 : wc.cell? ⟨gb181, 0, none⟩ = some (.bool x182000_13) := (blk_cell BK181.out 0).trans rfl
                          have hcz37_1 : wc.cell? ⟨gb181, 1, none⟩ = some (.bool x182001_13) := (blk_cell BK181.out 1).trans rfl
                          have hcz37_2 : wc.cell? ⟨gb181, 2, none⟩ = some (.int .i64 x182002_1) := (blk_cell BK181.out 2).trans rfl
                          have hcz37_3 : wc.cell? ⟨gb181, 3, none⟩ = some (.int .i64 x182003_1) := (blk_cell BK181.out 3).trans rfl
                          have hfz37_0 := blk_frozen BK181.out 0
                          have hfz37_1 := blk_frozen BK181.out 1
                          have hfz37_2 := blk_frozen BK181.out 2
                          have hfz37_3 := blk_frozen BK181.out 3
                          go_wp2
                          go_roundg kj26
                          case measure => have := HK1.out; have := HJ13.out; have := HJ26.out; omega
                          case rel => exact ⟨(wrap64 (x15_1 + 1)), (x182000_13), (x182001_13), (t191), (t191), (by rfl), H', ⟨by have := HK1.out; have := HJ13.out; have := HJ26.out; omega⟩, ⟨by (with_reducible repeat (first | apply Kd.R_alloc | apply Kd.R_drewN | apply Kd.R_drew )); exact Kd.R_mono (Kd.R_far (p := ⟨gb181, 3, none⟩) (Kd.R_far (p := ⟨gb181, 2, none⟩) (Kd.R_types HO_13.out BK181.out (by decide)) (fun _ hk => hk.2) (.int .i64 t191)) (fun _ hk => hk.2) (.int .i64 t191)) (fun _ hk => trivial)⟩, ⟨by (with_reducible repeat (first | refine blk_drewN ?_ _ | refine blk_drew ?_ | refine blk_alloc ?_ _ )); refine blk_far ?_ NB180_181.out _; (with_reducible repeat (first | refine blk_drewN ?_ _ | refine blk_drew ?_ | refine blk_alloc ?_ _ )); refine blk_far ?_ NB180_181.out _; (with_reducible repeat (first | refine blk_drewN ?_ _ | refine blk_drew ?_ | refine blk_alloc ?_ _ )); exact BK180.out⟩, ⟨by (with_reducible repeat (first | refine blk_drewN ?_ _ | refine blk_drew ?_ | refine blk_alloc ?_ _ )); refine blk_put (cs := #[.bool x182000_13, .bool x182001_13, .int .i64 t191, .int .i64 x182003_1]) ?_ 3 _ rfl; (with_reducible repeat (first | refine blk_drewN ?_ _ | refine blk_drew ?_ | refine blk_alloc ?_ _ )); refine blk_put (cs := #[.bool x182000_13, .bool x182001_13, .int .i64 x182002_1, .int .i64 x182003_1]) ?_ 2 _ rfl; (with_reducible repeat (first | refine blk_drewN ?_ _ | refine blk_drew ?_ | refine blk_alloc ?_ _ )); exact BK181.out⟩, ⟨by repeat ((with_reducible first | exact HB.out | refine below_set ?_ GE181.out))⟩⟩
                        · rw [if_neg c35] at H
                          have c35b0 : (t188.toList == ([115, 45, 109, 97, 120, 97, 103, 101] : List UInt8)) = false := beq_eq_false_iff_ne.mpr c35
                          have c35b1 : (t188.toList != ([115, 45, 109, 97, 120, 97, 103, 101] : List UInt8)) = true := bne_iff_ne.mpr c35
                          have H' := Aside0.mk H
                          clear H
                          go_wp2
                          go_roundg kj26
                          case measure => have := HK1.out; have := HJ13.out; have := HJ26.out; omega
                          case rel => exact ⟨(wrap64 (x15_1 + 1)), (x182000_13), (x182001_13), (t191), (x182003_1), (by rfl), H', ⟨by have := HK1.out; have := HJ13.out; have := HJ26.out; omega⟩, ⟨by (with_reducible repeat (first | apply Kd.R_alloc | apply Kd.R_drewN | apply Kd.R_drew )); exact Kd.R_mono (Kd.R_far (p := ⟨gb181, 2, none⟩) (Kd.R_types HO_13.out BK181.out (by decide)) (fun _ hk => hk.2) (.int .i64 t191)) (fun _ hk => trivial)⟩, ⟨by (with_reducible repeat (first | refine blk_drewN ?_ _ | refine blk_drew ?_ | refine blk_alloc ?_ _ )); refine blk_far ?_ NB180_181.out _; (with_reducible repeat (first | refine blk_drewN ?_ _ | refine blk_drew ?_ | refine blk_alloc ?_ _ )); exact BK180.out⟩, ⟨by (with_reducible repeat (first | refine blk_drewN ?_ _ | refine blk_drew ?_ | refine blk_alloc ?_ _ )); refine blk_put (cs := #[.bool x182000_13, .bool x182001_13, .int .i64 x182002_1, .int .i64 x182003_1]) ?_ 2 _ rfl; (with_reducible repeat (first | refine blk_drewN ?_ _ | refine blk_drew ?_ | refine blk_alloc ?_ _ )); exact BK181.out⟩, ⟨by repeat ((with_reducible first | exact HB.out | refine below_set ?_ GE181.out))⟩⟩
                      · replace c34 := Bool.eq_false_iff.mpr c34
                        subst c34
                        have H1 : (impl_ControlOf.l0 kj26 t182 (t182.length : Int) (wrap64 (x15_1 + 1)) x182000_13 x182001_13 t191 x182003_1) = some (r1, r2, r3, r4) := by rw [if_neg (show ¬ (false = true) by decide)] at H; exact H
                        clear H
                        have H := H1
                        clear H1
                        have H' := Aside0.mk H
                        clear H
                        go_wp2
                        go_roundg kj26
                        case measure => have := HK1.out; have := HJ13.out; have := HJ26.out; omega
                        case rel => exact ⟨(wrap64 (x15_1 + 1)), (x182000_13), (x182001_13), (t191), (x182003_1), (by rfl), H', ⟨by have := HK1.out; have := HJ13.out; have := HJ26.out; omega⟩, ⟨by (with_reducible repeat (first | apply Kd.R_alloc | apply Kd.R_drewN | apply Kd.R_drew )); exact Kd.R_mono (Kd.R_far (p := ⟨gb181, 2, none⟩) (Kd.R_types HO_13.out BK181.out (by decide)) (fun _ hk => hk.2) (.int .i64 t191)) (fun _ hk => trivial)⟩, ⟨by (with_reducible repeat (first | refine blk_drewN ?_ _ | refine blk_drew ?_ | refine blk_alloc ?_ _ )); refine blk_far ?_ NB180_181.out _; (with_reducible repeat (first | refine blk_drewN ?_ _ | refine blk_drew ?_ | refine blk_alloc ?_ _ )); exact BK180.out⟩, ⟨by (with_reducible repeat (first | refine blk_drewN ?_ _ | refine blk_drew ?_ | refine blk_alloc ?_ _ )); refine blk_put (cs := #[.bool x182000_13, .bool x182001_13, .int .i64 x182002_1, .int .i64 x182003_1]) ?_ 2 _ rfl; (with_reducible repeat (first | refine blk_drewN ?_ _ | refine blk_drew ?_ | refine blk_alloc ?_ _ )); exact BK181.out⟩, ⟨by repeat ((with_reducible first | exact HB.out | refine below_set ?_ GE181.out))⟩⟩
                    · replace c30 := Bool.eq_false_iff.mpr c30
                      subst c30
                      have H1 : (if t192 = true then (if t188.toList = ([115, 45, 109, 97, 120, 97, 103, 101] : List UInt8) then (impl_ControlOf.l0 kj26 t182 (t182.length : Int) (wrap64 (x15_1 + 1)) x182000_13 x182001_13 x182002_1 t191) else (impl_ControlOf.l0 kj26 t182 (t182.length : Int) (wrap64 (x15_1 + 1)) x182000_13 x182001_13 x182002_1 x182003_1)) else (impl_ControlOf.l0 kj26 t182 (t182.length : Int) (wrap64 (x15_1 + 1)) x182000_13 x182001_13 x182002_1 x182003_1)) = some (r1, r2, r3, r4) := by rw [if_neg (show ¬ (false = true) by decide)] at H; exact H
                      clear H
                      have H := H1
                      clear H1
                      by_cases c38 : t192 = true
                      · subst c38
                        have H1 : (if t188.toList = ([115, 45, 109, 97, 120, 97, 103, 101] : List UInt8) then (impl_ControlOf.l0 kj26 t182 (t182.length : Int) (wrap64 (x15_1 + 1)) x182000_13 x182001_13 x182002_1 t191) else (impl_ControlOf.l0 kj26 t182 (t182.length : Int) (wrap64 (x15_1 + 1)) x182000_13 x182001_13 x182002_1 x182003_1)) = some (r1, r2, r3, r4) := by rw [if_pos rfl] at H; exact H
                        clear H
                        have H := H1
                        clear H1
                        by_cases c39 : t188.toList = ([115, 45, 109, 97, 120, 97, 103, 101] : List UInt8)
                        · rw [if_pos c39] at H
                          have c39b0 : (t188.toList == ([115, 45, 109, 97, 120, 97, 103, 101] : List UInt8)) = true := beq_iff_eq.mpr c39
                          have c39b1 : (t188.toList != ([115, 45, 109, 97, 120, 97, 103, 101] : List UInt8)) = false := bne_eq_false_iff_eq.mpr c39
                          clear c39
                          have H' := Aside0.mk H
                          clear H
                          have hnb40 := NB181_180.out
                          have hnc40 := NB180_181.out
                          have hcz41_0 : wc.cell? ⟨gb181, 0, none⟩ = some (.bool x182000_13) := (blk_cell BK181.out 0).trans rfl
                          have hcz41_1 : wc.cell? ⟨gb181, 1, none⟩ = some (.bool x182001_13) := (blk_cell BK181.out 1).trans rfl
                          have hcz41_2 : wc.cell? ⟨gb181, 2, none⟩ = some (.int .i64 x182002_1) := (blk_cell BK181.out 2).trans rfl
                          have hcz41_3 : wc.cell? ⟨gb181, 3, none⟩ = some (.int .i64 x182003_1) := (blk_cell BK181.out 3).trans rfl
                          have hfz41_0 := blk_frozen BK181.out 0
                          have hfz41_1 := blk_frozen BK181.out 1
                          have hfz41_2 := blk_frozen BK181.out 2
                          have hfz41_3 := blk_frozen BK181.out 3
                          go_wp2
                          go_roundg kj26
                          case measure => have := HK1.out; have := HJ13.out; have := HJ26.out; omega
                          case rel => exact ⟨(wrap64 (x15_1 + 1)), (x182000_13), (x182001_13), (x182002_1), (t191), (by rfl), H', ⟨by have := HK1.out; have := HJ13.out; have := HJ26.out; omega⟩, ⟨by (with_reducible repeat (first | apply Kd.R_alloc | apply Kd.R_drewN | apply Kd.R_drew )); exact Kd.R_mono (Kd.R_far (p := ⟨gb181, 3, none⟩) (Kd.R_types HO_13.out BK181.out (by decide)) (fun _ hk => hk.2) (.int .i64 t191)) (fun _ hk => trivial)⟩, ⟨by (with_reducible repeat (first | refine blk_drewN ?_ _ | refine blk_drew ?_ | refine blk_alloc ?_ _ )); refine blk_far ?_ NB180_181.out _; (with_reducible repeat (first | refine blk_drewN ?_ _ | refine blk_drew ?_ | refine blk_alloc ?_ _ )); exact BK180.out⟩, ⟨by (with_reducible repeat (first | refine blk_drewN ?_ _ | refine blk_drew ?_ | refine blk_alloc ?_ _ )); refine blk_put (cs := #[.bool x182000_13, .bool x182001_13, .int .i64 x182002_1, .int .i64 x182003_1]) ?_ 3 _ rfl; (with_reducible repeat (first | refine blk_drewN ?_ _ | refine blk_drew ?_ | refine blk_alloc ?_ _ )); exact BK181.out⟩, ⟨by repeat ((with_reducible first | exact HB.out | refine below_set ?_ GE181.out))⟩⟩
                        · rw [if_neg c39] at H
                          have c39b0 : (t188.toList == ([115, 45, 109, 97, 120, 97, 103, 101] : List UInt8)) = false := beq_eq_false_iff_ne.mpr c39
                          have c39b1 : (t188.toList != ([115, 45, 109, 97, 120, 97, 103, 101] : List UInt8)) = true := bne_iff_ne.mpr c39
                          have H' := Aside0.mk H
                          clear H
                          go_wp2
                          go_roundg kj26
                          case measure => have := HK1.out; have := HJ13.out; have := HJ26.out; omega
                          case rel => exact ⟨(wrap64 (x15_1 + 1)), (x182000_13), (x182001_13), (x182002_1), (x182003_1), (by rfl), H', ⟨by have := HK1.out; have := HJ13.out; have := HJ26.out; omega⟩, ⟨by (with_reducible repeat (first | apply Kd.R_alloc | apply Kd.R_drewN | apply Kd.R_drew )); exact HO_13.out⟩, ⟨by (with_reducible repeat (first | refine blk_drewN ?_ _ | refine blk_drew ?_ | refine blk_alloc ?_ _ )); exact BK180.out⟩, ⟨by (with_reducible repeat (first | refine blk_drewN ?_ _ | refine blk_drew ?_ | refine blk_alloc ?_ _ )); exact BK181.out⟩, ⟨by repeat ((with_reducible exact HB.out))⟩⟩
                      · replace c38 := Bool.eq_false_iff.mpr c38
                        subst c38
                        have H1 : (impl_ControlOf.l0 kj26 t182 (t182.length : Int) (wrap64 (x15_1 + 1)) x182000_13 x182001_13 x182002_1 x182003_1) = some (r1, r2, r3, r4) := by rw [if_neg (show ¬ (false = true) by decide)] at H; exact H
                        clear H
                        have H := H1
                        clear H1
                        have H' := Aside0.mk H
                        clear H
                        go_wp2
                        go_roundg kj26
                        case measure => have := HK1.out; have := HJ13.out; have := HJ26.out; omega
                        case rel => exact ⟨(wrap64 (x15_1 + 1)), (x182000_13), (x182001_13), (x182002_1), (x182003_1), (by rfl), H', ⟨by have := HK1.out; have := HJ13.out; have := HJ26.out; omega⟩, ⟨by (with_reducible repeat (first | apply Kd.R_alloc | apply Kd.R_drewN | apply Kd.R_drew )); exact HO_13.out⟩, ⟨by (with_reducible repeat (first | refine blk_drewN ?_ _ | refine blk_drew ?_ | refine blk_alloc ?_ _ )); exact BK180.out⟩, ⟨by (with_reducible repeat (first | refine blk_drewN ?_ _ | refine blk_drew ?_ | refine blk_alloc ?_ _ )); exact BK181.out⟩, ⟨by repeat ((with_reducible exact HB.out))⟩⟩
          · rw [if_neg c11] at H
            exact absurd H (by simp)
        · rw [if_neg c10] at H
          exact absurd H (by simp)
      · rw [if_neg c9] at H
        have c9b0 : decide (x15_1 < (t182.length : Int)) = false := decide_eq_false c9
        clear c9
        simp only [Option.some.injEq, Prod.mk.injEq] at H
        obtain ⟨rfl, rfl, rfl, rfl⟩ := H
        have hnb42 := NB181_180.out
        have hnc42 := NB180_181.out
        have hcz43_0 : wr.cell? ⟨gb181, 0, none⟩ = some (.bool x182000_1) := (blk_cell BK181.out 0).trans rfl
        have hcz43_1 : wr.cell? ⟨gb181, 1, none⟩ = some (.bool x182001_1) := (blk_cell BK181.out 1).trans rfl
        have hcz43_2 : wr.cell? ⟨gb181, 2, none⟩ = some (.int .i64 x182002_1) := (blk_cell BK181.out 2).trans rfl
        have hcz43_3 : wr.cell? ⟨gb181, 3, none⟩ = some (.int .i64 x182003_1) := (blk_cell BK181.out 3).trans rfl
        have hfz43_0 := blk_frozen BK181.out 0
        have hfz43_1 := blk_frozen BK181.out 1
        have hfz43_2 := blk_frozen BK181.out 2
        have hfz43_3 := blk_frozen BK181.out 3
        have hcz44_0 : wr.cell? ⟨gb180, 0, none⟩ = some (.bool false) := (blk_cell BK180.out 0).trans rfl
        have hcz44_1 : wr.cell? ⟨gb180, 1, none⟩ = some (.bool false) := (blk_cell BK180.out 1).trans rfl
        have hcz44_2 : wr.cell? ⟨gb180, 2, none⟩ = some (.int .i64 0) := (blk_cell BK180.out 2).trans rfl
        have hcz44_3 : wr.cell? ⟨gb180, 3, none⟩ = some (.int .i64 0) := (blk_cell BK180.out 3).trans rfl
        have hfz44_0 := blk_frozen BK180.out 0
        have hfz44_1 := blk_frozen BK180.out 1
        have hfz44_2 := blk_frozen BK180.out 2
        have hfz44_3 := blk_frozen BK180.out 3
        go_wp2
        refine bodyPost_ret (results_cell_row rfl _ _ gb180 25 #[.bool x182000_1, .bool x182001_1, .int .i64 x182002_1, .int .i64 x182003_1] (0, 0) _ rfl (by (with_reducible repeat (first | refine blk_drewN ?_ _ | refine blk_drew ?_ | refine blk_alloc ?_ _ )); refine blk_put (cs := #[.bool x182000_1, .bool x182001_1, .int .i64 x182002_1, .int .i64 0]) ?_ 3 _ rfl; (with_reducible repeat (first | refine blk_drewN ?_ _ | refine blk_drew ?_ | refine blk_alloc ?_ _ )); refine blk_put (cs := #[.bool x182000_1, .bool x182001_1, .int .i64 0, .int .i64 0]) ?_ 2 _ rfl; (with_reducible repeat (first | refine blk_drewN ?_ _ | refine blk_drew ?_ | refine blk_alloc ?_ _ )); refine blk_put (cs := #[.bool x182000_1, .bool false, .int .i64 0, .int .i64 0]) ?_ 1 _ rfl; (with_reducible repeat (first | refine blk_drewN ?_ _ | refine blk_drew ?_ | refine blk_alloc ?_ _ )); refine blk_put (cs := #[.bool false, .bool false, .int .i64 0, .int .i64 0]) ?_ 0 _ rfl; (with_reducible repeat (first | refine blk_drewN ?_ _ | refine blk_drew ?_ | refine blk_alloc ?_ _ )); exact BK180.out) Tryd.underlying25 rfl (by kernel_rfl)) rfl ?_
        exact ⟨by rfl, by repeat ((with_reducible first | exact HB.out | refine below_set ?_ GE180.out))⟩
end Go.Proofs.YthjigecaojaalaaDoor.Q
