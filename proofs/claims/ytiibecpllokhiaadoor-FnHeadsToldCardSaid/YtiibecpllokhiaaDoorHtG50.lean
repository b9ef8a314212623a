import Derived.Laws.RangeAny
import Derived.Laws.Runes
import Derived.Lib.IndexMore
import Derived.Lib.OthersKept
import Derived.Lib.SlBytesRow
import Derived.WalkMore
import Derived.Test.YtiibecpllokhiaaDoorHtShelf
import Derived.Test.YtiibecpllokhiaaDoorHtB0
import Derived.Test.YtiibecpllokhiaaDoorHtG49
import Derived.Test.YtiibecpllokhiaaDoorHtG58
import Derived.Test.YtiibecpllokhiaaDoorHtG68
import Derived.Test.YtiibecpllokhiaaDoorHtG111
import Derived.Test.YtiibecpllokhiaaDoorHtWords
namespace Go.Proofs.YtiibecpllokhiaaDoor.Q
open Go.RowKit Go.Proofs.YtiibecpllokhiaaDoorW.PrintWords Go.Proofs.YtiibecpllokhiaaDoorW.PrintLast Go.Proofs.YtiibecpllokhiaaDoorW.PrintMore
attribute [local go_sem] max2_int min2_int max_two min_two max_three min_three max_four min_four   -- for this text's walks alone
set_option linter.unusedVariables false
set_option linter.unusedSimpArgs false
def strings_Cut.f (a0 : ByteArray) (a1 : ByteArray) : Option (ByteArray × ByteArray × Bool) := if a0.size < 4294967281 then some (⟨(Lib.cut a0.data.toList a1.data.toList).1.toArray⟩, ⟨(Lib.cut a0.data.toList a1.data.toList).2.1.toArray⟩, (Lib.cut a0.data.toList a1.data.toList).2.2) else none
theorem strings_Cut.calls (a0 : ByteArray) (a1 : ByteArray) (r1 : ByteArray) (r2 : ByteArray) (r3 : Bool) (w : World) (hsh : Shp w) (h : strings_Cut.f a0 a1 = some (r1, r2, r3)) :
    Calls Tryd.prog 50 #[.string a0, .string a1] w fun e w' => e = .returned (.tuple #[.string r1, .string r2, .bool r3]) ∧ Below w.heap.size w w' := by
  unfold strings_Cut.f at h
  by_cases c : a0.size < 4294967281
  · rw [if_pos c] at h
    simp only [Option.some.injEq, Prod.mk.injEq] at h
    obtain ⟨rfl, rfl, rfl⟩ := h
    obtain ⟨m, hm⟩ := hsh
    refine (Tryd.strings_Cut a0 a1 m w c hm).mono ?_
    rintro e w' ⟨rfl, n, rfl⟩
    exact ⟨rfl, pw_below_drewN (Below.refl _ _) n⟩
  · rw [if_neg c] at h; exact absurd h (by simp)
/-- A letter A-Z as a-z. -/
def impl_lower.one (b : UInt8) : UInt8 := if 65 ≤ b.toNat ∧ b.toNat ≤ 90 then b + 32 else b
def impl_lower.all (s : ByteArray) : ByteArray := ⟨s.data.map impl_lower.one⟩
theorem impl_lower.all_size (s : ByteArray) : (impl_lower.all s).size = s.size := by show (s.data.map _).size = s.data.size; rw [Array.size_map]
theorem impl_lower.all_get (s : ByteArray) (j : Nat) (h : j < s.size) : (impl_lower.all s)[j]'(by rw [impl_lower.all_size]; exact h) = impl_lower.one s[j] := by
  exact Array.getElem_map (f := impl_lower.one) (xs := s.data) (i := j) (by rw [Array.size_map]; exact h)
/-- The row behind a conversion, whose first x bytes are turned. -/
def impl_lower.Row (w : World) (g : Nat) (E : TypeId) (s : ByteArray) (x : Int) : Prop :=
  ∃ (cs : Array Value) (m : Nat), w.heap[g]? = some (.cells cs E (m, m + 1)) ∧ s.size ≤ m ∧ cs.size = m ∧ ∀ j (h : j < s.size), cs[j]? = some (.int .u8 ((if (j : Int) < x then impl_lower.one s[j] else s[j]).toNat : Int))
theorem impl_lower.bt_get (s : ByteArray) (x : Int) (h0 : 0 ≤ x) (h : x.toNat < s.size) : bt s x = (s[x.toNat].toNat : Int) := by simp [bt, h]
theorem impl_lower.Row.start (W : World) (E : TypeId) (s : ByteArray) : impl_lower.Row (Lib.bytesWorld W E s) W.heap.size E s 0 := by
  have hs : s.size ≤ (Lib.bytesCells W E s).size := by
    simp only [Lib.bytesCells, Array.size_append, Array.size_map, Array.size_replicate]
    have : s.data.size = s.size := rfl
    omega
  refine ⟨_, _, Lib.bytesWorld_at_new W E s, hs, rfl, fun j h => ?_⟩
  rw [if_neg (by omega)]
  have h' : j < s.data.size := h
  simp only [Lib.bytesCells]
  rw [Array.getElem?_append_left (by rw [Array.size_map]; exact h'), Array.getElem?_map, Array.getElem?_eq_getElem h']
  rfl
theorem impl_lower.Row.cell {w : World} {g : Nat} {E : TypeId} {s : ByteArray} {x : Int} (h : impl_lower.Row w g E s x) (h0 : 0 ≤ x) (h1 : x < s.size) : w.cell? ⟨g, x.toNat, none⟩ = some (.int .u8 (bt s x)) := by
  obtain ⟨cs, m, hh, _, _, hc⟩ := h
  have h2 : x.toNat < s.size := by omega
  have := hc x.toNat h2
  rw [if_neg (by omega)] at this
  rw [impl_lower.bt_get s x h0 h2, ← this]
  simp [World.cell?, hh]
theorem impl_lower.Row.frozen {w : World} {g : Nat} {E : TypeId} {s : ByteArray} {x : Int} (h : impl_lower.Row w g E s x) (h0 : 0 ≤ x) (h1 : x < s.size) : w.frozen? ⟨g, x.toNat, none⟩ = false := by
  obtain ⟨cs, m, hh, hm, _, _⟩ := h
  simp [World.frozen?, hh]
  omega
theorem impl_lower.Row.skip {w : World} {g : Nat} {E : TypeId} {s : ByteArray} {x : Int} (h : impl_lower.Row w g E s x) (h0 : 0 ≤ x) (h1 : x < s.size) (hb : ¬ (65 ≤ bt s x ∧ bt s x ≤ 90)) : impl_lower.Row w g E s (x + 1) := by
  obtain ⟨cs, m, hh, hm, hz, hc⟩ := h
  refine ⟨cs, m, hh, hm, hz, fun j hj => ?_⟩
  rw [hc j hj]
  by_cases c : (j : Int) < x
  · rw [if_pos c, if_pos (by omega)]
  · rw [if_neg c]
    by_cases c2 : (j : Int) < x + 1
    · have e : j = x.toNat := by omega
      rw [if_pos c2]
      rw [impl_lower.bt_get s x h0 (by omega)] at hb
      subst e
      rw [impl_lower.one, if_neg (by omega)]
    · rw [if_neg c2]
theorem impl_lower.set_same {w : World} {b i : Nat} {cs : Array Value} {T : TypeId} {fr : Nat × Nat} (hb : w.heap[b]? = some (.cells cs T fr)) (v : Value) : (w.setCell ⟨b, i, none⟩ v).heap[b]? = some (.cells (cs.setIfInBounds i v) T fr) := by simp [World.setCell, Array.getElem?_modify, hb]
theorem impl_lower.Row.put {w : World} {g : Nat} {E : TypeId} {s : ByteArray} {x : Int} (h : impl_lower.Row w g E s x) (h0 : 0 ≤ x) (h1 : x < s.size) (hb : 65 ≤ bt s x ∧ bt s x ≤ 90) : impl_lower.Row (w.setCell ⟨g, x.toNat, none⟩ (.int .u8 (bt s x + 32))) g E s (x + 1) := by
  obtain ⟨cs, m, hh, hm, hz, hc⟩ := h
  refine ⟨_, m, impl_lower.set_same hh _, hm, by rw [Array.size_setIfInBounds]; exact hz, fun j hj => ?_⟩
  rw [Array.getElem?_setIfInBounds]
  rw [impl_lower.bt_get s x h0 (by omega)] at hb ⊢
  by_cases c : x.toNat = j
  · rw [if_pos c]
    subst c
    rw [if_pos (by omega), if_pos (by omega), impl_lower.one, if_pos (by omega)]
    have e : (s[x.toNat] + 32).toNat = s[x.toNat].toNat + 32 := by rw [UInt8.toNat_add]; exact Nat.mod_eq_of_lt (by have : (32 : UInt8).toNat = 32 := rfl; omega)
    rw [e]; rfl
  · rw [if_neg c, hc j hj]
    by_cases c1 : (j : Int) < x
    · rw [if_pos c1, if_pos (by omega)]
    · rw [if_neg c1, if_neg (by omega)]
theorem impl_lower.Row.bytes {w : World} {g : Nat} {E : TypeId} {s : ByteArray} {x : Int} (h : impl_lower.Row w g E s x) (h1 : (s.size : Int) ≤ x) : Lib.Bytes w g 0 (impl_lower.all s) := by
  obtain ⟨cs, m, hh, hm, hz, hc⟩ := h
  intro i hi
  have hi' : i < s.size := by rw [impl_lower.all_size] at hi; exact hi
  have := hc i hi'
  rw [if_pos (by omega)] at this
  rw [impl_lower.all_get s i hi', ← this, Nat.zero_add]
  simp [World.cell?, hh]
theorem impl_lower.Row.block {w : World} {g : Nat} {E : TypeId} {s : ByteArray} {x : Int} (h : impl_lower.Row w g E s x) : g < w.heap.size := by
  obtain ⟨cs, m, hh, _⟩ := h
  exact (Array.getElem?_eq_some_iff.1 hh).1
def impl_lower.f (a0 : ByteArray) : Option ByteArray := if a0.size ≤ 9223372036854775807 then some (impl_lower.all a0) else none
theorem impl_lower.within (c : Int) (b : Bool) (hb : b = decide (65 ≤ c ∧ c ≤ 90)) : impl_within.f c 65 90 = some b := by
  subst hb
  unfold impl_within.f
  by_cases h : c ≥ 65
  · rw [if_pos h]; simp [show (65 : Int) ≤ c from h]
  · rw [if_neg h]; simp [show ¬ (65 : Int) ≤ c from h]
set_option maxHeartbeats 4000000 in
set_option maxRecDepth 100000 in
theorem impl_lower.calls (a0 : ByteArray) (r : ByteArray) (w : World) (h : impl_lower.f a0 = some r) : Calls Tryd.prog 82 #[.string a0] w fun e w' => e = .returned (.string r) ∧ Below w.heap.size w w' := by
  have hs : a0.size ≤ 9223372036854775807 := by unfold impl_lower.f at h; split at h <;> simp_all
  have HH : Aside0 (impl_lower.all a0 = r) := ⟨by unfold impl_lower.f at h; rw [if_pos hs] at h; exact Option.some.inj h⟩
  clear h
  have kb := fun W => print_bytes (P := Tryd.prog) 9 22 5 Tryd.underlying9 Tryd.underlying22 Tryd.underlying5 a0 W
  go_enter Tryd.func82, Tryd.ntmps82
  go_wp2
  go_loopw [10] (fun v10 wr => ∃ x : Int, 0 ≤ x ∧ x ≤ (a0.size : Int) ∧ v10 = .int .i64 x ∧ Aside0 (impl_lower.Row wr w.heap.size 5 a0 x) ∧ Aside0 (Below w.heap.size w wr)) (fun v10 _ => a0.size - (intOf v10).toNat)
  case atStart => exact ⟨0, by omega, by omega, rfl, ⟨impl_lower.Row.start w 5 a0⟩, ⟨bytes_below (Below.refl _ _) (Nat.le_refl _) 5 a0⟩⟩
  case round =>
    obtain ⟨x, hx0, hx1, rfl, HR, HB⟩ := hrel
    clear kb
    by_cases hlt : x < (a0.size : Int)
    · have hc := HR.out.cell hx0 hlt
      have hf := HR.out.frozen hx0 hlt
      have hb0 := bt_range a0 x
      have hd1 : decide (x < (a0.size : Int)) = true := decide_eq_true hlt
      have hd2 : decide (0 ≤ x) = true := decide_eq_true hx0
      have p1 := eq_true hx0
      by_cases hin : 65 ≤ bt a0 x ∧ bt a0 x ≤ 90
      · have hi1 := hin.1
        have hi2 := hin.2
        have HP := Aside0.mk (HR.out.put hx0 hlt hin)
        have HW := Aside0.mk (impl_lower.within (bt a0 x) true (by rw [decide_eq_true hin]))
        clear hin
        go_wp2_with (go_at_call 68; refine (impl_within.calls _ _ _ true _ HW.out).mono ?_; rintro e w1 ⟨rfl, rfl⟩)
        go_roundw
        case rel => exact ⟨x + 1, by omega, by omega, by rfl, ⟨HP.out⟩, ⟨HB.out.setCell (by simp) _⟩⟩
        case measure => simp [intOf]; omega
      · have HP := Aside0.mk (HR.out.skip hx0 hlt hin)
        have HW := Aside0.mk (impl_lower.within (bt a0 x) false (by rw [decide_eq_false hin]))
        clear hin
        go_wp2_with (go_at_call 68; refine (impl_within.calls _ _ _ false _ HW.out).mono ?_; rintro e w1 ⟨rfl, rfl⟩)
        go_roundw
        case rel => exact ⟨x + 1, by omega, by omega, by rfl, ⟨HP.out⟩, ⟨HB.out⟩⟩
        case measure => simp [intOf]; omega
    · have hd1 : decide (x < (a0.size : Int)) = false := decide_eq_false hlt
      have hcv := Lib.run_convert_whole (P := Tryd.prog) wr 22 5 9 Tryd.underlying22 Tryd.underlying5 Tryd.underlying9 w.heap.size 0 (impl_lower.all a0) (HR.out.bytes (by omega)) (grownCap w a0.size 0 5)
      rw [impl_lower.all_size] at hcv
      go_wp2
      go_ret
      exact ⟨by rw [← HH.out]; rfl, HB.out⟩
def impl_readField.f (k : Nat) (a0 : ByteArray) : Option (ByteArray × ByteArray × Bool) := (strings_Cut.f a0 (⟨#[58]⟩ : ByteArray)).bind fun bt188 => ((impl_lower.f bt188.1).bind fun t191 => ((strings_Trim.f bt188.2.1 (⟨#[32]⟩ : ByteArray)).bind fun t192 => (if bt188.2.2 = true then ((impl_FieldOk.f k t191 t192).bind fun t194 => (some (t191, t192, t194))) else (some (t191, t192, false)))))
def impl_readField.T3 : Bool × List (List Nat × List Nat) := (true, [([], []), ([], []), ([1], [1]), ([2], [2]), ([3, 2, 2], [2, 3]), ([2, 4], [2, 4]), ([0, 4, 0], [0]), ([5, 6, 0, 1, 2, 3, 4, 5, 6], [5])])
def impl_readField.B3 : List Nat := [0, 0, 2, 6, 14, 30, 31, 127]
theorem impl_readField.tab3 : rtab .any (opsOf Tryd.f52 3) = impl_readField.T3 := by kernel_rfl
theorem impl_readField.bits3 : waitsOk impl_readField.T3.2 impl_readField.B3 = true := by kernel_rfl
set_option maxHeartbeats 8000000 in
set_option maxRecDepth 100000 in
theorem impl_readField.calls (k : Nat) (a0 : ByteArray) (r1 : ByteArray) (r2 : ByteArray) (r3 : Bool) (w : World) (hsh : Shp w) (h : impl_readField.f k a0 = some (r1, r2, r3)) :
    Calls Tryd.prog 52 #[.string a0] w fun e w' => e = .returned (.tuple #[.agg #[.string r1, .string r2], .bool r3]) ∧ Below w.heap.size w w' := by
  have hu40 := Tryd.underlying40
  have HSH := Aside0.mk hsh
  clear hsh
  have HB := Aside0.mk (Below.refl w.heap.size w)
  have H : ((strings_Cut.f a0 (⟨#[58]⟩ : ByteArray)).bind fun bt188 => ((impl_lower.f bt188.1).bind fun t191 => ((strings_Trim.f bt188.2.1 (⟨#[32]⟩ : ByteArray)).bind fun t192 => (if bt188.2.2 = true then ((impl_FieldOk.f k t191 t192).bind fun t194 => (some (t191, t192, t194))) else (some (t191, t192, false)))))) = some (r1, r2, r3) := h
  clear h
  replace H := Option.bind_eq_some_iff.mp H
  obtain ⟨⟨t188, t189, t190⟩, A20, H⟩ := H
  replace H : ((impl_lower.f t188).bind fun t191 => ((strings_Trim.f t189 (⟨#[32]⟩ : ByteArray)).bind fun t192 => (if t190 = true then ((impl_FieldOk.f k t191 t192).bind fun t194 => (some (t191, t192, t194))) else (some (t191, t192, false))))) = some (r1, r2, r3) := H
  have A2 := Aside0.mk A20
  clear A20
  replace H := Option.bind_eq_some_iff.mp H
  obtain ⟨t191, A30, H⟩ := H
  replace H : ((strings_Trim.f t189 (⟨#[32]⟩ : ByteArray)).bind fun t192 => (if t190 = true then ((impl_FieldOk.f k t191 t192).bind fun t194 => (some (t191, t192, t194))) else (some (t191, t192, false)))) = some (r1, r2, r3) := H
  have A3 := Aside0.mk A30
  clear A30
  replace H := Option.bind_eq_some_iff.mp H
  obtain ⟨t192, A40, H⟩ := H
  replace H : (if t190 = true then ((impl_FieldOk.f k t191 t192).bind fun t194 => (some (t191, t192, t194))) else (some (t191, t192, false))) = some (r1, r2, r3) := H
  have A4 := Aside0.mk A40
  clear A40
  have HS5 := Aside0.mk H
  clear H
  go_enter Tryd.func52, Tryd.ntmps52
  go_upto_region 3 with (first | ((with_reducible refine gate_dst (N := 2) rfl ?_); refine box_event ?hg (N := 2) ?hd (cs := #[.string (⟨#[]⟩ : ByteArray), .string (⟨#[]⟩ : ByteArray)]) (t := 40) ?hr ?_; (case hd => rfl); (case hg => rfl); (case hr => (go_simp; done)); intro gb187 hg w6 hbox hb; have n0_ := Aside0.mk (below_step (by repeat ((with_reducible exact HB.out))) hb); have n1_ := Aside0.mk (hbox); have n2_ := Aside0.mk ((by rw [hg]; exact (below_size (by repeat ((with_reducible exact HB.out)))) : w.heap.size ≤ gb187)); have n3_ := Aside0.mk ((by rw [hg]; exact (below_size (by repeat ((with_reducible exact HB.out)))) : w.heap.size ≤ gb187)); clear HB; have HB := n0_; have BK187 := n1_; have GW187 := n2_; have GE187 := n3_; clear n0_ n1_ n2_ n3_; clear hb hbox hg) | ((with_reducible refine gate_callee (f := 50) rfl ?_); refine goesL_ (some 10) rfl rfl Tryd.func50 (by kernel_rfl) rfl #[.string a0, .string (⟨#[58]⟩ : ByteArray)] rfl (by (try simp only [List.map_toArray, List.map_cons, List.map_nil]); rfl) ?_; (with_reducible refine (strings_Cut.calls a0 (⟨#[58]⟩ : ByteArray) t188 t189 t190 _ ?side1 A2.out).mono ?_); (case side1 => exact Shp.below HSH.out (by repeat ((with_reducible exact HB.out)))); rintro e w7 ⟨rfl, hb⟩; refine ⟨_, rfl, ?_⟩; have n0_ := Aside0.mk (blk_below (g := gb187) (o := .cells #[.string (⟨#[]⟩ : ByteArray), .string (⟨#[]⟩ : ByteArray)] 40 (0, 0)) (by (with_reducible repeat (first | refine blk_drewN ?_ _ | refine blk_drew ?_ | refine blk_alloc ?_ _ )); exact BK187.out) hb); have n1_ := Aside0.mk (below_step (by repeat ((with_reducible exact HB.out))) hb); clear BK187; clear HB; have BK187 := n0_; have HB := n1_; clear n0_ n1_; (try clear hb); (try clear hb2); (try clear hk); (try clear hi)) | ((with_reducible refine gate_callee (f := 82) rfl ?_); refine goesL_ (some 15) rfl rfl Tryd.func82 (by kernel_rfl) rfl #[.string t188] rfl (by (try simp only [List.map_toArray, List.map_cons, List.map_nil]); rfl) ?_; (with_reducible refine (impl_lower.calls t188 t191 _ A3.out).mono ?_); rintro e w8 ⟨rfl, hb⟩; refine ⟨_, rfl, ?_⟩; have n0_ := Aside0.mk (blk_below (g := gb187) (o := .cells #[.string (⟨#[]⟩ : ByteArray), .string (⟨#[]⟩ : ByteArray)] 40 (0, 0)) (by (with_reducible repeat (first | refine blk_drewN ?_ _ | refine blk_drew ?_ | refine blk_alloc ?_ _ )); exact BK187.out) hb); have n1_ := Aside0.mk (below_step (by repeat ((with_reducible exact HB.out))) hb); clear BK187; clear HB; have BK187 := n0_; have HB := n1_; clear n0_ n1_; (try clear hb); (try clear hb2); (try clear hk); (try clear hi)) | ((with_reducible refine gate_callee (f := 60) rfl ?_); refine goesL_ (some 17) rfl rfl Tryd.func60 (by kernel_rfl) rfl #[.string t189, .string (⟨#[32]⟩ : ByteArray)] rfl (by (try simp only [List.map_toArray, List.map_cons, List.map_nil]); rfl) ?_; (with_reducible refine (strings_Trim.calls t189 (⟨#[32]⟩ : ByteArray) t192 _ A4.out).mono ?_); rintro e w9 ⟨rfl, hb⟩; refine ⟨_, rfl, ?_⟩; have n0_ := Aside0.mk (blk_below (g := gb187) (o := .cells #[.string (⟨#[]⟩ : ByteArray), .string (⟨#[]⟩ : ByteArray)] 40 (0, 0)) (by (with_reducible repeat (first | refine blk_drewN ?_ _ | refine blk_drew ?_ | refine blk_alloc ?_ _ )); exact BK187.out) hb); have n1_ := Aside0.mk (below_step (by repeat ((with_reducible exact HB.out))) hb); clear BK187; clear HB; have BK187 := n0_; have HB := n1_; clear n0_ n1_; (try clear hb); (try clear hb2); (try clear hk); (try clear hi)) | ((with_reducible refine gate_dst (N := 7) rfl ?_); refine box_event ?hg (N := 7) ?hd (cs := #[.string (⟨#[]⟩ : ByteArray), .string (⟨#[]⟩ : ByteArray)]) (t := 40) ?hr ?_; (case hd => rfl); (case hg => rfl); (case hr => (go_simp; done)); intro gb193 hg w10 hbox hb; have n0_ := Aside0.mk (blk_below (g := gb187) (o := .cells #[.string (⟨#[]⟩ : ByteArray), .string (⟨#[]⟩ : ByteArray)] 40 (0, 0)) (by (with_reducible repeat (first | refine blk_drewN ?_ _ | refine blk_drew ?_ | refine blk_alloc ?_ _ )); exact BK187.out) hb); have n1_ := Aside0.mk (below_step (by repeat ((with_reducible exact HB.out))) hb); have n2_ := Aside0.mk (hbox); have n3_ := Aside0.mk ((by rw [hg]; exact (below_size (by repeat ((with_reducible exact HB.out)))) : w.heap.size ≤ gb193)); have n4_ := Aside0.mk ((by rw [hg]; exact (below_size (by repeat ((with_reducible exact HB.out)))) : w.heap.size ≤ gb193)); have n5_ := Aside0.mk ((by rw [hg]; exact Nat.ne_of_lt (blk_lt (g := gb187) (o := .cells #[.string (⟨#[]⟩ : ByteArray), .string (⟨#[]⟩ : ByteArray)] 40 (0, 0)) (by (with_reducible repeat (first | refine blk_drewN ?_ _ | refine blk_drew ?_ | refine blk_alloc ?_ _ )); exact BK187.out)) : gb187 ≠ gb193)); have n6_ := Aside0.mk ((by rw [hg]; exact Nat.ne_of_gt (blk_lt (g := gb187) (o := .cells #[.string (⟨#[]⟩ : ByteArray), .string (⟨#[]⟩ : ByteArray)] 40 (0, 0)) (by (with_reducible repeat (first | refine blk_drewN ?_ _ | refine blk_drew ?_ | refine blk_alloc ?_ _ )); exact BK187.out)) : gb193 ≠ gb187)); clear BK187; clear HB; have BK187 := n0_; have HB := n1_; have BK193 := n2_; have GW193 := n3_; have GE193 := n4_; have NB187_193 := n5_; have NB193_187 := n6_; clear n0_ n1_ n2_ n3_ n4_ n5_ n6_; clear hb hbox hg; have hnb11 := NB193_187.out; have hnc11 := NB187_193.out; have hcz12_0 : w10.cell? ⟨gb193, 0, none⟩ = some (.string (⟨#[]⟩ : ByteArray)) := (blk_cell BK193.out 0).trans rfl; have hcz12_1 : w10.cell? ⟨gb193, 1, none⟩ = some (.string (⟨#[]⟩ : ByteArray)) := (blk_cell BK193.out 1).trans rfl; have hfz12_0 := blk_frozen BK193.out 0; have hfz12_1 := blk_frozen BK193.out 1))
  (try simp only [Act.put, List.setIfInBounds_toArray, List.set_cons_zero, List.set_cons_succ])
  have H := HS5.out
  clear HS5
  by_cases c13 : t190 = true
  · subst c13
    have H1 : ((impl_FieldOk.f k t191 t192).bind fun t194 => (some (t191, t192, t194))) = some (r1, r2, r3) := by rw [if_pos rfl] at H; exact H
    clear H
    have H := H1
    clear H1
    replace H := Option.bind_eq_some_iff.mp H
    obtain ⟨t194, A140, H⟩ := H
    replace H : (some (t191, t192, t194)) = some (r1, r2, r3) := H
    have A14 := Aside0.mk A140
    clear A140
    simp only [Option.some.injEq, Prod.mk.injEq] at H
    obtain ⟨rfl, rfl, rfl⟩ := H
    go_wp2
    have n0_ : Aside0 (((w10.setCell ⟨gb193, 0, none⟩ (.string t191)).setCell ⟨gb193, 1, none⟩ (.string t192)).heap[gb187]? = some (.cells #[.string (⟨#[]⟩ : ByteArray), .string (⟨#[]⟩ : ByteArray)] 40 (0, 0))) := ⟨by (with_reducible repeat (first | refine blk_drewN ?_ _ | refine blk_drew ?_ | refine blk_alloc ?_ _ )); refine blk_far ?_ NB187_193.out _; (with_reducible repeat (first | refine blk_drewN ?_ _ | refine blk_drew ?_ | refine blk_alloc ?_ _ )); refine blk_far ?_ NB187_193.out _; (with_reducible repeat (first | refine blk_drewN ?_ _ | refine blk_drew ?_ | refine blk_alloc ?_ _ )); exact BK187.out⟩
    have n1_ : Aside0 (((w10.setCell ⟨gb193, 0, none⟩ (.string t191)).setCell ⟨gb193, 1, none⟩ (.string t192)).heap[gb193]? = some (.cells #[.string t191, .string t192] 40 (0, 0))) := ⟨by (with_reducible repeat (first | refine blk_drewN ?_ _ | refine blk_drew ?_ | refine blk_alloc ?_ _ )); refine blk_put (cs := #[.string t191, .string (⟨#[]⟩ : ByteArray)]) ?_ 1 _ rfl; (with_reducible repeat (first | refine blk_drewN ?_ _ | refine blk_drew ?_ | refine blk_alloc ?_ _ )); refine blk_put (cs := #[.string (⟨#[]⟩ : ByteArray), .string (⟨#[]⟩ : ByteArray)]) ?_ 0 _ rfl; (with_reducible repeat (first | refine blk_drewN ?_ _ | refine blk_drew ?_ | refine blk_alloc ?_ _ )); exact BK193.out⟩
    have n2_ : Aside0 (Below w.heap.size w ((w10.setCell ⟨gb193, 0, none⟩ (.string t191)).setCell ⟨gb193, 1, none⟩ (.string t192))) := ⟨by repeat ((with_reducible first | exact HB.out | refine below_set ?_ GE193.out))⟩
    (try clear BK187)
    (try clear BK193)
    (try clear HB)
    generalize ((w10.setCell ⟨gb193, 0, none⟩ (.string t191)).setCell ⟨gb193, 1, none⟩ (.string t192)) = w15 at n0_ n1_ n2_ ⊢
    have BK187 := n0_
    have BK193 := n1_
    have HB := n2_
    clear n0_ n1_ n2_
    have n0_ := Aside0.mk (blk_drew BK187.out)
    have n1_ := Aside0.mk (blk_drew BK193.out)
    have n2_ := Aside0.mk (below_drew1 HB.out)
    clear BK187
    clear BK193
    clear HB
    have BK187 := n0_
    have BK193 := n1_
    have HB := n2_
    clear n0_ n1_ n2_
    refine start_ (n := 8) (S := fun w' => w'.cell? ⟨gb193, 0, none⟩ = some (.string t191) ∧ w'.cell? ⟨gb193, 1, none⟩ = some (.string t192)) (ds := []) #[false, false, false, false, false, false, false, false] (by kernel_rfl) rfl rfl ⟨(blk_cell BK193.out 0).trans rfl, (blk_cell BK193.out 1).trans rfl⟩ (fun hHeld => ?_); refine with_tabW impl_readField.tab3 impl_readField.bits3 (fun HT_ HW_ => ?_)
    generalize w15.drew = w16 at BK187 BK193 HB hHeld ⊢
    refine pure_ (i := 1) (N := some 20) (v := ?_) (a' := ?_) #[false, true, false, false, false, false, false, false] rfl rfl (any_of HT_.out (by kernel_rfl)) (fun _ _ _ h => h) (Or.inl ⟨by rfl, ?_⟩) ?_ ?_
    rotate_left
    · intro w'
      go_simp
      with_reducible rfl
    rotate_left
    · simp only [Act.put, List.setIfInBounds_toArray, List.set_cons_zero, List.set_cons_succ, i64_w, i32_w]
      rfl
    refine pure_ (i := 2) (N := some 21) (v := ?_) (a' := ?_) #[false, true, true, false, false, false, false, false] rfl rfl (any_of HT_.out (by kernel_rfl)) (fun _ _ _ h => h) (Or.inl ⟨by rfl, ?_⟩) ?_ ?_
    rotate_left
    · intro w'
      go_simp
      with_reducible rfl
    rotate_left
    · simp only [Act.put, List.setIfInBounds_toArray, List.set_cons_zero, List.set_cons_succ, i64_w, i32_w]
      rfl
    refine take_ (i := 0) (N := some 19) (v := ?_) (a' := ?_) #[true, true, true, false, false, false, false, false] rfl rfl (take_ofW HT_.out HW_.out (by kernel_rfl)) (fun _ _ _ h => h) (Or.inl ⟨by rfl, ?_⟩) hHeld ?_ ?_
    rotate_left
    · rintro w' ⟨s0, s1⟩
      go_simp
      with_reducible rfl
    rotate_left
    · simp only [Act.put, List.setIfInBounds_toArray, List.set_cons_zero, List.set_cons_succ, i64_w, i32_w]
      rfl
    refine take_ (i := 3) (N := some 22) (v := ?_) (a' := ?_) #[true, true, true, true, false, false, false, false] rfl rfl (take_ofW HT_.out HW_.out (by kernel_rfl)) (fun _ _ _ h => h) (Or.inl ⟨by rfl, ?_⟩) hHeld ?_ ?_
    rotate_left
    · rintro w' ⟨s0, s1⟩
      go_simp
      with_reducible rfl
    rotate_left
    · simp only [Act.put, List.setIfInBounds_toArray, List.set_cons_zero, List.set_cons_succ, i64_w, i32_w]
      rfl
    refine one_ (i := 4) (N := some 23) #[true, true, true, true, true, false, false, false] rfl rfl (one_of HT_.out (by kernel_rfl)) (by decide) (fun K hK => ?_)
    refine goes_ Tryd.func23 (by kernel_rfl) rfl #[.agg #[.string t191, .string t192]] (by rfl) rfl rfl (by (try simp only [List.map_toArray, List.map_cons, List.map_nil]); rfl) ?_
    with_reducible refine (impl_FieldOk.calls k t191 t192 t194 _ A14.out).mono ?_
    rintro e w17 ⟨rfl, hb⟩
    refine ⟨_, rfl, ?_⟩
    have n0_ := Aside0.mk (blk_below (g := gb187) (o := .cells #[.string (⟨#[]⟩ : ByteArray), .string (⟨#[]⟩ : ByteArray)] 40 (0, 0)) (by (with_reducible repeat (first | refine blk_drewN ?_ _ | refine blk_drew ?_ | refine blk_alloc ?_ _ )); exact BK187.out) hb)
    have n1_ := Aside0.mk (blk_below (g := gb193) (o := .cells #[.string t191, .string t192] 40 (0, 0)) (by (with_reducible repeat (first | refine blk_drewN ?_ _ | refine blk_drew ?_ | refine blk_alloc ?_ _ )); exact BK193.out) hb)
    have n2_ := Aside0.mk (below_step (by repeat ((with_reducible exact HB.out))) hb)
    clear BK187
    clear BK193
    clear HB
    have BK187 := n0_
    have BK193 := n1_
    have HB := n2_
    clear n0_ n1_ n2_
    (try clear hb)
    (try clear hb2)
    (try clear hk)
    (try clear hi)
    refine hK.out _ _ ⟨(blk_cell BK193.out 0).trans rfl, (blk_cell BK193.out 1).trans rfl⟩ (fun hHeld => ?_)
    clear hK K
    refine norm_ (a' := ?_) ?_ ?_
    rotate_left
    · show Act.put _ (some 23) _ = _
      simp only [Act.put, List.setIfInBounds_toArray, List.set_cons_zero, List.set_cons_succ, i64_w, i32_w]
      rfl
    refine pure_ (i := 5) (N := some 24) (v := ?_) (a' := ?_) #[true, true, true, true, true, true, false, false] rfl rfl (any_of HT_.out (by kernel_rfl)) (fun _ _ _ h => h) (Or.inl ⟨by rfl, ?_⟩) ?_ ?_
    rotate_left
    · intro w'
      go_simp
      with_reducible rfl
    rotate_left
    · simp only [Act.put, List.setIfInBounds_toArray, List.set_cons_zero, List.set_cons_succ, i64_w, i32_w]
      rfl
    refine one_ (i := 6) (N := none) #[true, true, true, true, true, true, true, false] rfl rfl (one_of HT_.out (by kernel_rfl)) (by decide) (fun K hK => ?_)
    have hs18 : w17.cell? ⟨gb187, 0, none⟩ = some (.string (⟨#[]⟩ : ByteArray)) := (blk_cell BK187.out 0).trans rfl
    have hfs18 := blk_frozen BK187.out 0
    have hns18_1 := NB193_187.out
    have hms18_1 := NB187_193.out
    have hs19 : w17.cell? ⟨gb187, 1, none⟩ = some (.string (⟨#[]⟩ : ByteArray)) := (blk_cell BK187.out 1).trans rfl
    have hfs19 := blk_frozen BK187.out 1
    have hns19_1 := NB193_187.out
    have hms19_1 := NB187_193.out
    refine skip_ (w1 := ?_) (by rfl) rfl ?_ ?_
    rotate_left
    · go_simp
      rfl
    refine hK.out _ _ ⟨((cell_far (p := ⟨gb187, _, none⟩) NB193_187.out _).trans (((cell_far (p := ⟨gb187, _, none⟩) NB193_187.out _).trans (hHeld.1)))), ((cell_far (p := ⟨gb187, _, none⟩) NB193_187.out _).trans (((cell_far (p := ⟨gb187, _, none⟩) NB193_187.out _).trans (hHeld.2))))⟩ (fun hHeld => ?_)
    clear hK K
    refine pure_ (i := 7) (N := some 3) (v := ?_) (a' := ?_) #[true, true, true, true, true, true, true, true] rfl rfl (any_of HT_.out (by kernel_rfl)) (fun _ _ _ h => h) (Or.inl ⟨by rfl, ?_⟩) ?_ ?_
    rotate_left
    · intro w'
      go_simp
      with_reducible rfl
    rotate_left
    · simp only [Act.put, List.setIfInBounds_toArray, List.set_cons_zero, List.set_cons_succ, i64_w, i32_w]
      rfl
    refine done_ (done_of HT_.out (by kernel_rfl)) ?_
    go_wp2
    refine bodyPost_ret (results_ct rfl _ _ gb187 40 #[.string t191, .string t192] (0, 0) _ rfl (by (with_reducible repeat (first | refine blk_drewN ?_ _ | refine blk_drew ?_ | refine blk_alloc ?_ _ )); refine blk_put (cs := #[.string t191, .string (⟨#[]⟩ : ByteArray)]) ?_ 1 _ rfl; (with_reducible repeat (first | refine blk_drewN ?_ _ | refine blk_drew ?_ | refine blk_alloc ?_ _ )); refine blk_put (cs := #[.string (⟨#[]⟩ : ByteArray), .string (⟨#[]⟩ : ByteArray)]) ?_ 0 _ rfl; (with_reducible repeat (first | refine blk_drewN ?_ _ | refine blk_drew ?_ | refine blk_alloc ?_ _ )); exact BK187.out) Tryd.underlying40 rfl (by kernel_rfl)) rfl ?_
    exact ⟨by rfl, by repeat ((with_reducible first | exact HB.out | refine below_set ?_ GE187.out))⟩
  · replace c13 := Bool.eq_false_iff.mpr c13
    subst c13
    have H1 : (some (t191, t192, false)) = some (r1, r2, r3) := by rw [if_neg (show ¬ (false = true) by decide)] at H; exact H
    clear H
    have H := H1
    clear H1
    simp only [Option.some.injEq, Prod.mk.injEq] at H
    obtain ⟨rfl, rfl, rfl⟩ := H
    go_wp2
    have n0_ : Aside0 (((w10.setCell ⟨gb193, 0, none⟩ (.string t191)).setCell ⟨gb193, 1, none⟩ (.string t192)).heap[gb187]? = some (.cells #[.string (⟨#[]⟩ : ByteArray), .string (⟨#[]⟩ : ByteArray)] 40 (0, 0))) := ⟨by (with_reducible repeat (first | refine blk_drewN ?_ _ | refine blk_drew ?_ | refine blk_alloc ?_ _ )); refine blk_far ?_ NB187_193.out _; (with_reducible repeat (first | refine blk_drewN ?_ _ | refine blk_drew ?_ | refine blk_alloc ?_ _ )); refine blk_far ?_ NB187_193.out _; (with_reducible repeat (first | refine blk_drewN ?_ _ | refine blk_drew ?_ | refine blk_alloc ?_ _ )); exact BK187.out⟩
    have n1_ : Aside0 (((w10.setCell ⟨gb193, 0, none⟩ (.string t191)).setCell ⟨gb193, 1, none⟩ (.string t192)).heap[gb193]? = some (.cells #[.string t191, .string t192] 40 (0, 0))) := ⟨by (with_reducible repeat (first | refine blk_drewN ?_ _ | refine blk_drew ?_ | refine blk_alloc ?_ _ )); refine blk_put (cs := #[.string t191, .string (⟨#[]⟩ : ByteArray)]) ?_ 1 _ rfl; (with_reducible repeat (first | refine blk_drewN ?_ _ | refine blk_drew ?_ | refine blk_alloc ?_ _ )); refine blk_put (cs := #[.string (⟨#[]⟩ : ByteArray), .string (⟨#[]⟩ : ByteArray)]) ?_ 0 _ rfl; (with_reducible repeat (first | refine blk_drewN ?_ _ | refine blk_drew ?_ | refine blk_alloc ?_ _ )); exact BK193.out⟩
    have n2_ : Aside0 (Below w.heap.size w ((w10.setCell ⟨gb193, 0, none⟩ (.string t191)).setCell ⟨gb193, 1, none⟩ (.string t192))) := ⟨by repeat ((with_reducible first | exact HB.out | refine below_set ?_ GE193.out))⟩
    (try clear BK187)
    (try clear BK193)
    (try clear HB)
    generalize ((w10.setCell ⟨gb193, 0, none⟩ (.string t191)).setCell ⟨gb193, 1, none⟩ (.string t192)) = w20 at n0_ n1_ n2_ ⊢
    have BK187 := n0_
    have BK193 := n1_
    have HB := n2_
    clear n0_ n1_ n2_
    have n0_ := Aside0.mk (blk_drew BK187.out)
    have n1_ := Aside0.mk (blk_drew BK193.out)
    have n2_ := Aside0.mk (below_drew1 HB.out)
    clear BK187
    clear BK193
    clear HB
    have BK187 := n0_
    have BK193 := n1_
    have HB := n2_
    clear n0_ n1_ n2_
    refine start_ (n := 8) (S := fun w' => w'.cell? ⟨gb193, 0, none⟩ = some (.string t191) ∧ w'.cell? ⟨gb193, 1, none⟩ = some (.string t192)) (ds := []) #[false, false, false, false, false, false, false, false] (by kernel_rfl) rfl rfl ⟨(blk_cell BK193.out 0).trans rfl, (blk_cell BK193.out 1).trans rfl⟩ (fun hHeld => ?_); refine with_tabW impl_readField.tab3 impl_readField.bits3 (fun HT_ HW_ => ?_)
    generalize w20.drew = w21 at BK187 BK193 HB hHeld ⊢
    refine pure_ (i := 1) (N := some 20) (v := ?_) (a' := ?_) #[false, true, false, false, false, false, false, false] rfl rfl (any_of HT_.out (by kernel_rfl)) (fun _ _ _ h => h) (Or.inl ⟨by rfl, ?_⟩) ?_ ?_
    rotate_left
    · intro w'
      go_simp
      with_reducible rfl
    rotate_left
    · simp only [Act.put, List.setIfInBounds_toArray, List.set_cons_zero, List.set_cons_succ, i64_w, i32_w]
      rfl
    refine pure_ (i := 2) (N := some 21) (v := ?_) (a' := ?_) #[false, true, true, false, false, false, false, false] rfl rfl (any_of HT_.out (by kernel_rfl)) (fun _ _ _ h => h) (Or.inl ⟨by rfl, ?_⟩) ?_ ?_
    rotate_left
    · intro w'
      go_simp
      with_reducible rfl
    rotate_left
    · simp only [Act.put, List.setIfInBounds_toArray, List.set_cons_zero, List.set_cons_succ, i64_w, i32_w]
      rfl
    refine pure_ (i := 3) (N := some 22) (v := undef) (a' := ?_) #[false, true, true, true, false, false, false, false] rfl rfl (any_of HT_.out (by kernel_rfl)) (fun _ _ _ h => h) (Or.inr ⟨by rfl, rfl⟩) ?_ ?_
    rotate_left
    · simp only [Act.put, List.setIfInBounds_toArray, List.set_cons_zero, List.set_cons_succ, i64_w, i32_w]
      rfl
    refine pure_ (i := 4) (N := some 23) (v := undef) (a' := ?_) #[false, true, true, true, true, false, false, false] rfl rfl (any_of HT_.out (by kernel_rfl)) (fun _ _ _ h => h) (Or.inr ⟨by rfl, rfl⟩) ?_ ?_
    rotate_left
    · simp only [Act.put, List.setIfInBounds_toArray, List.set_cons_zero, List.set_cons_succ, i64_w, i32_w]
      rfl
    refine pure_ (i := 5) (N := some 24) (v := ?_) (a' := ?_) #[false, true, true, true, true, true, false, false] rfl rfl (any_of HT_.out (by kernel_rfl)) (fun _ _ _ h => h) (Or.inl ⟨by rfl, ?_⟩) ?_ ?_
    rotate_left
    · intro w'
      go_simp
      with_reducible rfl
    rotate_left
    · simp only [Act.put, List.setIfInBounds_toArray, List.set_cons_zero, List.set_cons_succ, i64_w, i32_w]
      rfl
    refine take_ (i := 0) (N := some 19) (v := ?_) (a' := ?_) #[true, true, true, true, true, true, false, false] rfl rfl (take_ofW HT_.out HW_.out (by kernel_rfl)) (fun _ _ _ h => h) (Or.inl ⟨by rfl, ?_⟩) hHeld ?_ ?_
    rotate_left
    · rintro w' ⟨s0, s1⟩
      go_simp
      with_reducible rfl
    rotate_left
    · simp only [Act.put, List.setIfInBounds_toArray, List.set_cons_zero, List.set_cons_succ, i64_w, i32_w]
      rfl
    refine one_ (i := 6) (N := none) #[true, true, true, true, true, true, true, false] rfl rfl (one_of HT_.out (by kernel_rfl)) (by decide) (fun K hK => ?_)
    have hs22 : w21.cell? ⟨gb187, 0, none⟩ = some (.string (⟨#[]⟩ : ByteArray)) := (blk_cell BK187.out 0).trans rfl
    have hfs22 := blk_frozen BK187.out 0
    have hns22_1 := NB193_187.out
    have hms22_1 := NB187_193.out
    have hs23 : w21.cell? ⟨gb187, 1, none⟩ = some (.string (⟨#[]⟩ : ByteArray)) := (blk_cell BK187.out 1).trans rfl
    have hfs23 := blk_frozen BK187.out 1
    have hns23_1 := NB193_187.out
    have hms23_1 := NB187_193.out
    refine skip_ (w1 := ?_) (by rfl) rfl ?_ ?_
    rotate_left
    · go_simp
      rfl
    refine hK.out _ _ ⟨((cell_far (p := ⟨gb187, _, none⟩) NB193_187.out _).trans (((cell_far (p := ⟨gb187, _, none⟩) NB193_187.out _).trans (hHeld.1)))), ((cell_far (p := ⟨gb187, _, none⟩) NB193_187.out _).trans (((cell_far (p := ⟨gb187, _, none⟩) NB193_187.out _).trans (hHeld.2))))⟩ (fun hHeld => ?_)
    clear hK K
    refine pure_ (i := 7) (N := some 3) (v := ?_) (a' := ?_) #[true, true, true, true, true, true, true, true] rfl rfl (any_of HT_.out (by kernel_rfl)) (fun _ _ _ h => h) (Or.inl ⟨by rfl, ?_⟩) ?_ ?_
    rotate_left
    · intro w'
      go_simp
      with_reducible rfl
    rotate_left
    · simp only [Act.put, List.setIfInBounds_toArray, List.set_cons_zero, List.set_cons_succ, i64_w, i32_w]
      rfl
    refine done_ (done_of HT_.out (by kernel_rfl)) ?_
    go_wp2
    refine bodyPost_ret (results_ct rfl _ _ gb187 40 #[.string t191, .string t192] (0, 0) _ rfl (by (with_reducible repeat (first | refine blk_drewN ?_ _ | refine blk_drew ?_ | refine blk_alloc ?_ _ )); refine blk_put (cs := #[.string t191, .string (⟨#[]⟩ : ByteArray)]) ?_ 1 _ rfl; (with_reducible repeat (first | refine blk_drewN ?_ _ | refine blk_drew ?_ | refine blk_alloc ?_ _ )); refine blk_put (cs := #[.string (⟨#[]⟩ : ByteArray), .string (⟨#[]⟩ : ByteArray)]) ?_ 0 _ rfl; (with_reducible repeat (first | refine blk_drewN ?_ _ | refine blk_drew ?_ | refine blk_alloc ?_ _ )); exact BK187.out) Tryd.underlying40 rfl (by kernel_rfl)) rfl ?_
    exact ⟨by rfl, by repeat ((with_reducible first | exact HB.out | refine below_set ?_ GE187.out))⟩
def stringslite_TrimSuffix.f (a0 : ByteArray) (a1 : ByteArray) : Option (ByteArray) := (stringslite_HasSuffix.f a0 a1).bind fun t195 => (if t195 = true then (if 0 ≤ (wrap64 ((a0.size : Int) - (a1.size : Int))) then (if (wrap64 ((a0.size : Int) - (a1.size : Int))) ≤ (a0.size : Int) then (some (a0.extract 0 ((wrap64 ((a0.size : Int) - (a1.size : Int))) : Int).toNat)) else (none)) else (none)) else (some a0))
set_option maxHeartbeats 8000000 in
set_option maxRecDepth 100000 in
theorem stringslite_TrimSuffix.calls (a0 : ByteArray) (a1 : ByteArray) (r : ByteArray) (w : World) (h : stringslite_TrimSuffix.f a0 a1 = some r) :
    Calls Tryd.prog 102 #[.string a0, .string a1] w fun e w' => e = .returned (.string r) ∧ w = w' := by
  have H : ((stringslite_HasSuffix.f a0 a1).bind fun t195 => (if t195 = true then (if 0 ≤ (wrap64 ((a0.size : Int) - (a1.size : Int))) then (if (wrap64 ((a0.size : Int) - (a1.size : Int))) ≤ (a0.size : Int) then (some (a0.extract 0 ((wrap64 ((a0.size : Int) - (a1.size : Int))) : Int).toNat)) else (none)) else (none)) else (some a0))) = some r := h
  clear h
  replace H := Option.bind_eq_some_iff.mp H
  obtain ⟨t195, A30, H⟩ := H
  replace H : (if t195 = true then (if 0 ≤ (wrap64 ((a0.size : Int) - (a1.size : Int))) then (if (wrap64 ((a0.size : Int) - (a1.size : Int))) ≤ (a0.size : Int) then (some (a0.extract 0 ((wrap64 ((a0.size : Int) - (a1.size : Int))) : Int).toNat)) else (none)) else (none)) else (some a0)) = some r := H
  have A3 := Aside0.mk A30
  clear A30
  have HS4 := Aside0.mk H
  clear H
  go_enter Tryd.func102, Tryd.ntmps102
  go_upto_if 7 with (((with_reducible refine gate_callee (f := 111) rfl ?_); refine goesL_ (some 7) rfl rfl Tryd.func111 (by kernel_rfl) rfl #[.string a0, .string a1] rfl (by (try simp only [List.map_toArray, List.map_cons, List.map_nil]); rfl) ?_; (with_reducible refine (stringslite_HasSuffix.calls a0 a1 t195 _ A3.out).mono ?_); rintro e w' ⟨rfl, rfl⟩; refine ⟨_, rfl, ?_⟩))
  (try simp only [Act.put, List.setIfInBounds_toArray, List.set_cons_zero, List.set_cons_succ])
  have H := HS4.out
  clear HS4
  by_cases c5 : t195 = true
  · subst c5
    have H1 : (if 0 ≤ (wrap64 ((a0.size : Int) - (a1.size : Int))) then (if (wrap64 ((a0.size : Int) - (a1.size : Int))) ≤ (a0.size : Int) then (some (a0.extract 0 ((wrap64 ((a0.size : Int) - (a1.size : Int))) : Int).toNat)) else (none)) else (none)) = some r := by rw [if_pos rfl] at H; exact H
    clear H
    have H := H1
    clear H1
    obtain ⟨ji6, hji6⟩ : ∃ j_ : Int, (wrap64 ((a0.size : Int) - (a1.size : Int))) = j_ := ⟨_, rfl⟩
    replace H : (if 0 ≤ (ji6) then (if (ji6) ≤ (a0.size : Int) then (some (a0.extract 0 ((ji6) : Int).toNat)) else (none)) else (none)) = some r := by (rw [hji6] at H; exact H)
    have hji6w : (IntKind.i64.wrap ((a0.size : Int) - (a1.size : Int))) = ji6 := (i64_w _).trans hji6
    by_cases c7 : 0 ≤ (ji6)
    · rw [if_pos c7] at H
      have c7b0 := eq_true c7
      have c7b1 : decide (0 ≤ (ji6)) = true := decide_eq_true c7
      clear c7
      by_cases c8 : (ji6) ≤ (a0.size : Int)
      · rw [if_pos c8] at H
        have c8b0 := eq_true c8
        have c8b1 : decide ((ji6) ≤ (a0.size : Int)) = true := decide_eq_true c8
        clear c8
        obtain rfl := Option.some.inj H
        go_wp2
        go_ret
        exact ⟨by rfl, rfl⟩
      · rw [if_neg c8] at H
        exact absurd H (by simp)
    · rw [if_neg c7] at H
      exact absurd H (by simp)
  · replace c5 := Bool.eq_false_iff.mpr c5
    subst c5
    have H1 : (some a0) = some r := by rw [if_neg (show ¬ (false = true) by decide)] at H; exact H
    clear H
    have H := H1
    clear H1
    obtain rfl := Option.some.inj H
    go_wp2
    go_ret
    exact ⟨by rfl, rfl⟩
def strings_TrimSuffix.f (a0 : ByteArray) (a1 : ByteArray) : Option (ByteArray) := (stringslite_TrimSuffix.f a0 a1).bind fun t196 => (some t196)
set_option maxHeartbeats 8000000 in
set_option maxRecDepth 100000 in
theorem strings_TrimSuffix.calls (a0 : ByteArray) (a1 : ByteArray) (r : ByteArray) (w : World) (h : strings_TrimSuffix.f a0 a1 = some r) :
    Calls Tryd.prog 83 #[.string a0, .string a1] w fun e w' => e = .returned (.string r) ∧ w = w' := by
  have H : ((stringslite_TrimSuffix.f a0 a1).bind fun t196 => (some t196)) = some r := h
  clear h
  replace H := Option.bind_eq_some_iff.mp H
  obtain ⟨t196, A30, H⟩ := H
  replace H : (some t196) = some r := H
  have A3 := Aside0.mk A30
  clear A30
  obtain rfl := Option.some.inj H
  go_enter Tryd.func83, Tryd.ntmps83
  go_wp2_with (((with_reducible refine gate_callee (f := 102) rfl ?_); refine goesL_ (some 7) rfl rfl Tryd.func102 (by kernel_rfl) rfl #[.string a0, .string a1] rfl (by (try simp only [List.map_toArray, List.map_cons, List.map_nil]); rfl) ?_; (with_reducible refine (stringslite_TrimSuffix.calls a0 a1 t196 _ A3.out).mono ?_); rintro e w' ⟨rfl, rfl⟩; refine ⟨_, rfl, ?_⟩))
  go_ret
  exact ⟨by rfl, rfl⟩
theorem strings_ContainsAny.enc (r : Nat) (h : 128 ≤ r) : 2 ≤ (Utf8.encode (r : Int)).size ∧ (Utf8.encode (r : Int)).size ≤ 4 ∧ 128 ≤ bt (Utf8.encode (r : Int)) (((Utf8.encode (r : Int)).size - 1 : Nat) : Int) := by
  unfold Utf8.encode
  have hv : 128 ≤ (if Utf8.valid (r : Int) then (r : Int).toNat else Utf8.runeError) := by
    split
    · simpa using h
    · decide
  generalize (if Utf8.valid (r : Int) then (r : Int).toNat else Utf8.runeError) = c at hv
  simp only
  rw [if_neg (by omega)]
  have hb : ∀ n : Nat, (UInt8.ofNat (128 + n % 64)).toNat = 128 + n % 64 := fun n => by
    rw [UInt8.toNat_ofNat']; omega
  split
  · refine ⟨by show 2 ≤ 2; omega, by show 2 ≤ 4; omega, ?_⟩
    show 128 ≤ bt ⟨#[_, UInt8.ofNat (128 + c % 64)]⟩ ((1 : Nat) : Int)
    rw [show bt ⟨#[_, UInt8.ofNat (128 + c % 64)]⟩ ((1 : Nat) : Int) = ((UInt8.ofNat (128 + c % 64)).toNat : Int) from rfl, hb]
    omega
  · split
    · refine ⟨by show 2 ≤ 3; omega, by show 3 ≤ 4; omega, ?_⟩
      show 128 ≤ bt ⟨#[_, _, UInt8.ofNat (128 + c % 64)]⟩ ((2 : Nat) : Int)
      rw [show bt ⟨#[_, _, UInt8.ofNat (128 + c % 64)]⟩ ((2 : Nat) : Int) = ((UInt8.ofNat (128 + c % 64)).toNat : Int) from rfl, hb]
      omega
    · refine ⟨by show 2 ≤ 4; omega, by show 4 ≤ 4; omega, ?_⟩
      show 128 ≤ bt ⟨#[_, _, _, UInt8.ofNat (128 + c % 64)]⟩ ((3 : Nat) : Int)
      rw [show bt ⟨#[_, _, _, UInt8.ofNat (128 + c % 64)]⟩ ((3 : Nat) : Int) = ((UInt8.ofNat (128 + c % 64)).toNat : Int) from rfl, hb]
      omega
theorem strings_ContainsAny.skip (s : ByteArray) (pos : Nat) (h : pos < s.size) (ha : 128 ≤ (s[pos]'h).toNat) : ∀ k, k < (Utf8.decode s pos).2 → pos + k < s.size ∧ 128 ≤ (s.get! (pos + k)).toNat := by
  have hn : ¬ (s[pos]'h).toNat < 128 := by omega
  have g0 : 128 ≤ (s.get! (pos + 0)).toNat := by rw [get_at s pos h]; exact ha
  simp only [Utf8.decode, get_at s pos h, hn, if_false]
  intro k
  have one : k < 1 → pos + k < s.size ∧ 128 ≤ (s.get! (pos + k)).toNat := fun hk => by
    obtain rfl : k = 0 := by omega
    exact ⟨h, g0⟩
  repeat' split
  all_goals first
    | exact one
    | (intro hk
       simp only [Bool.and_eq_true, decide_eq_true_eq, beq_iff_eq] at *
       rcases k with _ | _ | _ | _ | k
       all_goals (try simp only [Nat.zero_add, Nat.reduceAdd])
       all_goals first | exact ⟨h, g0⟩ | (constructor <;> omega) | omega)
set_option maxHeartbeats 4000000 in
set_option maxRecDepth 100000 in
theorem strings_ContainsAny.rune (r : Nat) (h : 128 ≤ r) (hm : r ≤ 2147483647) (w : World) : Calls Tryd.prog 117 #[.string ⟨#[13, 10]⟩, .int .i32 (r : Int)] w fun e w' => e = .returned (.int .i64 (-1)) ∧ Below w.heap.size w w' := by
  have d0 : decide ((0 : Int) ≤ (r : Int)) = true := decide_eq_true (by omega)
  have d1 : decide ((r : Int) < 128) = false := decide_eq_false (by omega)
  by_cases c1 : (r : Int) = 65533
  · have d2 : ((r : Int) == 65533) = true := beq_iff_eq.2 c1
    clear c1
    have hz : (⟨#[13, 10]⟩ : ByteArray).size = 2 := rfl
    go_enter Tryd.func117, Tryd.ntmps117
    go_wp2
    go_loopg [5, 6] 2 (fun g _ _ wx => ∃ i : Nat, i + g = 2 ∧ wx = w.iter ⟨#[13, 10]⟩ i)
    case atStart => exact ⟨0, by omega, rfl⟩
    case round =>
      obtain ⟨i, hig, rfl⟩ := hrel
      cases gk with
      | zero =>
        obtain rfl : i = 2 := by omega
        have hnx := run_next_end (P := Tryd.prog) w ⟨#[13, 10]⟩ 2
        go_wp2
        go_ret
        exact ⟨rfl, (Below.refl _ _).alloc (Nat.le_refl _) _⟩
      | succ g =>
        rcases (show i = 0 ∨ i = 1 by omega) with rfl | rfl
        · have hnx := fun ty => run_next_ascii (P := Tryd.prog) w ⟨#[13, 10]⟩ 0 ty (by decide) (by decide)
          have e13 : ∀ h, ((⟨#[13, 10]⟩ : ByteArray)[0]'h).toNat = 13 := fun h => rfl
          go_wp2
          go_roundg g
          case measure => omega
          case rel => exact ⟨1, by omega, rfl⟩
        · have hnx := fun ty => run_next_ascii (P := Tryd.prog) w ⟨#[13, 10]⟩ 1 ty (by decide) (by decide)
          have e10 : ∀ h, ((⟨#[13, 10]⟩ : ByteArray)[1]'h).toNat = 10 := fun h => rfl
          go_wp2
          go_roundg g
          case measure => omega
          case rel => exact ⟨2, by omega, rfl⟩
  · have d2 : ((r : Int) == 65533) = false := beq_eq_false_iff_ne.2 c1
    by_cases c2 : Lib.validRune (r : Int) = true
    · obtain ⟨e2, e4, el⟩ := strings_ContainsAny.enc r h
      obtain ⟨es, hes⟩ : ∃ es, Utf8.encode (r : Int) = es := ⟨_, rfl⟩; rw [hes] at e2 e4 el
      have hVR := c2
      have hcv : ∀ W : World, (convert 21 9 (.int .i32 (r : Int))).run Tryd.prog W = .ok (.string es) W := fun W => by rw [← hes]; exact run_convert_int_string W _ _ .i32 (r : Int) (by kernel_rfl) (by kernel_rfl)
      by_cases c3 : es.size = 2
      · have z0 : ((es.size : Nat) : Int) = 2 := by omega
        rw [c3] at el
        replace el : 128 ≤ bt es 1 := el
        have p0 : ((0 : Int) ≤ 1) = True := eq_true (by omega)
        have n0 : ((10 : Int) != bt es 1) = true := bne_iff_ne.2 (by omega)
        have hx1 : ∀ h : 1 < es.size, ((es[1]'h).toNat : Int) = bt es 1 := fun h => bt_at es 1 h
        have q1 : ((1 : Int) < (es.size : Int)) = True := eq_true (by omega)
        have hx2 : ∀ h : 1 < (⟨#[13, 10]⟩ : ByteArray).size, (((⟨#[13, 10]⟩ : ByteArray)[1]'h).toNat : Int) = 10 := fun h => rfl
        have q2 : ((1 : Int) < ((⟨#[13, 10]⟩ : ByteArray).size : Int)) = True := eq_true (by decide)
        have hib : ∀ (s : ByteArray) (c : UInt8), s.size = 0 → Lib.indexByte s.data.toList c = -1 := fun s c hs => by
          have : s.data.toList = [] := List.eq_nil_of_length_eq_zero (by rw [← Lib.size_eq]; exact hs)
          rw [this]; rfl
        go_enter Tryd.func117, Tryd.ntmps117
        go_wp2_with (first | (go_at_call 130; refine (Tryd.utf8_ValidRune (r : Int) _).mono ?_; rintro e w' ⟨rfl, hw⟩; rw [hw, hVR]))
        go_step3
        go_wp2
        go_loopw [9] (fun v9 wr => v9 = .int .i64 1 ∧ wr = w) (fun _ _ => 0)
        case atStart => exact ⟨rfl, rfl⟩
        case round =>
          obtain ⟨rfl, rfl⟩ := hrel
          clear hes c2 hVR hcv c1 d0 d1 d2 z0 c3 e2 e4 el
          go_wp2
          have hw2 : IntKind.i64.wrap (1 + 1) = 2 := by rw [IntKind.wrap_i64]; rfl
          have hw3 : IntKind.i64.wrap 2 = 2 := by rw [IntKind.wrap_i64]; rfl
          have hsl : ∀ W : World, (Instr.slice 9 (.string ⟨#[13, 10]⟩) (some (.int .i64 2)) none none).run Tryd.prog W = .ok (.string ⟨#[]⟩) W := fun W => run_slice_string_l W 9 ⟨#[13, 10]⟩ Tryd.underlying9 .i64 2 (by omega) (by decide)
          go_step3
          go_wp2
          go_quiet (fail)
          go_wp2
          go_quiet ((go_at_call 129; refine (Tryd.strings_IndexByte _ _ _).mono ?_; rintro e w'' ⟨rfl, rfl⟩; exact ⟨by rw [hib _ _ rfl], _, rfl⟩))
          go_wp2
          dsimp +zetaDelta only [Exit.inBlock, Exit.then, Exit.noGoto]
          go_ret
          exact ⟨rfl, by repeat (first | exact Below.refl _ _ | apply pw_below_drewN | apply below_drew1)⟩
      · have hgen : ∀ m : Int, (m = 3 ∨ m = 4) → ((es.size : Nat) : Int) = m → Calls Tryd.prog 117 #[.string ⟨#[13, 10]⟩, .int .i32 (r : Int)] w fun e w' => e = .returned (.int .i64 (-1)) ∧ Below w.heap.size w w' := by
          intro m hm0 z0
          rcases hm0 with rfl | rfl
          all_goals
            go_enter Tryd.func117, Tryd.ntmps117
            go_wp2_with (first | (go_at_call 130; refine (Tryd.utf8_ValidRune (r : Int) _).mono ?_; rintro e w' ⟨rfl, hw⟩; rw [hw, hVR]))
            go_step3
            go_wp2
            go_loopw [9] (fun v9 wr => (v9 = .int .i64 2 ∨ v9 = .int .i64 3) ∧ wr = w) (fun _ _ => 0)
            case atStart => exact ⟨by simp, rfl⟩
            case round =>
              obtain ⟨rfl | rfl, rfl⟩ := hrel
              all_goals
                go_wp2
                dsimp +zetaDelta only [Exit.inBlock, Exit.then, Exit.noGoto]
                go_ret
                exact ⟨rfl, by repeat (first | exact Below.refl _ _ | apply pw_below_drewN | apply below_drew1)⟩
        exact hgen _ (by omega) rfl
    · go_enter Tryd.func117, Tryd.ntmps117
      have c2' : Lib.validRune (r : Int) = false := by simpa using c2
      go_wp2_with (first | (go_at_call 130; refine (Tryd.utf8_ValidRune (r : Int) _).mono ?_; rintro e w' ⟨rfl, hw⟩; rw [hw, c2']))
      go_ret
      exact ⟨rfl, Below.refl _ _⟩
/-- The world with the iterator at b set to a place. -/
def strings_ContainsAny.It (W : World) (b : Nat) (s : ByteArray) (p : Nat) : Prop := W.heap[b]? = some (.stringIter s p)
def strings_ContainsAny.to (W : World) (b : Nat) (s : ByteArray) (p : Nat) : World := { W with heap := W.heap.setIfInBounds b (.stringIter s p) }
theorem strings_ContainsAny.It.set {W : World} {b : Nat} {s : ByteArray} {p : Nat} (h : strings_ContainsAny.It W b s p) (q : Nat) : strings_ContainsAny.It (strings_ContainsAny.to W b s q) b s q := by
  unfold strings_ContainsAny.It strings_ContainsAny.to at *
  have : b < W.heap.size := (Array.getElem?_eq_some_iff.1 h).1
  simp [Array.getElem?_setIfInBounds, this]
theorem strings_ContainsAny.It.below {W w : World} {b : Nat} {s : ByteArray} {q : Nat} (h : Below w.heap.size w W) (hb : w.heap.size ≤ b) : Below w.heap.size w (strings_ContainsAny.to W b s q) := by
  refine ⟨h.os, h.tape, h.output, ?_, fun k hk => ?_⟩
  · show w.heap.size ≤ (W.heap.setIfInBounds b _).size
    rw [Array.size_setIfInBounds]; exact h.size
  · show (W.heap.setIfInBounds b _)[k]? = _
    rw [Array.getElem?_setIfInBounds, if_neg (by omega)]; exact h.block k hk
theorem strings_ContainsAny.It.keeps {W W' : World} {b : Nat} {s : ByteArray} {p : Nat} (h : strings_ContainsAny.It W b s p) (k : Below W.heap.size W W') : strings_ContainsAny.It W' b s p := by
  unfold strings_ContainsAny.It at *
  rw [k.block b (Array.getElem?_eq_some_iff.1 h).1]; exact h
theorem strings_ContainsAny.next {P : Program} {W : World} {b : Nat} {s : ByteArray} {pos : Nat} (hb : strings_ContainsAny.It W b s pos) (ty : TypeId) (h : pos < s.size) :
    (Instr.next (.pointer (some ⟨b, 0, none⟩)) true ty).run P W = .ok (.tuple #[.bool true, .int .i64 pos, .int .i32 (Utf8.decode s pos).1]) (strings_ContainsAny.to W b s (pos + (Utf8.decode s pos).2)) := by
  unfold strings_ContainsAny.It at hb
  simp only [Instr.next, getObj, setObj, Sem.run_bind, Sem.run, hb, Result.andThen, h, if_true]
  simp [goInt, strings_ContainsAny.to]
theorem strings_ContainsAny.last {P : Program} {W : World} {b : Nat} {s : ByteArray} {pos : Nat} (hb : strings_ContainsAny.It W b s pos) (ty : TypeId) (h : ¬ pos < s.size) :
    (Instr.next (.pointer (some ⟨b, 0, none⟩)) true ty).run P W = .ok (.tuple #[.bool false]) W := by
  unfold strings_ContainsAny.It at hb
  simp [Instr.next, getObj, Sem.run, hb, h]
theorem strings_ContainsAny.pass {s : ByteArray} {i k : Nat} (h : Lib.NoAny s.data.toList [13, 10] i) (hk : ∀ j, j < k → i + j < s.size ∧ 128 ≤ (s.get! (i + j)).toNat) : Lib.NoAny s.data.toList [13, 10] (i + k) := by
  intro j b hj hb
  by_cases c : j < i
  · exact h j b c hb
  · obtain ⟨h1, h2⟩ := hk (j - i) (by omega)
    rw [show i + (j - i) = j by omega] at h1 h2
    have e := get_at s j h1
    rw [Nat.add_zero] at e
    rw [e] at h2
    rw [Lib.data_getElem? s j h1] at hb
    obtain rfl := Option.some.inj hb
    simp only [List.contains_cons, List.contains_nil, Bool.or_false, Bool.or_eq_false_iff, beq_eq_false_iff_ne]
    constructor
    · intro e; rw [e] at h2; exact absurd h2 (by decide)
    · intro e; rw [e] at h2; exact absurd h2 (by decide)
set_option maxHeartbeats 4000000 in
set_option maxRecDepth 100000 in
theorem strings_ContainsAny.short (s : ByteArray) (w : World) (h8 : s.size ≤ 8) : Calls Tryd.prog 103 #[.string s, .string ⟨#[13, 10]⟩] w fun e w' => e = .returned (.int .i64 (Lib.indexAny s.data.toList [13, 10])) ∧ Below w.heap.size w w' := by
  have h8z : decide ((8 : Int) < (s.size : Int)) = false := decide_eq_false (by omega)
  go_enter Tryd.func103, Tryd.ntmps103
  go_wp2_with (go_at_call 118; refine (Tryd.strings_shouldUseASCIISet _ _).mono ?_; rintro e w' ⟨rfl, hw⟩; rw [hw, h8z])
  go_loopg [9, 10] s.size (fun g _ _ wr => ∃ i : Nat, i + g = s.size ∧ Aside0 (strings_ContainsAny.It wr w.heap.size s i) ∧ Aside0 (Below w.heap.size w wr) ∧ Aside0 (Lib.NoAny s.data.toList [13, 10] i))
  case atStart => exact ⟨0, by omega, ⟨World.iter_heap w s 0⟩, ⟨(Below.refl _ _).alloc (Nat.le_refl _) _⟩, ⟨Lib.NoAny.zero _ _⟩⟩
  case round =>
    obtain ⟨i, hig, HI, HB, HN⟩ := hrel
    cases gk with
    | zero =>
      obtain rfl : i = s.size := by omega
      have hnx := fun ty => strings_ContainsAny.last (P := Tryd.prog) HI.out ty (by omega)
      go_wp2
      go_ret
      exact ⟨by rw [Lib.indexAny_none (by rw [← Lib.size_eq]; exact HN.out)]; rfl, HB.out⟩
    | succ g =>
      have hi : i < s.size := by omega
      by_cases hx128 : (s[i]'hi).toNat < 128
      · obtain ⟨x, hx⟩ : ∃ x : UInt8, s[i]'hi = x := ⟨_, rfl⟩
        have hxl : s.data.toList[i]? = some x := by rw [← hx]; exact Lib.data_getElem? s i hi
        have hd := decode_ascii s i hi hx128
        have hnx := fun ty => strings_ContainsAny.next (P := Tryd.prog) HI.out ty hi
        simp only [hd] at hnx
        rw [hx] at hnx hx128
        clear hd hx
        have Hx : Aside0 (s.data.toList[i]? = some x) := ⟨hxl⟩
        clear hxl
        have hcon := Lib.contains_iff_indexByte [13, 10] x
        have hback : ((x.toNat : Int)).toNat.toUInt8 = x := by simp
        cases hin : ([13, 10] : List UInt8).contains x
        · rw [hin] at hcon
          have hlt : ¬ ((0 : Int) ≤ Lib.indexByte [13, 10] x) := of_decide_eq_false hcon.symm
          have Hin := Aside0.mk hin
          clear hcon hin
          go_wp2_with (go_at_call 117; refine (Tryd.strings_IndexRune_ascii _ _ _ (by omega) (by omega)).mono ?_; rintro e w' ⟨rfl, hw⟩; rw [hw, hback])
          go_roundg g
          case measure => omega
          case rel => exact ⟨i + 1, by omega, ⟨HI.out.set _⟩, ⟨strings_ContainsAny.It.below HB.out (Nat.le_refl _)⟩, ⟨HN.out.succ Hx.out Hin.out⟩⟩
        · rw [hin] at hcon
          have hge : (0 : Int) ≤ Lib.indexByte [13, 10] x := of_decide_eq_true hcon.symm
          have Hin := Aside0.mk hin
          clear hcon hin
          go_wp2_with (go_at_call 117; refine (Tryd.strings_IndexRune_ascii _ _ _ (by omega) (by omega)).mono ?_; rintro e w' ⟨rfl, hw⟩; rw [hw, hback])
          go_ret
          exact ⟨by rw [Lib.indexAny_hit HN.out Hx.out Hin.out]; rfl, strings_ContainsAny.It.below HB.out (Nat.le_refl _)⟩
      · have hh := decode_high s i hi (by omega)
        have hl := decode_le s i
        have hs := strings_ContainsAny.skip s i hi (by omega)
        have hnx := fun ty => strings_ContainsAny.next (P := Tryd.prog) HI.out ty hi
        generalize Utf8.decode s i = d at hnx hh hl hs
        obtain ⟨c, k⟩ := d
        simp only at hnx hh hl hs
        obtain ⟨hc, hk⟩ := hh
        have hle := (hs (k - 1) (by omega)).1
        have HS := Aside0.mk hs
        clear hs hx128
        go_wp2_with (go_at_call 117; refine (strings_ContainsAny.rune c hc hl _).mono ?_; rintro e w2 ⟨rfl, hw2⟩; have HW := Aside0.mk hw2; clear hw2)
        go_roundg (s.size - (i + k))
        case measure => omega
        case rel => exact ⟨i + k, by omega, ⟨(HI.out.set _).keeps HW.out⟩, ⟨below_step (strings_ContainsAny.It.below HB.out (Nat.le_refl _)) HW.out⟩, ⟨strings_ContainsAny.pass HN.out HS.out⟩⟩
def strings_ContainsAny.f (a0 : ByteArray) (a1 : ByteArray) : Option Bool := if a0.size < 4294967281 ∧ a1 = ⟨#[13, 10]⟩ then some (Lib.containsAny a0.data.toList [13, 10]) else none
theorem strings_ContainsAny.index (s : ByteArray) (w : World) (h : s.size < 4294967281) : Calls Tryd.prog 103 #[.string s, .string ⟨#[13, 10]⟩] w fun e w' => e = .returned (.int .i64 (Lib.indexAny s.data.toList [13, 10])) ∧ Below w.heap.size w w' := by
  by_cases h8 : s.size ≤ 8
  · exact strings_ContainsAny.short s w h8
  · refine (Tryd.strings_IndexAny_long (zero_of_info (n := 256) (by kernel_rfl)).1 s ⟨#[13, 10]⟩ w (by decide) (by omega) h (by decide) (by
      intro j b hb
      rcases j with _ | _ | j
      · obtain rfl := Option.some.inj hb; decide
      · obtain rfl := Option.some.inj hb; decide
      · simp at hb)).mono fun e w' ⟨h1, h2⟩ => ⟨h1, ?_⟩
    rw [h2]
    exact ((Below.refl _ _).alloc (Nat.le_refl _) _).alloc (by simp) _
set_option maxHeartbeats 4000000 in
set_option maxRecDepth 100000 in
theorem strings_ContainsAny.calls (a0 : ByteArray) (a1 : ByteArray) (r : Bool) (w : World) (h : strings_ContainsAny.f a0 a1 = some r) : Calls Tryd.prog 84 #[.string a0, .string a1] w fun e w' => e = .returned (.bool r) ∧ Below w.heap.size w w' := by
  unfold strings_ContainsAny.f at h
  by_cases c : a0.size < 4294967281 ∧ a1 = ⟨#[13, 10]⟩
  · rw [if_pos c] at h
    obtain ⟨hs, rfl⟩ := c
    obtain rfl := Option.some.inj h
    clear h
    have hi := strings_ContainsAny.index a0 w hs
    clear hs
    go_enter Tryd.func84, Tryd.ntmps84
    go_wp2_with (go_at_call 103; refine hi.mono ?_; rintro e w' ⟨rfl, hw⟩)
    go_ret
    exact ⟨rfl, hw⟩
  · rw [if_neg c] at h; exact absurd h (by simp)
def impl_restOk.f (k : Nat) (a0 : ByteArray) (a1 : Bool) : Option (Bool) := (strings_TrimSuffix.f a0 (⟨#[13]⟩ : ByteArray)).bind fun t197 => ((strings_ContainsAny.f t197 (⟨#[13, 10]⟩ : ByteArray)).bind fun t198 => (if t198 = true then (some false) else (if a1 = true then (if (t197.size : Int) ≤ 80 then ((impl_bytesIn.f k t197 32 126).bind fun t199 => (some t199)) else (some false)) else (some true))))
set_option maxHeartbeats 8000000 in
set_option maxRecDepth 100000 in
theorem impl_restOk.calls (k : Nat) (a0 : ByteArray) (a1 : Bool) (r : Bool) (w : World) (h : impl_restOk.f k a0 a1 = some r) :
    Calls Tryd.prog 53 #[.string a0, .bool a1] w fun e w' => e = .returned (.bool r) ∧ Below w.heap.size w w' := by
  have HB := Aside0.mk (Below.refl w.heap.size w)
  have H : ((strings_TrimSuffix.f a0 (⟨#[13]⟩ : ByteArray)).bind fun t197 => ((strings_ContainsAny.f t197 (⟨#[13, 10]⟩ : ByteArray)).bind fun t198 => (if t198 = true then (some false) else (if a1 = true then (if (t197.size : Int) ≤ 80 then ((impl_bytesIn.f k t197 32 126).bind fun t199 => (some t199)) else (some false)) else (some true))))) = some r := h
  clear h
  replace H := Option.bind_eq_some_iff.mp H
  obtain ⟨t197, A30, H⟩ := H
  replace H : ((strings_ContainsAny.f t197 (⟨#[13, 10]⟩ : ByteArray)).bind fun t198 => (if t198 = true then (some false) else (if a1 = true then (if (t197.size : Int) ≤ 80 then ((impl_bytesIn.f k t197 32 126).bind fun t199 => (some t199)) else (some false)) else (some true)))) = some r := H
  have A3 := Aside0.mk A30
  clear A30
  replace H := Option.bind_eq_some_iff.mp H
  obtain ⟨t198, A40, H⟩ := H
  replace H : (if t198 = true then (some false) else (if a1 = true then (if (t197.size : Int) ≤ 80 then ((impl_bytesIn.f k t197 32 126).bind fun t199 => (some t199)) else (some false)) else (some true))) = some r := H
  have A4 := Aside0.mk A40
  clear A40
  have HS5 := Aside0.mk H
  clear H
  go_enter Tryd.func53, Tryd.ntmps53
  go_upto_if 8 with (first | ((with_reducible refine gate_callee (f := 83) rfl ?_); refine goesL_ (some 6) rfl rfl Tryd.func83 (by kernel_rfl) rfl #[.string a0, .string (⟨#[13]⟩ : ByteArray)] rfl (by (try simp only [List.map_toArray, List.map_cons, List.map_nil]); rfl) ?_; (with_reducible refine (strings_TrimSuffix.calls a0 (⟨#[13]⟩ : ByteArray) t197 _ A3.out).mono ?_); rintro e w' ⟨rfl, rfl⟩; refine ⟨_, rfl, ?_⟩) | ((with_reducible refine gate_callee (f := 84) rfl ?_); refine goesL_ (some 8) rfl rfl Tryd.func84 (by kernel_rfl) rfl #[.string t197, .string (⟨#[13, 10]⟩ : ByteArray)] rfl (by (try simp only [List.map_toArray, List.map_cons, List.map_nil]); rfl) ?_; (with_reducible refine (strings_ContainsAny.calls t197 (⟨#[13, 10]⟩ : ByteArray) t198 _ A4.out).mono ?_); rintro e w6 ⟨rfl, hb⟩; refine ⟨_, rfl, ?_⟩; have n0_ := Aside0.mk (below_step (by repeat ((with_reducible exact HB.out))) hb); clear HB; have HB := n0_; clear n0_; (try clear hb); (try clear hb2); (try clear hk); (try clear hi)))
  (try simp only [Act.put, List.setIfInBounds_toArray, List.set_cons_zero, List.set_cons_succ])
  have H := HS5.out
  clear HS5
  by_cases c7 : t198 = true
  · subst c7
    have H1 : (some false) = some r := by rw [if_pos rfl] at H; exact H
    clear H
    have H := H1
    clear H1
    obtain rfl := Option.some.inj H
    go_wp2
    go_ret
    exact ⟨by rfl, by repeat ((with_reducible exact HB.out))⟩
  · replace c7 := Bool.eq_false_iff.mpr c7
    subst c7
    have H1 : (if a1 = true then (if (t197.size : Int) ≤ 80 then ((impl_bytesIn.f k t197 32 126).bind fun t199 => (some t199)) else (some false)) else (some true)) = some r := by rw [if_neg (show ¬ (false = true) by decide)] at H; exact H
    clear H
    have H := H1
    clear H1
    by_cases c8 : a1 = true
    · subst c8
      have H1 : (if (t197.size : Int) ≤ 80 then ((impl_bytesIn.f k t197 32 126).bind fun t199 => (some t199)) else (some false)) = some r := by rw [if_pos rfl] at H; exact H
      clear H
      have H := H1
      clear H1
      by_cases c9 : (t197.size : Int) ≤ 80
      · rw [if_pos c9] at H
        have c9b0 : decide ((t197.size : Int) ≤ 80) = true := decide_eq_true c9
        have c9b1 : decide (t197.size ≤ 80) = true := decide_eq_true (by omega)
        clear c9
        (skip)
        replace H := Option.bind_eq_some_iff.mp H
        obtain ⟨t199, A100, H⟩ := H
        replace H : (some t199) = some r := H
        have A10 := Aside0.mk A100
        clear A100
        obtain rfl := Option.some.inj H
        go_wp2_with ((go_at_call 59; (with_reducible refine (impl_bytesIn.calls k t197 32 126 t199 _ A10.out).mono ?_); rintro e w' ⟨rfl, ⟨nd, rfl⟩⟩))
        go_ret
        exact ⟨by rfl, by repeat ((with_reducible first | exact HB.out | apply pw_below_drewN))⟩
      · rw [if_neg c9] at H
        have c9b0 : decide ((t197.size : Int) ≤ 80) = false := decide_eq_false c9
        have c9b1 : decide (t197.size ≤ 80) = false := decide_eq_false (by omega)
        clear c9
        (skip)
        obtain rfl := Option.some.inj H
        go_wp2
        go_ret
        exact ⟨by rfl, by repeat ((with_reducible exact HB.out))⟩
    · replace c8 := Bool.eq_false_iff.mpr c8
      subst c8
      have H1 : (some true) = some r := by rw [if_neg (show ¬ (false = true) by decide)] at H; exact H
      clear H
      have H := H1
      clear H1
      obtain rfl := Option.some.inj H
      go_wp2
      go_ret
      exact ⟨by rfl, by repeat ((with_reducible exact HB.out))⟩
attribute [local go_sem high] eqA40
mutual
def impl_ReadHead.l0 : Nat → ByteArray → ByteArray → Int → ByteArray → List (S40) → Option (ByteArray × (List (S40)) × Int × Int)
  | 0, _, _, _, _, _ => none
  | k + 1, x0, x6, x7, x202000, x202001 => (strings_Cut.f x6 (⟨#[13, 10]⟩ : ByteArray)).bind fun bt202 => (if bt202.2.2 = true then (if x7 = 0 then ((impl_isLine.f k bt202.1).bind fun t206 => (if t206 = true then (impl_ReadHead.l0 k x0 bt202.2.1 (wrap64 (x7 + 1)) bt202.1 x202001) else (some ((⟨#[]⟩ : ByteArray), ([] : List (S40)), 0, 2)))) else (if bt202.1.toList = ([] : List UInt8) then ((impl_HeadOk.f k x202000 x202001).bind fun t207 => (if t207 = true then (impl_ReadHead.j1 k (wrap64 ((x0.size : Int) - (bt202.2.1.size : Int))) (decide ((wrap64 ((x0.size : Int) - (bt202.2.1.size : Int))) > 300)) x202000 x202001) else (impl_ReadHead.j1 k (wrap64 ((x0.size : Int) - (bt202.2.1.size : Int))) true x202000 x202001))) else ((impl_readField.f k bt202.1).bind fun bt208 => (if bt208.2.2 = true then (if (x202001.length : Int) = 8 then (some ((⟨#[]⟩ : ByteArray), ([] : List (S40)), 0, 2)) else (if x202001.length < 4398046511104 then (impl_ReadHead.l0 k x0 bt202.2.1 (wrap64 (x7 + 1)) x202000 (x202001 ++ [(⟨bt208.1, bt208.2.1⟩ : S40)])) else (none))) else (some ((⟨#[]⟩ : ByteArray), ([] : List (S40)), 0, 2)))))) else (if (x0.size : Int) > 300 then (some ((⟨#[]⟩ : ByteArray), ([] : List (S40)), 0, 2)) else ((impl_restOk.f k x6 (x202000.toList == ([] : List UInt8))).bind fun t205 => (if t205 = true then (some ((⟨#[]⟩ : ByteArray), ([] : List (S40)), 0, 1)) else (some ((⟨#[]⟩ : ByteArray), ([] : List (S40)), 0, 2))))))
def impl_ReadHead.j1 : Nat → Int → Bool → ByteArray → List (S40) → Option (ByteArray × (List (S40)) × Int × Int)
  | 0, _, _, _, _ => none
  | k + 1, x11, x48, x202000, x202001 => if x48 = true then (some ((⟨#[]⟩ : ByteArray), ([] : List (S40)), 0, 2)) else (some (x202000, x202001, x11, 0))
end
def impl_ReadHead.f (k : Nat) (a0 : ByteArray) : Option (ByteArray × (List (S40)) × Int × Int) := impl_ReadHead.l0 k a0 a0 0 (⟨#[]⟩ : ByteArray) ([] : List (S40))
set_option maxHeartbeats 8000000 in
set_option maxRecDepth 100000 in
theorem impl_ReadHead.calls (k : Nat) (a0 : ByteArray) (r1 : ByteArray) (r2 : List (S40)) (r3 : Int) (r4 : Int) (w : World) (hsh : Shp w) (h : impl_ReadHead.f k a0 = some (r1, r2, r3, r4)) :
    Calls Tryd.prog 16 #[.string a0] w fun e w' => ∃ v1_ : Value, e = .returned (.tuple #[.agg #[.string r1, v1_], .int .i64 r3, .int .i64 r4]) ∧ Kd.R k40 40 w' w.heap.size (fun _ => True) v1_ r2 ∧ Below w.heap.size w w' := by
  have hu26 := Tryd.underlying26
  have hu40 := Tryd.underlying40
  have HSH := Aside0.mk hsh
  clear hsh
  have HB := Aside0.mk (Below.refl w.heap.size w)
  have H : (impl_ReadHead.l0 k a0 a0 0 (⟨#[]⟩ : ByteArray) ([] : List (S40))) = some (r1, r2, r3, r4) := h
  clear h
  have H' := Aside0.mk H
  clear H
  go_enter Tryd.func16, Tryd.ntmps16
  go_wp2_with (first | ((with_reducible refine gate_dst (N := 2) rfl ?_); (try (refine gate_guard (by rfl) ?_; dsimp only)); refine box_event ?hg (N := 2) ?hd (cs := #[.string (⟨#[]⟩ : ByteArray), .slice none 0 0]) (t := 26) ?hr ?_; (case hd => rfl); (case hg => rfl); (case hr => (go_simp; done)); intro gb200 hg w2 hbox hb; have n0_ := Aside0.mk (below_step (by repeat ((with_reducible exact HB.out))) hb); have n1_ := Aside0.mk (hbox); have n2_ := Aside0.mk ((by rw [hg]; exact (below_size (by repeat ((with_reducible exact HB.out)))) : w.heap.size ≤ gb200)); have n3_ := Aside0.mk ((by rw [hg]; exact (below_size (by repeat ((with_reducible exact HB.out)))) : w.heap.size ≤ gb200)); clear HB; have HB := n0_; have BK200 := n1_; have GW200 := n2_; have GE200 := n3_; clear n0_ n1_ n2_ n3_; clear hb hbox hg) | ((with_reducible refine gate_dst (N := 5) rfl ?_); (try (refine gate_guard (by rfl) ?_; dsimp only)); refine box_event ?hg (N := 5) ?hd (cs := #[.string (⟨#[]⟩ : ByteArray), .slice none 0 0]) (t := 26) ?hr ?_; (case hd => rfl); (case hg => rfl); (case hr => (go_simp; done)); intro gb201 hg w3 hbox hb; have n0_ := Aside0.mk (blk_below (g := gb200) (o := .cells #[.string (⟨#[]⟩ : ByteArray), .slice none 0 0] 26 (0, 0)) (by (with_reducible repeat (first | refine blk_drewN ?_ _ | refine blk_drew ?_ | refine blk_alloc ?_ _ )); exact BK200.out) hb); have n1_ := Aside0.mk (below_step (by repeat ((with_reducible exact HB.out))) hb); have n2_ := Aside0.mk (hbox); have n3_ := Aside0.mk ((by rw [hg]; exact (below_size (by repeat ((with_reducible exact HB.out)))) : w.heap.size ≤ gb201)); have n4_ := Aside0.mk ((by rw [hg]; exact (below_size (by repeat ((with_reducible exact HB.out)))) : w.heap.size ≤ gb201)); have n5_ := Aside0.mk ((by rw [hg]; exact Nat.ne_of_lt (blk_lt (g := gb200) (o := .cells #[.string (⟨#[]⟩ : ByteArray), .slice none 0 0] 26 (0, 0)) (by (with_reducible repeat (first | refine blk_drewN ?_ _ | refine blk_drew ?_ | refine blk_alloc ?_ _ )); exact BK200.out)) : gb200 ≠ gb201)); have n6_ := Aside0.mk ((by rw [hg]; exact Nat.ne_of_gt (blk_lt (g := gb200) (o := .cells #[.string (⟨#[]⟩ : ByteArray), .slice none 0 0] 26 (0, 0)) (by (with_reducible repeat (first | refine blk_drewN ?_ _ | refine blk_drew ?_ | refine blk_alloc ?_ _ )); exact BK200.out)) : gb201 ≠ gb200)); clear BK200; clear HB; have BK200 := n0_; have HB := n1_; have BK201 := n2_; have GW201 := n3_; have GE201 := n4_; have NB200_201 := n5_; have NB201_200 := n6_; clear n0_ n1_ n2_ n3_ n4_ n5_ n6_; clear hb hbox hg; have hnb4 := NB201_200.out; have hnc4 := NB200_201.out; have hcz5_0 : w3.cell? ⟨gb201, 0, none⟩ = some (.string (⟨#[]⟩ : ByteArray)) := (blk_cell BK201.out 0).trans rfl; have hcz5_1 : w3.cell? ⟨gb201, 1, none⟩ = some (.slice none 0 0) := (blk_cell BK201.out 1).trans rfl; have hfz5_0 := blk_frozen BK201.out 0; have hfz5_1 := blk_frozen BK201.out 1))
  go_loopg [6, 7] k (fun kq v6 v7 w' => ∃ (x6_1 : ByteArray) (x7_1 : Int) (x201000_1 : ByteArray) (x202000_1 : ByteArray) (x202001_1 : List (S40)) (u202001 : Value), v6 = .string x6_1 ∧ v7 = .int .i64 x7_1 ∧ Aside0 (impl_ReadHead.l0 kq a0 x6_1 x7_1 x202000_1 x202001_1 = some (r1, r2, r3, r4)) ∧ Aside0 (kq ≤ k) ∧ Aside0 (Kd.R k40 40 w' w.heap.size (fun _ => True) u202001 x202001_1) ∧ Aside0 (w'.heap[gb200]? = some (.cells #[.string x201000_1, (.slice none 0 0)] 26 (0, 0))) ∧ Aside0 (w'.heap[gb201]? = some (.cells #[.string x202000_1, u202001] 26 (0, 0))) ∧ Aside0 (Below w.heap.size w w'))
  case atStart => exact ⟨(a0), (0), ((⟨#[]⟩ : ByteArray)), ((⟨#[]⟩ : ByteArray)), (([] : List (S40))), (.slice none 0 0), (by rfl), (by rfl), H', ⟨Nat.le_refl _⟩, ⟨by exact Kd.R_nil _ _ _ _ _⟩, ⟨by (with_reducible repeat (first | refine blk_drewN ?_ _ | refine blk_drew ?_ | refine blk_alloc ?_ _ )); refine blk_far ?_ NB200_201.out _; (with_reducible repeat (first | refine blk_drewN ?_ _ | refine blk_drew ?_ | refine blk_alloc ?_ _ )); refine blk_far ?_ NB200_201.out _; (with_reducible repeat (first | refine blk_drewN ?_ _ | refine blk_drew ?_ | refine blk_alloc ?_ _ )); exact BK200.out⟩, ⟨by (with_reducible repeat (first | refine blk_drewN ?_ _ | refine blk_drew ?_ | refine blk_alloc ?_ _ )); refine blk_put (cs := #[.string (⟨#[]⟩ : ByteArray), .slice none 0 0]) ?_ 1 _ rfl; (with_reducible repeat (first | refine blk_drewN ?_ _ | refine blk_drew ?_ | refine blk_alloc ?_ _ )); refine blk_put (cs := #[.string (⟨#[]⟩ : ByteArray), .slice none 0 0]) ?_ 0 _ rfl; (with_reducible repeat (first | refine blk_drewN ?_ _ | refine blk_drew ?_ | refine blk_alloc ?_ _ )); exact BK201.out⟩, ⟨by repeat ((with_reducible first | exact HB.out | refine below_set ?_ GE201.out))⟩⟩
  case round =>
    clear H'
    clear hcz5_0
    clear hcz5_1
    clear hfz5_0
    clear hfz5_1
    obtain ⟨x6_1, x7_1, x201000_1, x202000_1, x202001_1, u202001, rfl, rfl, HA, HK1, HO_202001, BK200, BK201, HB⟩ := hrel
    cases gk with
    | zero => exact absurd HA.out (by simp [impl_ReadHead.l0])
    | succ k1 =>
      have H := HA.out
      clear HA
      simp only [impl_ReadHead.l0] at H
      replace H := Option.bind_eq_some_iff.mp H
      obtain ⟨⟨t202, t203, t204⟩, A60, H⟩ := H
      replace H : (if t204 = true then (if x7_1 = 0 then ((impl_isLine.f k1 t202).bind fun t206 => (if t206 = true then (impl_ReadHead.l0 k1 a0 t203 (wrap64 (x7_1 + 1)) t202 x202001_1) else (some ((⟨#[]⟩ : ByteArray), ([] : List (S40)), 0, 2)))) else (if t202.toList = ([] : List UInt8) then ((impl_HeadOk.f k1 x202000_1 x202001_1).bind fun t207 => (if t207 = true then (impl_ReadHead.j1 k1 (wrap64 ((a0.size : Int) - (t203.size : Int))) (decide ((wrap64 ((a0.size : Int) - (t203.size : Int))) > 300)) x202000_1 x202001_1) else (impl_ReadHead.j1 k1 (wrap64 ((a0.size : Int) - (t203.size : Int))) true x202000_1 x202001_1))) else ((impl_readField.f k1 t202).bind fun bt208 => (if bt208.2.2 = true then (if (x202001_1.length : Int) = 8 then (some ((⟨#[]⟩ : ByteArray), ([] : List (S40)), 0, 2)) else (if x202001_1.length < 4398046511104 then (impl_ReadHead.l0 k1 a0 t203 (wrap64 (x7_1 + 1)) x202000_1 (x202001_1 ++ [(⟨bt208.1, bt208.2.1⟩ : S40)])) else (none))) else (some ((⟨#[]⟩ : ByteArray), ([] : List (S40)), 0, 2)))))) else (if (a0.size : Int) > 300 then (some ((⟨#[]⟩ : ByteArray), ([] : List (S40)), 0, 2)) else ((impl_restOk.f k1 x6_1 (x202000_1.toList == ([] : List UInt8))).bind fun t205 => (if t205 = true then (some ((⟨#[]⟩ : ByteArray), ([] : List (S40)), 0, 1)) else (some ((⟨#[]⟩ : ByteArray), ([] : List (S40)), 0, 2)))))) = some (r1, r2, r3, r4) := H
      have A6 := Aside0.mk A60
      clear A60
      have HS7 := Aside0.mk H
      clear H
      go_upto_if 25 with (((with_reducible refine gate_callee (f := 50) rfl ?_); refine goesL_ (some 20) rfl rfl Tryd.func50 (by kernel_rfl) rfl #[.string x6_1, .string (⟨#[13, 10]⟩ : ByteArray)] rfl (by (try simp only [List.map_toArray, List.map_cons, List.map_nil]); rfl) ?_; (with_reducible refine (strings_Cut.calls x6_1 (⟨#[13, 10]⟩ : ByteArray) t202 t203 t204 _ ?side1 A6.out).mono ?_); (case side1 => exact Shp.below HSH.out (by repeat ((with_reducible exact HB.out)))); rintro e w8 ⟨rfl, hb⟩; refine ⟨_, rfl, ?_⟩; have n0_ := Aside0.mk (Kd.R_below (by (with_reducible repeat (first | apply Kd.R_alloc | apply Kd.R_drewN | apply Kd.R_drew )); exact HO_202001.out) hb); have n1_ := Aside0.mk (blk_below (g := gb200) (o := .cells #[.string x201000_1, .slice none 0 0] 26 (0, 0)) (by (with_reducible repeat (first | refine blk_drewN ?_ _ | refine blk_drew ?_ | refine blk_alloc ?_ _ )); exact BK200.out) hb); have n2_ := Aside0.mk (blk_below (g := gb201) (o := .cells #[.string x202000_1, u202001] 26 (0, 0)) (by (with_reducible repeat (first | refine blk_drewN ?_ _ | refine blk_drew ?_ | refine blk_alloc ?_ _ )); exact BK201.out) hb); have n3_ := Aside0.mk (below_step (by repeat ((with_reducible exact HB.out))) hb); clear HO_202001; clear BK200; clear BK201; clear HB; have HO_202001 := n0_; have BK200 := n1_; have BK201 := n2_; have HB := n3_; clear n0_ n1_ n2_ n3_; (try clear hb); (try clear hb2); (try clear hk); (try clear hi)))
      (try simp only [Act.put, List.setIfInBounds_toArray, List.set_cons_zero, List.set_cons_succ])
      have H := HS7.out
      clear HS7
      by_cases c9 : t204 = true
      · subst c9
        have H1 : (if x7_1 = 0 then ((impl_isLine.f k1 t202).bind fun t206 => (if t206 = true then (impl_ReadHead.l0 k1 a0 t203 (wrap64 (x7_1 + 1)) t202 x202001_1) else (some ((⟨#[]⟩ : ByteArray), ([] : List (S40)), 0, 2)))) else (if t202.toList = ([] : List UInt8) then ((impl_HeadOk.f k1 x202000_1 x202001_1).bind fun t207 => (if t207 = true then (impl_ReadHead.j1 k1 (wrap64 ((a0.size : Int) - (t203.size : Int))) (decide ((wrap64 ((a0.size : Int) - (t203.size : Int))) > 300)) x202000_1 x202001_1) else (impl_ReadHead.j1 k1 (wrap64 ((a0.size : Int) - (t203.size : Int))) true x202000_1 x202001_1))) else ((impl_readField.f k1 t202).bind fun bt208 => (if bt208.2.2 = true then (if (x202001_1.length : Int) = 8 then (some ((⟨#[]⟩ : ByteArray), ([] : List (S40)), 0, 2)) else (if x202001_1.length < 4398046511104 then (impl_ReadHead.l0 k1 a0 t203 (wrap64 (x7_1 + 1)) x202000_1 (x202001_1 ++ [(⟨bt208.1, bt208.2.1⟩ : S40)])) else (none))) else (some ((⟨#[]⟩ : ByteArray), ([] : List (S40)), 0, 2)))))) = some (r1, r2, r3, r4) := by rw [if_pos rfl] at H; exact H
        clear H
        have H := H1
        clear H1
        by_cases c10 : x7_1 = 0
        · rw [if_pos c10] at H
          have c10b0 : (x7_1 == 0) = true := beq_iff_eq.mpr c10
          have c10b1 : (x7_1 != 0) = false := bne_eq_false_iff_eq.mpr c10
          clear c10
          (skip)
          replace H := Option.bind_eq_some_iff.mp H
          obtain ⟨t206, A110, H⟩ := H
          replace H : (if t206 = true then (impl_ReadHead.l0 k1 a0 t203 (wrap64 (x7_1 + 1)) t202 x202001_1) else (some ((⟨#[]⟩ : ByteArray), ([] : List (S40)), 0, 2))) = some (r1, r2, r3, r4) := H
          have A11 := Aside0.mk A110
          clear A110
          have HS12 := Aside0.mk H
          clear H
          have hnb13 := NB201_200.out
          have hnc13 := NB200_201.out
          have hcz14_0 : w8.cell? ⟨gb201, 0, none⟩ = some (.string x202000_1) := (blk_cell BK201.out 0).trans rfl
          have hcz14_1 : w8.cell? ⟨gb201, 1, none⟩ = some (u202001) := (blk_cell BK201.out 1).trans rfl
          have hfz14_0 := blk_frozen BK201.out 0
          have hfz14_1 := blk_frozen BK201.out 1
          go_upto_if 33 with (((with_reducible refine gate_callee (f := 51) rfl ?_); refine goesL_ (some 32) rfl rfl Tryd.func51 (by kernel_rfl) rfl #[.string t202] rfl (by (try simp only [List.map_toArray, List.map_cons, List.map_nil]); rfl) ?_; (with_reducible refine (impl_isLine.calls k1 t202 t206 _ A11.out).mono ?_); rintro e w' ⟨rfl, ⟨nd, rfl⟩⟩; refine ⟨_, rfl, ?_⟩))
          (try simp only [Act.put, List.setIfInBounds_toArray, List.set_cons_zero, List.set_cons_succ])
          have H := HS12.out
          clear HS12
          by_cases c15 : t206 = true
          · subst c15
            have H1 : (impl_ReadHead.l0 k1 a0 t203 (wrap64 (x7_1 + 1)) t202 x202001_1) = some (r1, r2, r3, r4) := by rw [if_pos rfl] at H; exact H
            clear H
            have H := H1
            clear H1
            have H' := Aside0.mk H
            clear H
            go_wp2
            go_roundg k1
            case measure => have := HK1.out; omega
            case rel => exact ⟨(t203), (wrap64 (x7_1 + 1)), (x201000_1), (t202), (x202001_1), (u202001), (by rfl), (by rfl), H', ⟨by have := HK1.out; omega⟩, ⟨by (with_reducible repeat (apply Kd.R_drewN)); exact Kd.R_mono (Kd.R_far (p := ⟨gb201, 0, none⟩) (Kd.R_types HO_202001.out BK201.out (by decide)) (fun _ hk => hk.2) (.string t202)) (fun _ hk => trivial)⟩, ⟨by (with_reducible repeat (refine blk_drewN ?_ _)); refine blk_far ?_ NB200_201.out _; (with_reducible repeat (first | refine blk_drewN ?_ _ | refine blk_drew ?_ | refine blk_alloc ?_ _ )); exact BK200.out⟩, ⟨by (with_reducible repeat (refine blk_drewN ?_ _)); refine blk_put (cs := #[.string x202000_1, u202001]) ?_ 0 _ rfl; (with_reducible repeat (first | refine blk_drewN ?_ _ | refine blk_drew ?_ | refine blk_alloc ?_ _ )); exact BK201.out⟩, ⟨by repeat ((with_reducible first | exact HB.out | apply pw_below_drewN | refine below_set ?_ GE201.out))⟩⟩
          · replace c15 := Bool.eq_false_iff.mpr c15
            subst c15
            have H1 : (some ((⟨#[]⟩ : ByteArray), ([] : List (S40)), 0, 2)) = some (r1, r2, r3, r4) := by rw [if_neg (show ¬ (false = true) by decide)] at H; exact H
            clear H
            have H := H1
            clear H1
            simp only [Option.some.injEq, Prod.mk.injEq] at H
            obtain ⟨rfl, rfl, rfl, rfl⟩ := H
            have hnb16 := NB200_201.out
            have hnc16 := NB201_200.out
            have hcz17_0 : w8.cell? ⟨gb200, 0, none⟩ = some (.string x201000_1) := (blk_cell BK200.out 0).trans rfl
            have hcz17_1 : w8.cell? ⟨gb200, 1, none⟩ = some (.slice none 0 0) := (blk_cell BK200.out 1).trans rfl
            have hfz17_0 := blk_frozen BK200.out 0
            have hfz17_1 := blk_frozen BK200.out 1
            go_wp2
            refine bodyPost_ret (results_ctt rfl _ _ gb200 26 #[.string (⟨#[]⟩ : ByteArray), .slice none 0 0] (0, 0) _ rfl (by (with_reducible repeat (first | refine blk_drewN ?_ _ | refine blk_drew ?_ | refine blk_alloc ?_ _ )); refine blk_put (cs := #[.string (⟨#[]⟩ : ByteArray), .slice none 0 0]) ?_ 1 _ rfl; (with_reducible repeat (first | refine blk_drewN ?_ _ | refine blk_drew ?_ | refine blk_alloc ?_ _ )); refine blk_put (cs := #[.string x201000_1, .slice none 0 0]) ?_ 0 _ rfl; (with_reducible repeat (refine blk_drewN ?_ _)); refine blk_far ?_ NB200_201.out _; (with_reducible repeat (first | refine blk_drewN ?_ _ | refine blk_drew ?_ | refine blk_alloc ?_ _ )); exact BK200.out) Tryd.underlying26 rfl (by kernel_rfl)) rfl ?_
            exact ⟨_, by rfl, by exact Kd.R_nil _ _ _ _ _, by repeat ((with_reducible first | exact HB.out | apply pw_below_drewN | refine below_set ?_ GE200.out | refine below_set ?_ GE201.out))⟩
        · rw [if_neg c10] at H
          have c10b0 : (x7_1 == 0) = false := beq_eq_false_iff_ne.mpr c10
          have c10b1 : (x7_1 != 0) = true := bne_iff_ne.mpr c10
          (skip)
          by_cases c18 : t202.toList = ([] : List UInt8)
          · rw [if_pos c18] at H
            have c18b0 : (t202.toList == ([] : List UInt8)) = true := beq_iff_eq.mpr c18
            have c18b1 : (t202.toList != ([] : List UInt8)) = false := bne_eq_false_iff_eq.mpr c18
            clear c18
            have HC19 := Aside0.mk H
            clear H
            go_upto_region 14 with (fail)
            go_cut [48] (fun v48 wc => ∃ (kq : Nat) (x48_18 : Bool), v48 = .bool x48_18 ∧ Aside0 (impl_ReadHead.j1 kq (wrap64 ((a0.size : Int) - (t203.size : Int))) x48_18 x202000_1 x202001_1 = some (r1, r2, r3, r4)) ∧ Aside0 (kq ≤ k1) ∧ Aside0 (Kd.R k40 40 wc w.heap.size (fun _ => True) u202001 x202001_1) ∧ Aside0 (wc.heap[gb200]? = some (.cells #[.string x201000_1, (.slice none 0 0)] 26 (0, 0))) ∧ Aside0 (wc.heap[gb201]? = some (.cells #[.string x202000_1, u202001] 26 (0, 0))) ∧ Aside0 (Below w.heap.size w wc))
            case first =>
              have H := HC19.out
              clear HC19
              replace H := Option.bind_eq_some_iff.mp H
              obtain ⟨t207, A200, H⟩ := H
              replace H : (if t207 = true then (impl_ReadHead.j1 k1 (wrap64 ((a0.size : Int) - (t203.size : Int))) (decide ((wrap64 ((a0.size : Int) - (t203.size : Int))) > 300)) x202000_1 x202001_1) else (impl_ReadHead.j1 k1 (wrap64 ((a0.size : Int) - (t203.size : Int))) true x202000_1 x202001_1)) = some (r1, r2, r3, r4) := H
              have A20 := Aside0.mk A200
              clear A200
              by_cases c21 : t207 = true
              · subst c21
                have H1 : (impl_ReadHead.j1 k1 (wrap64 ((a0.size : Int) - (t203.size : Int))) (decide ((wrap64 ((a0.size : Int) - (t203.size : Int))) > 300)) x202000_1 x202001_1) = some (r1, r2, r3, r4) := by rw [if_pos rfl] at H; exact H
                clear H
                have H := H1
                clear H1
                have H' := Aside0.mk H
                clear H
                have hnb22 := NB201_200.out
                have hnc22 := NB200_201.out
                have hcz23_0 : w8.cell? ⟨gb201, 0, none⟩ = some (.string x202000_1) := (blk_cell BK201.out 0).trans rfl
                have hcz23_1 : w8.cell? ⟨gb201, 1, none⟩ = some (u202001) := (blk_cell BK201.out 1).trans rfl
                have hfz23_0 := blk_frozen BK201.out 0
                have hfz23_1 := blk_frozen BK201.out 1
                obtain ⟨Ao24, co24, eo24⟩ := Kd.R_slice HO_202001.out
                subst eo24
                go_wp2_with (((with_reducible refine gate_callee (f := 19) rfl ?_); refine goesL_ (some 43) rfl rfl Tryd.func19 (by kernel_rfl) rfl #[.agg #[.string x202000_1, .slice Ao24 x202001_1.length co24]] rfl (by (try simp only [List.map_toArray, List.map_cons, List.map_nil]); rfl) ?_; (with_reducible refine (impl_HeadOk.calls k1 x202000_1 _ _ x202001_1 true _ ?side1 ?side2 A20.out).mono ?_); (case side1 => repeat (exact (Kd.R_reads' HO_202001.out).2.2)); (case side2 => exact (Kd.R_reads' HO_202001.out).2.1); rintro e w25 ⟨rfl, hb⟩; refine ⟨_, rfl, ?_⟩; have n0_ := Aside0.mk (Kd.R_below (by (with_reducible repeat (first | apply Kd.R_alloc | apply Kd.R_drewN | apply Kd.R_drew )); exact HO_202001.out) hb); have n1_ := Aside0.mk (blk_below (g := gb200) (o := .cells #[.string x201000_1, .slice none 0 0] 26 (0, 0)) (by (with_reducible repeat (first | refine blk_drewN ?_ _ | refine blk_drew ?_ | refine blk_alloc ?_ _ )); exact BK200.out) hb); have n2_ := Aside0.mk (blk_below (g := gb201) (o := .cells #[.string x202000_1, .slice Ao24 x202001_1.length co24] 26 (0, 0)) (by (with_reducible repeat (first | refine blk_drewN ?_ _ | refine blk_drew ?_ | refine blk_alloc ?_ _ )); exact BK201.out) hb); have n3_ := Aside0.mk (below_step (by repeat ((with_reducible exact HB.out))) hb); clear HO_202001; clear BK200; clear BK201; clear HB; have HO_202001 := n0_; have BK200 := n1_; have BK201 := n2_; have HB := n3_; clear n0_ n1_ n2_ n3_; (try clear hb); (try clear hb2); (try clear hk); (try clear hi)))
                go_meet
                case rel => exact ⟨_, (decide ((wrap64 ((a0.size : Int) - (t203.size : Int))) > 300)), (by rfl), H', ⟨by have := HK1.out; omega⟩, ⟨by (with_reducible repeat (first | apply Kd.R_alloc | apply Kd.R_drewN | apply Kd.R_drew )); exact HO_202001.out⟩, ⟨by (with_reducible repeat (first | refine blk_drewN ?_ _ | refine blk_drew ?_ | refine blk_alloc ?_ _ )); exact BK200.out⟩, ⟨by (with_reducible repeat (first | refine blk_drewN ?_ _ | refine blk_drew ?_ | refine blk_alloc ?_ _ )); exact BK201.out⟩, ⟨by repeat ((with_reducible exact HB.out))⟩⟩
              · replace c21 := Bool.eq_false_iff.mpr c21
                subst c21
                have H1 : (impl_ReadHead.j1 k1 (wrap64 ((a0.size : Int) - (t203.size : Int))) true x202000_1 x202001_1) = some (r1, r2, r3, r4) := by rw [if_neg (show ¬ (false = true) by decide)] at H; exact H
                clear H
                have H := H1
                clear H1
                have H' := Aside0.mk H
                clear H
                have hnb26 := NB201_200.out
                have hnc26 := NB200_201.out
                have hcz27_0 : w8.cell? ⟨gb201, 0, none⟩ = some (.string x202000_1) := (blk_cell BK201.out 0).trans rfl
                have hcz27_1 : w8.cell? ⟨gb201, 1, none⟩ = some (u202001) := (blk_cell BK201.out 1).trans rfl
                have hfz27_0 := blk_frozen BK201.out 0
                have hfz27_1 := blk_frozen BK201.out 1
                obtain ⟨Ao28, co28, eo28⟩ := Kd.R_slice HO_202001.out
                subst eo28
                go_wp2_with (((with_reducible refine gate_callee (f := 19) rfl ?_); refine goesL_ (some 43) rfl rfl Tryd.func19 (by kernel_rfl) rfl #[.agg #[.string x202000_1, .slice Ao28 x202001_1.length co28]] rfl (by (try simp only [List.map_toArray, List.map_cons, List.map_nil]); rfl) ?_; (with_reducible refine (impl_HeadOk.calls k1 x202000_1 _ _ x202001_1 false _ ?side1 ?side2 A20.out).mono ?_); (case side1 => repeat (exact (Kd.R_reads' HO_202001.out).2.2)); (case side2 => exact (Kd.R_reads' HO_202001.out).2.1); rintro e w29 ⟨rfl, hb⟩; refine ⟨_, rfl, ?_⟩; have n0_ := Aside0.mk (Kd.R_below (by (with_reducible repeat (first | apply Kd.R_alloc | apply Kd.R_drewN | apply Kd.R_drew )); exact HO_202001.out) hb); have n1_ := Aside0.mk (blk_below (g := gb200) (o := .cells #[.string x201000_1, .slice none 0 0] 26 (0, 0)) (by (with_reducible repeat (first | refine blk_drewN ?_ _ | refine blk_drew ?_ | refine blk_alloc ?_ _ )); exact BK200.out) hb); have n2_ := Aside0.mk (blk_below (g := gb201) (o := .cells #[.string x202000_1, .slice Ao28 x202001_1.length co28] 26 (0, 0)) (by (with_reducible repeat (first | refine blk_drewN ?_ _ | refine blk_drew ?_ | refine blk_alloc ?_ _ )); exact BK201.out) hb); have n3_ := Aside0.mk (below_step (by repeat ((with_reducible exact HB.out))) hb); clear HO_202001; clear BK200; clear BK201; clear HB; have HO_202001 := n0_; have BK200 := n1_; have BK201 := n2_; have HB := n3_; clear n0_ n1_ n2_ n3_; (try clear hb); (try clear hb2); (try clear hk); (try clear hi)))
                go_meet
                case rel => exact ⟨_, (true), (by rfl), H', ⟨by have := HK1.out; omega⟩, ⟨by (with_reducible repeat (first | apply Kd.R_alloc | apply Kd.R_drewN | apply Kd.R_drew )); exact HO_202001.out⟩, ⟨by (with_reducible repeat (first | refine blk_drewN ?_ _ | refine blk_drew ?_ | refine blk_alloc ?_ _ )); exact BK200.out⟩, ⟨by (with_reducible repeat (first | refine blk_drewN ?_ _ | refine blk_drew ?_ | refine blk_alloc ?_ _ )); exact BK201.out⟩, ⟨by repeat ((with_reducible exact HB.out))⟩⟩
            case rest =>
              clear HC19
              clear c10
              clear c10b0
              clear c10b1
              clear c18b0
              clear c18b1
              obtain ⟨kq, x48_18, rfl, HA, HJ18, HO_202001, BK200, BK201, HB⟩ := hcut
              cases kq with
              | zero => exact absurd HA.out (by simp [impl_ReadHead.j1])
              | succ kj18 =>
                have H := HA.out
                clear HA
                simp only [impl_ReadHead.j1] at H
                by_cases c30 : x48_18 = true
                · subst c30
                  have H1 : (some ((⟨#[]⟩ : ByteArray), ([] : List (S40)), 0, 2)) = some (r1, r2, r3, r4) := by rw [if_pos rfl] at H; exact H
                  clear H
                  have H := H1
                  clear H1
                  simp only [Option.some.injEq, Prod.mk.injEq] at H
                  obtain ⟨rfl, rfl, rfl, rfl⟩ := H
                  have hnb31 := NB200_201.out
                  have hnc31 := NB201_200.out
                  have hcz32_0 : wc.cell? ⟨gb200, 0, none⟩ = some (.string x201000_1) := (blk_cell BK200.out 0).trans rfl
                  have hcz32_1 : wc.cell? ⟨gb200, 1, none⟩ = some (.slice none 0 0) := (blk_cell BK200.out 1).trans rfl
                  have hfz32_0 := blk_frozen BK200.out 0
                  have hfz32_1 := blk_frozen BK200.out 1
                  go_wp2
                  refine bodyPost_ret (results_ctt rfl _ _ gb200 26 #[.string (⟨#[]⟩ : ByteArray), .slice none 0 0] (0, 0) _ rfl (by (with_reducible repeat (first | refine blk_drewN ?_ _ | refine blk_drew ?_ | refine blk_alloc ?_ _ )); refine blk_put (cs := #[.string (⟨#[]⟩ : ByteArray), .slice none 0 0]) ?_ 1 _ rfl; (with_reducible repeat (first | refine blk_drewN ?_ _ | refine blk_drew ?_ | refine blk_alloc ?_ _ )); refine blk_put (cs := #[.string x201000_1, .slice none 0 0]) ?_ 0 _ rfl; (with_reducible repeat (first | refine blk_drewN ?_ _ | refine blk_drew ?_ | refine blk_alloc ?_ _ )); exact BK200.out) Tryd.underlying26 rfl (by kernel_rfl)) rfl ?_
                  exact ⟨_, by rfl, by exact Kd.R_nil _ _ _ _ _, by repeat ((with_reducible first | exact HB.out | refine below_set ?_ GE200.out))⟩
                · replace c30 := Bool.eq_false_iff.mpr c30
                  subst c30
                  have H1 : (some (x202000_1, x202001_1, (wrap64 ((a0.size : Int) - (t203.size : Int))), 0)) = some (r1, r2, r3, r4) := by rw [if_neg (show ¬ (false = true) by decide)] at H; exact H
                  clear H
                  have H := H1
                  clear H1
                  simp only [Option.some.injEq, Prod.mk.injEq] at H
                  obtain ⟨rfl, rfl, rfl, rfl⟩ := H
                  have hnb33 := NB201_200.out
                  have hnc33 := NB200_201.out
                  have hcz34_0 : wc.cell? ⟨gb201, 0, none⟩ = some (.string x202000_1) := (blk_cell BK201.out 0).trans rfl
                  have hcz34_1 : wc.cell? ⟨gb201, 1, none⟩ = some (u202001) := (blk_cell BK201.out 1).trans rfl
                  have hfz34_0 := blk_frozen BK201.out 0
                  have hfz34_1 := blk_frozen BK201.out 1
                  have hcz35_0 : wc.cell? ⟨gb200, 0, none⟩ = some (.string x201000_1) := (blk_cell BK200.out 0).trans rfl
                  have hcz35_1 : wc.cell? ⟨gb200, 1, none⟩ = some (.slice none 0 0) := (blk_cell BK200.out 1).trans rfl
                  have hfz35_0 := blk_frozen BK200.out 0
                  have hfz35_1 := blk_frozen BK200.out 1
                  obtain ⟨Ao36, co36, eo36⟩ := Kd.R_slice HO_202001.out
                  subst eo36
                  go_wp2
                  refine bodyPost_ret (results_ctt rfl _ _ gb200 26 #[.string x202000_1, .slice Ao36 x202001_1.length co36] (0, 0) _ rfl (by (with_reducible repeat (first | refine blk_drewN ?_ _ | refine blk_drew ?_ | refine blk_alloc ?_ _ )); refine blk_put (cs := #[.string x202000_1, .slice none 0 0]) ?_ 1 _ rfl; (with_reducible repeat (first | refine blk_drewN ?_ _ | refine blk_drew ?_ | refine blk_alloc ?_ _ )); refine blk_put (cs := #[.string x201000_1, .slice none 0 0]) ?_ 0 _ rfl; (with_reducible repeat (first | refine blk_drewN ?_ _ | refine blk_drew ?_ | refine blk_alloc ?_ _ )); exact BK200.out) Tryd.underlying26 rfl (by kernel_rfl)) rfl ?_
                  exact ⟨_, by rfl, by (with_reducible repeat (first | apply Kd.R_alloc | apply Kd.R_drewN | apply Kd.R_drew )); exact Kd.R_mono (Kd.R_far (p := ⟨gb200, 1, none⟩) (Kd.R_far (p := ⟨gb200, 0, none⟩) (Kd.R_types HO_202001.out BK200.out (by decide)) (fun _ hk => hk.2) (.string x202000_1)) (fun _ hk => hk.2) (.slice Ao36 x202001_1.length co36)) (fun _ hk => trivial), by repeat ((with_reducible first | exact HB.out | refine below_set ?_ GE200.out))⟩
          · rw [if_neg c18] at H
            have c18b0 : (t202.toList == ([] : List UInt8)) = false := beq_eq_false_iff_ne.mpr c18
            have c18b1 : (t202.toList != ([] : List UInt8)) = true := bne_iff_ne.mpr c18
            replace H := Option.bind_eq_some_iff.mp H
            obtain ⟨⟨t208, t209, t210⟩, A370, H⟩ := H
            replace H : (if t210 = true then (if (x202001_1.length : Int) = 8 then (some ((⟨#[]⟩ : ByteArray), ([] : List (S40)), 0, 2)) else (if x202001_1.length < 4398046511104 then (impl_ReadHead.l0 k1 a0 t203 (wrap64 (x7_1 + 1)) x202000_1 (x202001_1 ++ [(⟨t208, t209⟩ : S40)])) else (none))) else (some ((⟨#[]⟩ : ByteArray), ([] : List (S40)), 0, 2))) = some (r1, r2, r3, r4) := H
            have A37 := Aside0.mk A370
            clear A370
            have HS38 := Aside0.mk H
            clear H
            go_upto_region 18 with (first | ((with_reducible refine gate_callee (f := 52) rfl ?_); refine goesL_ (some 54) rfl rfl Tryd.func52 (by kernel_rfl) rfl #[.string t202] rfl (by (try simp only [List.map_toArray, List.map_cons, List.map_nil]); rfl) ?_; (with_reducible refine (impl_readField.calls k1 t202 t208 t209 t210 _ ?side1 A37.out).mono ?_); (case side1 => exact Shp.below HSH.out (by repeat ((with_reducible exact HB.out)))); rintro e w39 ⟨rfl, hb⟩; refine ⟨_, rfl, ?_⟩; have n0_ := Aside0.mk (Kd.R_below (by (with_reducible repeat (first | apply Kd.R_alloc | apply Kd.R_drewN | apply Kd.R_drew )); exact HO_202001.out) hb); have n1_ := Aside0.mk (blk_below (g := gb200) (o := .cells #[.string x201000_1, .slice none 0 0] 26 (0, 0)) (by (with_reducible repeat (first | refine blk_drewN ?_ _ | refine blk_drew ?_ | refine blk_alloc ?_ _ )); exact BK200.out) hb); have n2_ := Aside0.mk (blk_below (g := gb201) (o := .cells #[.string x202000_1, u202001] 26 (0, 0)) (by (with_reducible repeat (first | refine blk_drewN ?_ _ | refine blk_drew ?_ | refine blk_alloc ?_ _ )); exact BK201.out) hb); have n3_ := Aside0.mk (below_step (by repeat ((with_reducible exact HB.out))) hb); clear HO_202001; clear BK200; clear BK201; clear HB; have HO_202001 := n0_; have BK200 := n1_; have BK201 := n2_; have HB := n3_; clear n0_ n1_ n2_ n3_; (try clear hb); (try clear hb2); (try clear hk); (try clear hi)) | ((with_reducible refine gate_dst (N := 12) rfl ?_); (try (refine gate_guard (by rfl) ?_; dsimp only)); refine box_event ?hg (N := 12) ?hd (cs := #[.string (⟨#[]⟩ : ByteArray), .string (⟨#[]⟩ : ByteArray)]) (t := 40) ?hr ?_; (case hd => rfl); (case hg => rfl); (case hr => (go_simp; done)); intro gb211 hg w40 hbox hb; have n0_ := Aside0.mk (Kd.R_below (Kd.R_elderB (by (with_reducible repeat (first | apply Kd.R_alloc | apply Kd.R_drewN | apply Kd.R_drew )); exact HO_202001.out) gb211 (Nat.le_of_eq hg.symm)) hb); have n1_ := Aside0.mk (blk_below (g := gb200) (o := .cells #[.string x201000_1, .slice none 0 0] 26 (0, 0)) (by (with_reducible repeat (first | refine blk_drewN ?_ _ | refine blk_drew ?_ | refine blk_alloc ?_ _ )); exact BK200.out) hb); have n2_ := Aside0.mk (blk_below (g := gb201) (o := .cells #[.string x202000_1, u202001] 26 (0, 0)) (by (with_reducible repeat (first | refine blk_drewN ?_ _ | refine blk_drew ?_ | refine blk_alloc ?_ _ )); exact BK201.out) hb); have n3_ := Aside0.mk (below_step (by repeat ((with_reducible exact HB.out))) hb); have n4_ := Aside0.mk (hbox); have n5_ := Aside0.mk ((by rw [hg]; exact (below_size (by repeat ((with_reducible exact HB.out)))) : w.heap.size ≤ gb211)); have n6_ := Aside0.mk ((by rw [hg]; exact (below_size (by repeat ((with_reducible exact HB.out)))) : w.heap.size ≤ gb211)); have n7_ := Aside0.mk ((by rw [hg]; exact Nat.ne_of_lt (blk_lt (g := gb200) (o := .cells #[.string x201000_1, .slice none 0 0] 26 (0, 0)) (by (with_reducible repeat (first | refine blk_drewN ?_ _ | refine blk_drew ?_ | refine blk_alloc ?_ _ )); exact BK200.out)) : gb200 ≠ gb211)); have n8_ := Aside0.mk ((by rw [hg]; exact Nat.ne_of_gt (blk_lt (g := gb200) (o := .cells #[.string x201000_1, .slice none 0 0] 26 (0, 0)) (by (with_reducible repeat (first | refine blk_drewN ?_ _ | refine blk_drew ?_ | refine blk_alloc ?_ _ )); exact BK200.out)) : gb211 ≠ gb200)); have n9_ := Aside0.mk ((by rw [hg]; exact Nat.ne_of_lt (blk_lt (g := gb201) (o := .cells #[.string x202000_1, u202001] 26 (0, 0)) (by (with_reducible repeat (first | refine blk_drewN ?_ _ | refine blk_drew ?_ | refine blk_alloc ?_ _ )); exact BK201.out)) : gb201 ≠ gb211)); have n10_ := Aside0.mk ((by rw [hg]; exact Nat.ne_of_gt (blk_lt (g := gb201) (o := .cells #[.string x202000_1, u202001] 26 (0, 0)) (by (with_reducible repeat (first | refine blk_drewN ?_ _ | refine blk_drew ?_ | refine blk_alloc ?_ _ )); exact BK201.out)) : gb211 ≠ gb201)); clear HO_202001; clear BK200; clear BK201; clear HB; have HO_202001 := n0_; have BK200 := n1_; have BK201 := n2_; have HB := n3_; have BK211 := n4_; have GW211 := n5_; have GE211 := n6_; have NB200_211 := n7_; have NB211_200 := n8_; have NB201_211 := n9_; have NB211_201 := n10_; clear n0_ n1_ n2_ n3_ n4_ n5_ n6_ n7_ n8_ n9_ n10_; clear hb hbox hg; have hnb41 := NB211_200.out; have hnc41 := NB200_211.out; have hnb42 := NB211_201.out; have hnc42 := NB201_211.out; have hcz43_0 : w40.cell? ⟨gb211, 0, none⟩ = some (.string (⟨#[]⟩ : ByteArray)) := (blk_cell BK211.out 0).trans rfl; have hcz43_1 : w40.cell? ⟨gb211, 1, none⟩ = some (.string (⟨#[]⟩ : ByteArray)) := (blk_cell BK211.out 1).trans rfl; have hfz43_0 := blk_frozen BK211.out 0; have hfz43_1 := blk_frozen BK211.out 1))
            (try simp only [Act.put, List.setIfInBounds_toArray, List.set_cons_zero, List.set_cons_succ])
            have H := HS38.out
            clear HS38
            by_cases c44 : t210 = true
            · subst c44
              have H1 : (if (x202001_1.length : Int) = 8 then (some ((⟨#[]⟩ : ByteArray), ([] : List (S40)), 0, 2)) else (if x202001_1.length < 4398046511104 then (impl_ReadHead.l0 k1 a0 t203 (wrap64 (x7_1 + 1)) x202000_1 (x202001_1 ++ [(⟨t208, t209⟩ : S40)])) else (none))) = some (r1, r2, r3, r4) := by rw [if_pos rfl] at H; exact H
              clear H
              have H := H1
              clear H1
              by_cases c45 : (x202001_1.length : Int) = 8
              · rw [if_pos c45] at H
                have c45b0 : ((x202001_1.length : Int) == 8) = true := beq_iff_eq.mpr c45
                have c45b1 : ((x202001_1.length : Int) != 8) = false := bne_eq_false_iff_eq.mpr c45
                clear c45
                simp only [Option.some.injEq, Prod.mk.injEq] at H
                obtain ⟨rfl, rfl, rfl, rfl⟩ := H
                have hnb46 := NB201_200.out
                have hnc46 := NB200_201.out
                have hnb47 := NB201_211.out
                have hnc47 := NB211_201.out
                have hcz48_0 : w40.cell? ⟨gb201, 0, none⟩ = some (.string x202000_1) := (blk_cell BK201.out 0).trans rfl
                have hcz48_1 : w40.cell? ⟨gb201, 1, none⟩ = some (u202001) := (blk_cell BK201.out 1).trans rfl
                have hfz48_0 := blk_frozen BK201.out 0
                have hfz48_1 := blk_frozen BK201.out 1
                obtain ⟨Ao49, co49, eo49⟩ := Kd.R_slice HO_202001.out
                subst eo49
                have hnb50 := NB200_211.out
                have hnc50 := NB211_200.out
                have hcz51_0 : w40.cell? ⟨gb200, 0, none⟩ = some (.string x201000_1) := (blk_cell BK200.out 0).trans rfl
                have hcz51_1 : w40.cell? ⟨gb200, 1, none⟩ = some (.slice none 0 0) := (blk_cell BK200.out 1).trans rfl
                have hfz51_0 := blk_frozen BK200.out 0
                have hfz51_1 := blk_frozen BK200.out 1
                go_wp2
                refine bodyPost_ret (results_ctt rfl _ _ gb200 26 #[.string (⟨#[]⟩ : ByteArray), .slice none 0 0] (0, 0) _ rfl (by (with_reducible repeat (first | refine blk_drewN ?_ _ | refine blk_drew ?_ | refine blk_alloc ?_ _ )); refine blk_put (cs := #[.string (⟨#[]⟩ : ByteArray), .slice none 0 0]) ?_ 1 _ rfl; (with_reducible repeat (first | refine blk_drewN ?_ _ | refine blk_drew ?_ | refine blk_alloc ?_ _ )); refine blk_put (cs := #[.string x201000_1, .slice none 0 0]) ?_ 0 _ rfl; (with_reducible repeat (first | refine blk_drewN ?_ _ | refine blk_drew ?_ | refine blk_alloc ?_ _ )); refine blk_far ?_ NB200_211.out _; (with_reducible repeat (first | refine blk_drewN ?_ _ | refine blk_drew ?_ | refine blk_alloc ?_ _ )); refine blk_far ?_ NB200_211.out _; (with_reducible repeat (first | refine blk_drewN ?_ _ | refine blk_drew ?_ | refine blk_alloc ?_ _ )); exact BK200.out) Tryd.underlying26 rfl (by kernel_rfl)) rfl ?_
                exact ⟨_, by rfl, by exact Kd.R_nil _ _ _ _ _, by repeat ((with_reducible first | exact HB.out | refine below_set ?_ GE200.out | refine below_set ?_ GE211.out))⟩
              · rw [if_neg c45] at H
                have c45b0 : ((x202001_1.length : Int) == 8) = false := beq_eq_false_iff_ne.mpr c45
                have c45b1 : ((x202001_1.length : Int) != 8) = true := bne_iff_ne.mpr c45
                by_cases c52 : x202001_1.length < 4398046511104
                · rw [if_pos c52] at H
                  have LMc52 := Aside0.mk c52
                  clear c52
                  obtain ⟨y212, hy212⟩ : ∃ y_ : List (S40), y_ = (x202001_1 ++ [(⟨t208, t209⟩ : S40)]) := ⟨_, rfl⟩
                  replace H : (impl_ReadHead.l0 k1 a0 t203 (wrap64 (x7_1 + 1)) x202000_1 y212) = some (r1, r2, r3, r4) := by (rw [hy212]; with_reducible exact H)
                  have Ny212 := Aside0.mk hy212
                  clear hy212
                  have H' := Aside0.mk H
                  clear H
                  have hnb53 := NB201_200.out
                  have hnc53 := NB200_201.out
                  have hnb54 := NB201_211.out
                  have hnc54 := NB211_201.out
                  have hcz55_0 : w40.cell? ⟨gb201, 0, none⟩ = some (.string x202000_1) := (blk_cell BK201.out 0).trans rfl
                  have hcz55_1 : w40.cell? ⟨gb201, 1, none⟩ = some (u202001) := (blk_cell BK201.out 1).trans rfl
                  have hfz55_0 := blk_frozen BK201.out 0
                  have hfz55_1 := blk_frozen BK201.out 1
                  obtain ⟨Ao56, co56, eo56⟩ := Kd.R_slice HO_202001.out
                  subst eo56
                  have hnb57 := NB211_200.out
                  have hnc57 := NB200_211.out
                  have hcz58_0 : w40.cell? ⟨gb211, 0, none⟩ = some (.string (⟨#[]⟩ : ByteArray)) := (blk_cell BK211.out 0).trans rfl
                  have hcz58_1 : w40.cell? ⟨gb211, 1, none⟩ = some (.string (⟨#[]⟩ : ByteArray)) := (blk_cell BK211.out 1).trans rfl
                  have hfz58_0 := blk_frozen BK211.out 0
                  have hfz58_1 := blk_frozen BK211.out 1
                  go_wp2_with (((with_reducible refine gate_builtin (b := .append) (xs := #[.tmp 67, .tmp 69]) rfl ?_); (try (refine gate_guard (by rfl) ?_; dsimp only)); at_builtin; refine Kd.R_append k40 (w0 := w) w.heap.size rfl (.tmp 67) (.tmp 69) 24 40 (.agg #[(.string ⟨#[]⟩), (.string ⟨#[]⟩)]) 32 rfl Tryd.underlying24 info40 rfl (by decide) (by omega) (.slice Ao56 x202001_1.length co56) x202001_1 (⟨t208, t209⟩ : S40) [.string t208, .string t209] (fun k_ => k_ ≠ gb211) (fun _ => False) rfl (by (go_simp; done)) ?aP (fun _ hk => hk.elim) ?aF ?aO ?aB ?aS ?aL ?_; (case aP => exact k40_mkM _ _ _ (⟨t208, t209⟩ : S40)); (case aB => exact (by repeat ((with_reducible first | exact HB.out | refine below_set ?_ GE211.out)))); (case aF => exact (fun k_ hk => Kd.freshB (g := gb211) (o := .cells #[.string t208, .string t209] 40 (0, 0)) (by (with_reducible repeat (first | refine blk_drewN ?_ _ | refine blk_drew ?_ | refine blk_alloc ?_ _ )); refine blk_put (cs := #[.string t208, .string (⟨#[]⟩ : ByteArray)]) ?_ 1 _ rfl; (with_reducible repeat (first | refine blk_drewN ?_ _ | refine blk_drew ?_ | refine blk_alloc ?_ _ )); refine blk_put (cs := #[.string (⟨#[]⟩ : ByteArray), .string (⟨#[]⟩ : ByteArray)]) ?_ 0 _ rfl; (with_reducible repeat (first | refine blk_drewN ?_ _ | refine blk_drew ?_ | refine blk_alloc ?_ _ )); exact BK211.out) k_ hk)); (case aO => exact (by (with_reducible repeat (first | apply Kd.R_alloc | apply Kd.R_drewN | apply Kd.R_drew )); exact Kd.R_mono (Kd.R_far (p := ⟨gb211, 1, none⟩) (Kd.R_far (p := ⟨gb211, 0, none⟩) (Kd.R_mono HO_202001.out (fun k_ hk => (⟨hk, hk.2⟩ : _ ∧ k_ ≠ gb211))) (fun _ hk => hk.2) (.string t208)) (fun _ hk => hk.2) (.string t209)) (fun _ hk => hk.1.2))); (case aS => exact (below_size (by repeat ((with_reducible first | exact HB.out | refine below_set ?_ GE211.out))))); (case aL => have := LMc52.out; omega); intro v213 w59 ho hb hg hat; rw [← Ny212.out] at ho; have n0_ := Aside0.mk (blk_grown (g := gb200) (o := .cells #[.string x201000_1, .slice none 0 0] 26 (0, 0)) (by (with_reducible repeat (first | refine blk_drewN ?_ _ | refine blk_drew ?_ | refine blk_alloc ?_ _ )); refine blk_far ?_ NB200_211.out _; (with_reducible repeat (first | refine blk_drewN ?_ _ | refine blk_drew ?_ | refine blk_alloc ?_ _ )); refine blk_far ?_ NB200_211.out _; (with_reducible repeat (first | refine blk_drewN ?_ _ | refine blk_drew ?_ | refine blk_alloc ?_ _ )); exact BK200.out) hg (Kd.R_ne HO_202001.out BK200.out (by decide))); have n1_ := Aside0.mk (blk_grown (g := gb201) (o := .cells #[.string x202000_1, .slice Ao56 x202001_1.length co56] 26 (0, 0)) (by (with_reducible repeat (first | refine blk_drewN ?_ _ | refine blk_drew ?_ | refine blk_alloc ?_ _ )); refine blk_far ?_ NB201_211.out _; (with_reducible repeat (first | refine blk_drewN ?_ _ | refine blk_drew ?_ | refine blk_alloc ?_ _ )); refine blk_far ?_ NB201_211.out _; (with_reducible repeat (first | refine blk_drewN ?_ _ | refine blk_drew ?_ | refine blk_alloc ?_ _ )); exact BK201.out) hg (Kd.R_ne HO_202001.out BK201.out (by decide))); have n2_ := Aside0.mk (blk_grown (g := gb211) (o := .cells #[.string t208, .string t209] 40 (0, 0)) (by (with_reducible repeat (first | refine blk_drewN ?_ _ | refine blk_drew ?_ | refine blk_alloc ?_ _ )); refine blk_put (cs := #[.string t208, .string (⟨#[]⟩ : ByteArray)]) ?_ 1 _ rfl; (with_reducible repeat (first | refine blk_drewN ?_ _ | refine blk_drew ?_ | refine blk_alloc ?_ _ )); refine blk_put (cs := #[.string (⟨#[]⟩ : ByteArray), .string (⟨#[]⟩ : ByteArray)]) ?_ 0 _ rfl; (with_reducible repeat (first | refine blk_drewN ?_ _ | refine blk_drew ?_ | refine blk_alloc ?_ _ )); exact BK211.out) hg (Kd.R_away HO_202001.out (fun _ hk => hk.2))); have n3_ := Aside0.mk (hb); have n4_ := Aside0.mk (ho); clear BK200; clear BK201; clear BK211; clear HB; clear HO_202001; have BK200 := n0_; have BK201 := n1_; have BK211 := n2_; have HB := n3_; have HO214 := n4_; clear n0_ n1_ n2_ n3_ n4_; clear ho hb hg hat; obtain ⟨Ao60, co60, eo60⟩ := Kd.R_slice HO214.out; subst eo60; have hcz61_0 : w59.cell? ⟨gb201, 0, none⟩ = some (.string x202000_1) := (blk_cell BK201.out 0).trans rfl; have hcz61_1 : w59.cell? ⟨gb201, 1, none⟩ = some (.slice Ao56 x202001_1.length co56) := (blk_cell BK201.out 1).trans rfl; have hfz61_0 := blk_frozen BK201.out 0; have hfz61_1 := blk_frozen BK201.out 1))
                  go_roundg k1
                  case measure => have := HK1.out; omega
                  case rel => exact ⟨(t203), (wrap64 (x7_1 + 1)), (x201000_1), (x202000_1), (y212), (.slice Ao60 y212.length co60), (by rfl), (by rfl), H', ⟨by have := HK1.out; omega⟩, ⟨by (with_reducible repeat (first | apply Kd.R_alloc | apply Kd.R_drewN | apply Kd.R_drew )); exact Kd.R_mono (Kd.R_far (p := ⟨gb201, 1, none⟩) (Kd.R_types HO214.out BK201.out (by decide)) (fun _ hk => hk.2) (.slice Ao60 y212.length co60)) (fun _ hk => trivial)⟩, ⟨by (with_reducible repeat (first | refine blk_drewN ?_ _ | refine blk_drew ?_ | refine blk_alloc ?_ _ )); refine blk_far ?_ NB200_201.out _; (with_reducible repeat (first | refine blk_drewN ?_ _ | refine blk_drew ?_ | refine blk_alloc ?_ _ )); exact BK200.out⟩, ⟨by (with_reducible repeat (first | refine blk_drewN ?_ _ | refine blk_drew ?_ | refine blk_alloc ?_ _ )); refine blk_put (cs := #[.string x202000_1, .slice Ao56 x202001_1.length co56]) ?_ 1 _ rfl; (with_reducible repeat (first | refine blk_drewN ?_ _ | refine blk_drew ?_ | refine blk_alloc ?_ _ )); exact BK201.out⟩, ⟨by repeat ((with_reducible first | exact HB.out | refine below_set ?_ GE201.out))⟩⟩
                · rw [if_neg c52] at H
                  exact absurd H (by simp)
            · replace c44 := Bool.eq_false_iff.mpr c44
              subst c44
              have H1 : (some ((⟨#[]⟩ : ByteArray), ([] : List (S40)), 0, 2)) = some (r1, r2, r3, r4) := by rw [if_neg (show ¬ (false = true) by decide)] at H; exact H
              clear H
              have H := H1
              clear H1
              simp only [Option.some.injEq, Prod.mk.injEq] at H
              obtain ⟨rfl, rfl, rfl, rfl⟩ := H
              have hnb62 := NB200_201.out
              have hnc62 := NB201_200.out
              have hnb63 := NB200_211.out
              have hnc63 := NB211_200.out
              have hcz64_0 : w40.cell? ⟨gb200, 0, none⟩ = some (.string x201000_1) := (blk_cell BK200.out 0).trans rfl
              have hcz64_1 : w40.cell? ⟨gb200, 1, none⟩ = some (.slice none 0 0) := (blk_cell BK200.out 1).trans rfl
              have hfz64_0 := blk_frozen BK200.out 0
              have hfz64_1 := blk_frozen BK200.out 1
              go_wp2
              refine bodyPost_ret (results_ctt rfl _ _ gb200 26 #[.string (⟨#[]⟩ : ByteArray), .slice none 0 0] (0, 0) _ rfl (by (with_reducible repeat (first | refine blk_drewN ?_ _ | refine blk_drew ?_ | refine blk_alloc ?_ _ )); refine blk_put (cs := #[.string (⟨#[]⟩ : ByteArray), .slice none 0 0]) ?_ 1 _ rfl; (with_reducible repeat (first | refine blk_drewN ?_ _ | refine blk_drew ?_ | refine blk_alloc ?_ _ )); refine blk_put (cs := #[.string x201000_1, .slice none 0 0]) ?_ 0 _ rfl; (with_reducible repeat (first | refine blk_drewN ?_ _ | refine blk_drew ?_ | refine blk_alloc ?_ _ )); refine blk_far ?_ NB200_211.out _; (with_reducible repeat (first | refine blk_drewN ?_ _ | refine blk_drew ?_ | refine blk_alloc ?_ _ )); refine blk_far ?_ NB200_211.out _; (with_reducible repeat (first | refine blk_drewN ?_ _ | refine blk_drew ?_ | refine blk_alloc ?_ _ )); exact BK200.out) Tryd.underlying26 rfl (by kernel_rfl)) rfl ?_
              exact ⟨_, by rfl, by exact Kd.R_nil _ _ _ _ _, by repeat ((with_reducible first | exact HB.out | refine below_set ?_ GE200.out | refine below_set ?_ GE211.out))⟩
      · replace c9 := Bool.eq_false_iff.mpr c9
        subst c9
        have H1 : (if (a0.size : Int) > 300 then (some ((⟨#[]⟩ : ByteArray), ([] : List (S40)), 0, 2)) else ((impl_restOk.f k1 x6_1 (x202000_1.toList == ([] : List UInt8))).bind fun t205 => (if t205 = true then (some ((⟨#[]⟩ : ByteArray), ([] : List (S40)), 0, 1)) else (some ((⟨#[]⟩ : ByteArray), ([] : List (S40)), 0, 2))))) = some (r1, r2, r3, r4) := by rw [if_neg (show ¬ (false = true) by decide)] at H; exact H
        clear H
        have H := H1
        clear H1
        by_cases c65 : (a0.size : Int) > 300
        · rw [if_pos c65] at H
          have c65b0 : decide (300 < (a0.size : Int)) = true := decide_eq_true c65
          have c65b1 : decide (300 < a0.size) = true := decide_eq_true (by omega)
          clear c65
          simp only [Option.some.injEq, Prod.mk.injEq] at H
          obtain ⟨rfl, rfl, rfl, rfl⟩ := H
          have hnb66 := NB200_201.out
          have hnc66 := NB201_200.out
          have hcz67_0 : w8.cell? ⟨gb200, 0, none⟩ = some (.string x201000_1) := (blk_cell BK200.out 0).trans rfl
          have hcz67_1 : w8.cell? ⟨gb200, 1, none⟩ = some (.slice none 0 0) := (blk_cell BK200.out 1).trans rfl
          have hfz67_0 := blk_frozen BK200.out 0
          have hfz67_1 := blk_frozen BK200.out 1
          go_wp2
          refine bodyPost_ret (results_ctt rfl _ _ gb200 26 #[.string (⟨#[]⟩ : ByteArray), .slice none 0 0] (0, 0) _ rfl (by (with_reducible repeat (first | refine blk_drewN ?_ _ | refine blk_drew ?_ | refine blk_alloc ?_ _ )); refine blk_put (cs := #[.string (⟨#[]⟩ : ByteArray), .slice none 0 0]) ?_ 1 _ rfl; (with_reducible repeat (first | refine blk_drewN ?_ _ | refine blk_drew ?_ | refine blk_alloc ?_ _ )); refine blk_put (cs := #[.string x201000_1, .slice none 0 0]) ?_ 0 _ rfl; (with_reducible repeat (first | refine blk_drewN ?_ _ | refine blk_drew ?_ | refine blk_alloc ?_ _ )); exact BK200.out) Tryd.underlying26 rfl (by kernel_rfl)) rfl ?_
          exact ⟨_, by rfl, by exact Kd.R_nil _ _ _ _ _, by repeat ((with_reducible first | exact HB.out | refine below_set ?_ GE200.out))⟩
        · rw [if_neg c65] at H
          have c65b0 : decide (300 < (a0.size : Int)) = false := decide_eq_false c65
          have c65b1 : decide (300 < a0.size) = false := decide_eq_false (by omega)
          clear c65
          replace H := Option.bind_eq_some_iff.mp H
          obtain ⟨t205, A680, H⟩ := H
          replace H : (if t205 = true then (some ((⟨#[]⟩ : ByteArray), ([] : List (S40)), 0, 1)) else (some ((⟨#[]⟩ : ByteArray), ([] : List (S40)), 0, 2))) = some (r1, r2, r3, r4) := H
          have A68 := Aside0.mk A680
          clear A680
          have HS69 := Aside0.mk H
          clear H
          have hnb70 := NB201_200.out
          have hnc70 := NB200_201.out
          have hcz71_0 : w8.cell? ⟨gb201, 0, none⟩ = some (.string x202000_1) := (blk_cell BK201.out 0).trans rfl
          have hcz71_1 : w8.cell? ⟨gb201, 1, none⟩ = some (u202001) := (blk_cell BK201.out 1).trans rfl
          have hfz71_0 := blk_frozen BK201.out 0
          have hfz71_1 := blk_frozen BK201.out 1
          go_upto_if 82 with ((go_at_call 53; rw [show x202000_1.toList.isEmpty = (x202000_1.toList == ([] : List UInt8)) from by cases x202000_1.toList <;> rfl]; (with_reducible refine (impl_restOk.calls k1 x6_1 (x202000_1.toList == ([] : List UInt8)) t205 _ A68.out).mono ?_); rintro e w72 ⟨rfl, hb⟩; have n0_ := Aside0.mk (Kd.R_below (by (with_reducible repeat (first | apply Kd.R_alloc | apply Kd.R_drewN | apply Kd.R_drew )); exact HO_202001.out) hb); have n1_ := Aside0.mk (blk_below (g := gb200) (o := .cells #[.string x201000_1, .slice none 0 0] 26 (0, 0)) (by (with_reducible repeat (first | refine blk_drewN ?_ _ | refine blk_drew ?_ | refine blk_alloc ?_ _ )); exact BK200.out) hb); have n2_ := Aside0.mk (blk_below (g := gb201) (o := .cells #[.string x202000_1, u202001] 26 (0, 0)) (by (with_reducible repeat (first | refine blk_drewN ?_ _ | refine blk_drew ?_ | refine blk_alloc ?_ _ )); exact BK201.out) hb); have n3_ := Aside0.mk (below_step (by repeat ((with_reducible exact HB.out))) hb); clear HO_202001; clear BK200; clear BK201; clear HB; have HO_202001 := n0_; have BK200 := n1_; have BK201 := n2_; have HB := n3_; clear n0_ n1_ n2_ n3_; (try clear hb); (try clear hb2); (try clear hk); (try clear hi)))
          (try simp only [Act.put, List.setIfInBounds_toArray, List.set_cons_zero, List.set_cons_succ])
          have H := HS69.out
          clear HS69
          by_cases c73 : t205 = true
          · subst c73
            have H1 : (some ((⟨#[]⟩ : ByteArray), ([] : List (S40)), 0, 1)) = some (r1, r2, r3, r4) := by rw [if_pos rfl] at H; exact H
            clear H
            have H := H1
            clear H1
            simp only [Option.some.injEq, Prod.mk.injEq] at H
            obtain ⟨rfl, rfl, rfl, rfl⟩ := H
            have hnb74 := NB200_201.out
            have hnc74 := NB201_200.out
            have hcz75_0 : w72.cell? ⟨gb200, 0, none⟩ = some (.string x201000_1) := (blk_cell BK200.out 0).trans rfl
            have hcz75_1 : w72.cell? ⟨gb200, 1, none⟩ = some (.slice none 0 0) := (blk_cell BK200.out 1).trans rfl
            have hfz75_0 := blk_frozen BK200.out 0
            have hfz75_1 := blk_frozen BK200.out 1
            go_wp2
            refine bodyPost_ret (results_ctt rfl _ _ gb200 26 #[.string (⟨#[]⟩ : ByteArray), .slice none 0 0] (0, 0) _ rfl (by (with_reducible repeat (first | refine blk_drewN ?_ _ | refine blk_drew ?_ | refine blk_alloc ?_ _ )); refine blk_put (cs := #[.string (⟨#[]⟩ : ByteArray), .slice none 0 0]) ?_ 1 _ rfl; (with_reducible repeat (first | refine blk_drewN ?_ _ | refine blk_drew ?_ | refine blk_alloc ?_ _ )); refine blk_put (cs := #[.string x201000_1, .slice none 0 0]) ?_ 0 _ rfl; (with_reducible repeat (first | refine blk_drewN ?_ _ | refine blk_drew ?_ | refine blk_alloc ?_ _ )); exact BK200.out) Tryd.underlying26 rfl (by kernel_rfl)) rfl ?_
            exact ⟨_, by rfl, by exact Kd.R_nil _ _ _ _ _, by repeat ((with_reducible first | exact HB.out | refine below_set ?_ GE200.out))⟩
          · replace c73 := Bool.eq_false_iff.mpr c73
            subst c73
            have H1 : (some ((⟨#[]⟩ : ByteArray), ([] : List (S40)), 0, 2)) = some (r1, r2, r3, r4) := by rw [if_neg (show ¬ (false = true) by decide)] at H; exact H
            clear H
            have H := H1
            clear H1
            simp only [Option.some.injEq, Prod.mk.injEq] at H
            obtain ⟨rfl, rfl, rfl, rfl⟩ := H
            have hnb76 := NB200_201.out
            have hnc76 := NB201_200.out
            have hcz77_0 : w72.cell? ⟨gb200, 0, none⟩ = some (.string x201000_1) := (blk_cell BK200.out 0).trans rfl
            have hcz77_1 : w72.cell? ⟨gb200, 1, none⟩ = some (.slice none 0 0) := (blk_cell BK200.out 1).trans rfl
            have hfz77_0 := blk_frozen BK200.out 0
            have hfz77_1 := blk_frozen BK200.out 1
            go_wp2
            refine bodyPost_ret (results_ctt rfl _ _ gb200 26 #[.string (⟨#[]⟩ : ByteArray), .slice none 0 0] (0, 0) _ rfl (by (with_reducible repeat (first | refine blk_drewN ?_ _ | refine blk_drew ?_ | refine blk_alloc ?_ _ )); refine blk_put (cs := #[.string (⟨#[]⟩ : ByteArray), .slice none 0 0]) ?_ 1 _ rfl; (with_reducible repeat (first | refine blk_drewN ?_ _ | refine blk_drew ?_ | refine blk_alloc ?_ _ )); refine blk_put (cs := #[.string x201000_1, .slice none 0 0]) ?_ 0 _ rfl; (with_reducible repeat (first | refine blk_drewN ?_ _ | refine blk_drew ?_ | refine blk_alloc ?_ _ )); exact BK200.out) Tryd.underlying26 rfl (by kernel_rfl)) rfl ?_
            exact ⟨_, by rfl, by exact Kd.R_nil _ _ _ _ _, by repeat ((with_reducible first | exact HB.out | refine below_set ?_ GE200.out))⟩
end Go.Proofs.YtiibecpllokhiaaDoor.Q
