import Derived.Lib.SlBytesRow
import Derived.Test.YthjigecaojaalaaBtShelf
import Derived.Test.YthjigecaojaalaaBtB0
import Derived.Test.YthjigecaojaalaaBtG35
import Derived.Test.YthjigecaojaalaaBtWApart
import Derived.Test.YthjigecaojaalaaBtWGuard
import Derived.Test.YthjigecaojaalaaBtWKept
import Derived.Test.YthjigecaojaalaaBtWLast
import Derived.Test.YthjigecaojaalaaBtWMore
import Derived.Test.YthjigecaojaalaaBtWN
import Derived.Test.YthjigecaojaalaaBtWRepsOne
import Derived.Test.YthjigecaojaalaaBtWShare
import Derived.Test.YthjigecaojaalaaBtWTab
import Derived.Test.YthjigecaojaalaaBtWWords
namespace Go.Proofs.Ythjigecaojaalaa.Q
open Go.RowKit Go.Proofs.YthjigecaojaalaaW.PrintWords Go.Proofs.YthjigecaojaalaaW.PrintLast Go.Proofs.YthjigecaojaalaaW.PrintMore
attribute [local go_sem] max2_int min2_int max_two min_two max_three min_three max_four min_four   -- for this text's walks alone
set_option linter.unusedVariables false
set_option linter.unusedSimpArgs false
/-! ### strings_IndexByte: function 57 -/
def strings_IndexByte.f (a0 : ByteArray) (a1 : Int) : Option Int := some (Lib.indexByte a0.data.toList a1.toNat.toUInt8)
theorem strings_IndexByte.calls (a0 : ByteArray) (a1 : Int) (r : Int) (w : World) (h : strings_IndexByte.f a0 a1 = some r) : Calls Try.prog 57 #[.string a0, .int .u8 a1] w fun e w' => e = .returned (.int .i64 r) ∧ w = w' :=
  (Try.strings_IndexByte a0 a1 w).mono fun e w' ⟨he, hw⟩ => ⟨by rw [he]; injection h with h; rw [h], hw.symm⟩
/-! ### impl_lower: function 58 -/
-- IMPORTS Derived.Lib.SlBytesRow
/-- A letter A-Z as a-z. -/
def impl_lower.one (b : UInt8) : UInt8 := if 65 ≤ b.toNat ∧ b.toNat ≤ 90 then b + 32 else b
def impl_lower.all (s : ByteArray) : ByteArray := ⟨s.data.map impl_lower.one⟩
theorem impl_lower.all_size (s : ByteArray) : (impl_lower.all s).size = s.size := by show (s.data.map _).size = s.data.size; rw [Array.size_map]
theorem impl_lower.all_get (s : ByteArray) (j : Nat) (h : j < s.size) : (impl_lower.all s)[j]'(by rw [impl_lower.all_size]; exact h) = impl_lower.one s[j] := by
  exact Array.getElem_map (f := impl_lower.one) (xs := s.data) (i := j) (by rw [Array.size_map]; exact h)
/-- The row behind a conversion, whose first x bytes are turned. -/
def impl_lower.Row (w : World) (g : Nat) (E : TypeId) (s : ByteArray) (x : Int) : Prop :=
  ∃ (cs : Array Value) (m : Nat), w.heap[g]? = some (.cells cs E (m, m + 1)) ∧ s.size ≤ m ∧ cs.size = m ∧ ∀ j (h : j < s.size), cs[j]? = some (.int .u8 ((if (j : Int) < x then impl_lower.one s[j] else s[j]).toNat : Int))
theorem impl_lower.bt_get (s : ByteArray) (x : Int) (h0 : 0 ≤ x) (h : x.toNat < s.size) : bt s x = (s[x.toNat].toNat : Int) := by simp [bt, h]
theorem impl_lower.Row.start (W : World) (E : TypeId) (s : ByteArray) : impl_lower.Row (Lib.bytesWorld W E s) W.heap.size E s 0 := by
  have hs : s.size ≤ (Lib.bytesCells W E s).size := by
    simp only [Lib.bytesCells, Array.size_append, Array.size_map, Array.size_replicate]
    have : s.data.size = s.size := rfl
    omega
  refine ⟨_, _, Lib.bytesWorld_at_new W E s, hs, rfl, fun j h => ?_⟩
  rw [if_neg (by omega)]
  have h' : j < s.data.size := h
  simp only [Lib.bytesCells]
  rw [Array.getElem?_append_left (by rw [Array.size_map]; exact h'), Array.getElem?_map, Array.getElem?_eq_getElem h']
  rfl
theorem impl_lower.Row.cell {w : World} {g : Nat} {E : TypeId} {s : ByteArray} {x : Int} (h : impl_lower.Row w g E s x) (h0 : 0 ≤ x) (h1 : x < s.size) : w.cell? ⟨g, x.toNat, none⟩ = some (.int .u8 (bt s x)) := by
  obtain ⟨cs, m, hh, _, _, hc⟩ := h
  have h2 : x.toNat < s.size := by omega
  have := hc x.toNat h2
  rw [if_neg (by omega)] at this
  rw [impl_lower.bt_get s x h0 h2, ← this]
  simp [World.cell?, hh]
theorem impl_lower.Row.frozen {w : World} {g : Nat} {E : TypeId} {s : ByteArray} {x : Int} (h : impl_lower.Row w g E s x) (h0 : 0 ≤ x) (h1 : x < s.size) : w.frozen? ⟨g, x.toNat, none⟩ = false := by
  obtain ⟨cs, m, hh, hm, _, _⟩ := h
  simp [World.frozen?, hh]
  omega
theorem impl_lower.Row.skip {w : World} {g : Nat} {E : TypeId} {s : ByteArray} {x : Int} (h : impl_lower.Row w g E s x) (h0 : 0 ≤ x) (h1 : x < s.size) (hb : ¬ (65 ≤ bt s x ∧ bt s x ≤ 90)) : impl_lower.Row w g E s (x + 1) := by
  obtain ⟨cs, m, hh, hm, hz, hc⟩ := h
  refine ⟨cs, m, hh, hm, hz, fun j hj => ?_⟩
  rw [hc j hj]
  by_cases c : (j : Int) < x
  · rw [if_pos c, if_pos (by omega)]
  · rw [if_neg c]
    by_cases c2 : (j : Int) < x + 1
    · have e : j = x.toNat := by omega
      rw [if_pos c2]
      rw [impl_lower.bt_get s x h0 (by omega)] at hb
      subst e
      rw [impl_lower.one, if_neg (by omega)]
    · rw [if_neg c2]
theorem impl_lower.set_same {w : World} {b i : Nat} {cs : Array Value} {T : TypeId} {fr : Nat × Nat} (hb : w.heap[b]? = some (.cells cs T fr)) (v : Value) : (w.setCell ⟨b, i, none⟩ v).heap[b]? = some (.cells (cs.setIfInBounds i v) T fr) := by simp [World.setCell, Array.getElem?_modify, hb]
theorem impl_lower.Row.put {w : World} {g : Nat} {E : TypeId} {s : ByteArray} {x : Int} (h : impl_lower.Row w g E s x) (h0 : 0 ≤ x) (h1 : x < s.size) (hb : 65 ≤ bt s x ∧ bt s x ≤ 90) : impl_lower.Row (w.setCell ⟨g, x.toNat, none⟩ (.int .u8 (bt s x + 32))) g E s (x + 1) := by
  obtain ⟨cs, m, hh, hm, hz, hc⟩ := h
  refine ⟨_, m, impl_lower.set_same hh _, hm, by rw [Array.size_setIfInBounds]; exact hz, fun j hj => ?_⟩
  rw [Array.getElem?_setIfInBounds]
  rw [impl_lower.bt_get s x h0 (by omega)] at hb ⊢
  by_cases c : x.toNat = j
  · rw [if_pos c]
    subst c
    rw [if_pos (by omega), if_pos (by omega), impl_lower.one, if_pos (by omega)]
    have e : (s[x.toNat] + 32).toNat = s[x.toNat].toNat + 32 := by rw [UInt8.toNat_add]; exact Nat.mod_eq_of_lt (by have : (32 : UInt8).toNat = 32 := rfl; omega)
    rw [e]; rfl
  · rw [if_neg c, hc j hj]
    by_cases c1 : (j : Int) < x
    · rw [if_pos c1, if_pos (by omega)]
    · rw [if_neg c1, if_neg (by omega)]
theorem impl_lower.Row.bytes {w : World} {g : Nat} {E : TypeId} {s : ByteArray} {x : Int} (h : impl_lower.Row w g E s x) (h1 : (s.size : Int) ≤ x) : Lib.Bytes w g 0 (impl_lower.all s) := by
  obtain ⟨cs, m, hh, hm, hz, hc⟩ := h
  intro i hi
  have hi' : i < s.size := by rw [impl_lower.all_size] at hi; exact hi
  have := hc i hi'
  rw [if_pos (by omega)] at this
  rw [impl_lower.all_get s i hi', ← this, Nat.zero_add]
  simp [World.cell?, hh]
theorem impl_lower.Row.block {w : World} {g : Nat} {E : TypeId} {s : ByteArray} {x : Int} (h : impl_lower.Row w g E s x) : g < w.heap.size := by
  obtain ⟨cs, m, hh, _⟩ := h
  exact (Array.getElem?_eq_some_iff.1 hh).1
def impl_lower.f (a0 : ByteArray) : Option ByteArray := if a0.size ≤ 9223372036854775807 then some (impl_lower.all a0) else none
theorem impl_lower.within (c : Int) (b : Bool) (hb : b = decide (65 ≤ c ∧ c ≤ 90)) : impl_within.f c 65 90 = some b := by
  subst hb
  unfold impl_within.f
  by_cases h : c ≥ 65
  · rw [if_pos h]; simp [show (65 : Int) ≤ c from h]
  · rw [if_neg h]; simp [show ¬ (65 : Int) ≤ c from h]
set_option maxHeartbeats 4000000 in
set_option maxRecDepth 100000 in
theorem impl_lower.calls (a0 : ByteArray) (r : ByteArray) (w : World) (h : impl_lower.f a0 = some r) : Calls Try.prog 58 #[.string a0] w fun e w' => e = .returned (.string r) ∧ Below w.heap.size w w' := by
  have hs : a0.size ≤ 9223372036854775807 := by unfold impl_lower.f at h; split at h <;> simp_all
  have HH : Aside0 (impl_lower.all a0 = r) := ⟨by unfold impl_lower.f at h; rw [if_pos hs] at h; exact Option.some.inj h⟩
  clear h
  have kb := fun W => print_bytes (P := Try.prog) 9 38 5 Try.underlying9 Try.underlying38 Try.underlying5 a0 W
  go_enter Try.func58, Try.ntmps58
  go_wp2
  go_loopw [10] (fun v10 wr => ∃ x : Int, 0 ≤ x ∧ x ≤ (a0.size : Int) ∧ v10 = .int .i64 x ∧ Aside0 (impl_lower.Row wr w.heap.size 5 a0 x) ∧ Aside0 (Below w.heap.size w wr)) (fun v10 _ => a0.size - (intOf v10).toNat)
  case atStart => exact ⟨0, by omega, by omega, rfl, ⟨impl_lower.Row.start w 5 a0⟩, ⟨bytes_below (Below.refl _ _) (Nat.le_refl _) 5 a0⟩⟩
  case round =>
    obtain ⟨x, hx0, hx1, rfl, HR, HB⟩ := hrel
    clear kb
    by_cases hlt : x < (a0.size : Int)
    · have hc := HR.out.cell hx0 hlt
      have hf := HR.out.frozen hx0 hlt
      have hb0 := bt_range a0 x
      have hd1 : decide (x < (a0.size : Int)) = true := decide_eq_true hlt
      have hd2 : decide (0 ≤ x) = true := decide_eq_true hx0
      have p1 := eq_true hx0
      by_cases hin : 65 ≤ bt a0 x ∧ bt a0 x ≤ 90
      · have hi1 := hin.1
        have hi2 := hin.2
        have HP := Aside0.mk (HR.out.put hx0 hlt hin)
        have HW := Aside0.mk (impl_lower.within (bt a0 x) true (by rw [decide_eq_true hin]))
        clear hin
        go_wp2_with (go_at_call 35; refine (impl_within.calls _ _ _ true _ HW.out).mono ?_; rintro e w1 ⟨rfl, rfl⟩)
        go_roundw
        case rel => exact ⟨x + 1, by omega, by omega, by rfl, ⟨HP.out⟩, ⟨HB.out.setCell (by simp) _⟩⟩
        case measure => simp [intOf]; omega
      · have HP := Aside0.mk (HR.out.skip hx0 hlt hin)
        have HW := Aside0.mk (impl_lower.within (bt a0 x) false (by rw [decide_eq_false hin]))
        clear hin
        go_wp2_with (go_at_call 35; refine (impl_within.calls _ _ _ false _ HW.out).mono ?_; rintro e w1 ⟨rfl, rfl⟩)
        go_roundw
        case rel => exact ⟨x + 1, by omega, by omega, by rfl, ⟨HP.out⟩, ⟨HB.out⟩⟩
        case measure => simp [intOf]; omega
    · have hd1 : decide (x < (a0.size : Int)) = false := decide_eq_false hlt
      have hcv := Lib.run_convert_whole (P := Try.prog) wr 38 5 9 Try.underlying38 Try.underlying5 Try.underlying9 w.heap.size 0 (impl_lower.all a0) (HR.out.bytes (by omega)) (grownCap w a0.size 0 5)
      rw [impl_lower.all_size] at hcv
      go_wp2
      go_ret
      exact ⟨by rw [← HH.out]; rfl, HB.out⟩
/-! ### impl_scanner_length: function 39 -/
mutual
def impl_scanner_length.j2 : Nat → Int → Int → ByteArray → Int → Int → Option (Int × ByteArray × Int × Int)
  | 0, _, _, _, _, _ => none
  | k + 1, x3, x4, x1000, x1001, x1002 => if x4 = 0 then (impl_scanner_length.j3 k x3 x4 (x1001 == (x1000.size : Int)) x1000 x1001 x1002) else (impl_scanner_length.j3 k x3 x4 false x1000 x1001 x1002)
def impl_scanner_length.j3 : Nat → Int → Int → Bool → ByteArray → Int → Int → Option (Int × ByteArray × Int × Int)
  | 0, _, _, _, _, _, _ => none
  | k + 1, x3, x4, x65, x1000, x1001, x1002 => if x65 = true then (some (x3, x1000, x1001, 1)) else (if x4 = 0 then (some (x3, x1000, x1001, 2)) else (some (x3, x1000, x1001, x1002)))
def impl_scanner_length.l0 : Nat → Int → Int → ByteArray → Int → Int → Option (Int × ByteArray × Int × Int)
  | 0, _, _, _, _, _ => none
  | k + 1, x3, x4, x1000, x1001, x1002 => if x1001 < (x1000.size : Int) then (impl_scanner_length.j1 k x3 x4 (decide (x4 < 2)) x1000 x1001 x1002) else (impl_scanner_length.j1 k x3 x4 false x1000 x1001 x1002)
def impl_scanner_length.j1 : Nat → Int → Int → Bool → ByteArray → Int → Int → Option (Int × ByteArray × Int × Int)
  | 0, _, _, _, _, _, _ => none
  | k + 1, x3, x4, x19, x1000, x1001, x1002 => if x19 = true then (if 0 ≤ x1001 then (if x1001 ≤ (wrap64 (x1001 + 1)) then (if (wrap64 (x1001 + 1)) ≤ (x1000.size : Int) then ((impl_lower.f (x1000.extract (x1001 : Int).toNat ((wrap64 (x1001 + 1)) : Int).toNat)).bind fun t153 => (if 0 < (t153.size : Int) then ((strings_IndexByte.f (⟨#[48, 49, 50, 51, 52, 53, 54, 55, 56, 57, 97, 98, 99, 100, 101, 102]⟩ : ByteArray) (bt t153 0)).bind fun t154 => (if t154 < 0 then (impl_scanner_length.j2 k x3 x4 x1000 x1001 x1002) else (impl_scanner_length.l0 k (wrap64 ((wrap64 (16 * x3)) + t154)) (wrap64 (x4 + 1)) x1000 (wrap64 (x1001 + 1)) x1002))) else (none))) else (none)) else (none)) else (none)) else (impl_scanner_length.j2 k x3 x4 x1000 x1001 x1002)
end
def impl_scanner_length.f (k : Nat) (s0_0 : ByteArray) (s0_1 : Int) (s0_2 : Int) : Option (Int × ByteArray × Int × Int) := impl_scanner_length.l0 k 0 0 s0_0 s0_1 s0_2
theorem impl_scanner_length.mono_l : ∀ k, (∀ y0 y1 y2 y3 y4, LeO (impl_scanner_length.j2 k y0 y1 y2 y3 y4) (impl_scanner_length.j2 (k + 1) y0 y1 y2 y3 y4)) ∧ (∀ y0 y1 y2 y3 y4 y5, LeO (impl_scanner_length.j3 k y0 y1 y2 y3 y4 y5) (impl_scanner_length.j3 (k + 1) y0 y1 y2 y3 y4 y5)) ∧ (∀ y0 y1 y2 y3 y4, LeO (impl_scanner_length.l0 k y0 y1 y2 y3 y4) (impl_scanner_length.l0 (k + 1) y0 y1 y2 y3 y4)) ∧ (∀ y0 y1 y2 y3 y4 y5, LeO (impl_scanner_length.j1 k y0 y1 y2 y3 y4 y5) (impl_scanner_length.j1 (k + 1) y0 y1 y2 y3 y4 y5))
  | 0 => ⟨fun _ _ _ _ _ r h => by simp [impl_scanner_length.j2] at h, fun _ _ _ _ _ _ r h => by simp [impl_scanner_length.j3] at h, fun _ _ _ _ _ r h => by simp [impl_scanner_length.l0] at h, fun _ _ _ _ _ _ r h => by simp [impl_scanner_length.j1] at h⟩
  | k + 1 => by
    obtain ⟨ih0, ih1, ih2, ih3⟩ := impl_scanner_length.mono_l k
    refine ⟨?_, ?_, ?_, ?_⟩
    · intro y0 y1 y2 y3 y4
      unfold impl_scanner_length.j2
      repeat' first | (with_reducible exact ih1 _ _ _ _ _ _) | (with_reducible refine LeO.ite ?_ ?_)
    · intro y0 y1 y2 y3 y4 y5
      unfold impl_scanner_length.j3
      repeat' (with_reducible exact LeO.refl _)
    · intro y0 y1 y2 y3 y4
      unfold impl_scanner_length.l0
      repeat' first | (with_reducible exact ih3 _ _ _ _ _ _) | (with_reducible refine LeO.ite ?_ ?_)
    · intro y0 y1 y2 y3 y4 y5
      unfold impl_scanner_length.j1
      repeat' first | (with_reducible exact ih0 _ _ _ _ _) | (with_reducible exact ih2 _ _ _ _ _) | (with_reducible exact LeO.refl _) | (with_reducible refine LeO.ite ?_ ?_) | (with_reducible refine LeO.bind ?_ (fun _ => ?_))
theorem impl_scanner_length.mono : ∀ a0 a1 a2 k, LeO (impl_scanner_length.f k a0 a1 a2) (impl_scanner_length.f (k + 1) a0 a1 a2) := by
  intro a0 a1 a2 k
  obtain ⟨ih0, ih1, ih2, ih3⟩ := impl_scanner_length.mono_l k
  unfold impl_scanner_length.f
  repeat' (with_reducible exact ih2 _ _ _ _ _)
def impl_scanner_length.T2 : Bool × List (List Nat × List Nat) := (true, [([], []), ([0], [0]), ([1], [1]), ([2], [2]), ([], []), ([4], [4]), ([5], [5]), ([6], [6]), ([7], [7]), ([3, 8], [3, 8]), ([9], [9]), ([10], [10]), ([11, 10], [10, 11]), ([10, 12], [10, 12])])
def impl_scanner_length.B2 : List Nat := [0, 1, 3, 7, 0, 16, 48, 112, 240, 511, 1023, 2047, 4095, 8191]
theorem impl_scanner_length.tab2 : rtab .any (opsOf Try.f39 2) = impl_scanner_length.T2 := by kernel_rfl
theorem impl_scanner_length.bits2 : waitsOk impl_scanner_length.T2.2 impl_scanner_length.B2 = true := by kernel_rfl
def impl_scanner_length.T3 : Bool × List (List Nat × List Nat) := (true, [([], []), ([0], [0]), ([1], [1]), ([2], [2]), ([], []), ([4], [4]), ([5], [5]), ([6], [6]), ([], []), ([8], [8]), ([9], [9]), ([10], [10]), ([11], [11]), ([3, 7, 12], [3, 7, 12]), ([13], [13]), ([14], [14]), ([15, 14], [15]), ([16, 16, 0, 1, 2, 3, 4, 5, 6, 7, 8, 9, 10, 11, 12, 13, 14, 15, 16], [16])])
def impl_scanner_length.B3 : List Nat := [0, 1, 3, 7, 0, 16, 48, 112, 0, 256, 768, 1792, 3840, 8191, 16383, 32767, 65535, 131071]
theorem impl_scanner_length.tab3 : rtab .any (opsOf Try.f39 3) = impl_scanner_length.T3 := by kernel_rfl
theorem impl_scanner_length.bits3 : waitsOk impl_scanner_length.T3.2 impl_scanner_length.B3 = true := by kernel_rfl
def impl_scanner_length.T8 : Bool × List (List Nat × List Nat) := (true, [([], []), ([0], [0]), ([1], [1]), ([2], [2]), ([3, 2], [2, 3]), ([4, 2], [2, 4]), ([5, 2], [2, 5]), ([2], [2]), ([7, 2], [2, 7]), ([8, 2], [2, 8]), ([9, 2], [2, 9]), ([10, 2], [2, 10]), ([6, 11, 2], [2, 6, 11]), ([2, 12], [2, 12])])
def impl_scanner_length.B8 : List Nat := [0, 1, 3, 7, 15, 31, 63, 7, 135, 391, 903, 1927, 4095, 8191]
theorem impl_scanner_length.tab8 : rtab .any (opsOf Try.f39 8) = impl_scanner_length.T8 := by kernel_rfl
theorem impl_scanner_length.bits8 : waitsOk impl_scanner_length.T8.2 impl_scanner_length.B8 = true := by kernel_rfl
set_option maxHeartbeats 8000000 in
set_option maxRecDepth 100000 in
theorem impl_scanner_length.calls (k : Nat) (g : Nat) (s0_0 : ByteArray) (s0_1 : Int) (s0_2 : Int) (r1 : Int) (r2 : ByteArray) (r3 : Int) (r4 : Int) (w0 w : World) (hI : IsS67 w0 w g s0_0 s0_1 s0_2) (hB : Below w0.heap.size w0 w) (h : impl_scanner_length.f k s0_0 s0_1 s0_2 = some (r1, r2, r3, r4)) :
    Calls Try.prog 39 #[.pointer (some ⟨g, 0, none⟩)] w fun e w' => e = .returned (.int .i64 r1) ∧ IsS67 w0 w' g r2 r3 r4 ∧ Below w0.heap.size w0 w' ∧ KeepBut w w' g none := by
  have HI0 := Aside0.mk hI
  have HK := Aside0.mk (KeepBut.refl w g none)
  have HL := Aside0.mk hB.size
  clear hI
  have HW0 := Aside0.mk hB.size
  have HB := Aside0.mk hB
  clear hB
  have H : (impl_scanner_length.l0 k 0 0 s0_0 s0_1 s0_2) = some (r1, r2, r3, r4) := h
  clear h
  have HC2 := Aside0.mk H
  clear H
  go_enter Try.func39, Try.ntmps39
  go_upto_block 0 with (fail)
  go_cut [3, 4] (fun v3 v4 wc => ∃ (kq : Nat) (x3_1 : Int) (x4_1 : Int) (x1001_1 : Int), v3 = .int .i64 x3_1 ∧ v4 = .int .i64 x4_1 ∧ Aside0 (impl_scanner_length.j2 kq x3_1 x4_1 s0_0 x1001_1 s0_2 = some (r1, r2, r3, r4)) ∧ Aside0 (kq ≤ k) ∧ Aside0 (IsS67 w0 wc g s0_0 x1001_1 s0_2) ∧ Aside0 (KeepBut w wc g none) ∧ Aside0 (Below w0.heap.size w0 wc))
  case first =>
    have H := HC2.out
    clear HC2
    have H' := Aside0.mk H
    clear H
    go_wp2
    go_loopg [3, 4] k (fun kq v3 v4 w' => ∃ (x3_1 : Int) (x4_1 : Int) (x1001_1 : Int), v3 = .int .i64 x3_1 ∧ v4 = .int .i64 x4_1 ∧ Aside0 (impl_scanner_length.l0 kq x3_1 x4_1 s0_0 x1001_1 s0_2 = some (r1, r2, r3, r4)) ∧ Aside0 (kq ≤ k) ∧ Aside0 (IsS67 w0 w' g s0_0 x1001_1 s0_2) ∧ Aside0 (KeepBut w w' g none) ∧ Aside0 (Below w0.heap.size w0 w'))
    case atStart => exact ⟨(0), (0), (s0_1), (by rfl), (by rfl), H', ⟨Nat.le_refl _⟩, ⟨by repeat ((with_reducible exact HI0.out))⟩, ⟨by repeat ((with_reducible exact HK.out))⟩, ⟨by repeat ((with_reducible exact HB.out))⟩⟩
    case round =>
      clear H'
      obtain ⟨x3_1, x4_1, x1001_1, rfl, rfl, HA, HK1, HI0, HK, HB⟩ := hrel
      cases gk with
      | zero => exact absurd HA.out (by simp [impl_scanner_length.l0])
      | succ k1 =>
        have H := HA.out
        clear HA
        simp only [impl_scanner_length.l0] at H
        have HC3 := Aside0.mk H
        clear H
        go_upto_region 2 with (fail)
        go_cut [19] (fun v19 wc => ∃ (kq : Nat) (x19_2 : Bool), v19 = .bool x19_2 ∧ Aside0 (impl_scanner_length.j1 kq x3_1 x4_1 x19_2 s0_0 x1001_1 s0_2 = some (r1, r2, r3, r4)) ∧ Aside0 (kq ≤ k1) ∧ Aside0 (IsS67 w0 wc g s0_0 x1001_1 s0_2) ∧ Aside0 (KeepBut w wc g none) ∧ Aside0 (Below w0.heap.size w0 wc))
        case first =>
          have H := HC3.out
          clear HC3
          by_cases c4 : x1001_1 < (s0_0.size : Int)
          · rw [if_pos c4] at H
            have c4b0 : decide (x1001_1 < (s0_0.size : Int)) = true := decide_eq_true c4
            clear c4
            (skip)
            have H' := Aside0.mk H
            clear H
            go_wp2
            have n0_ := Aside0.mk (IsS67.drew HI0.out)
            have n1_ := Aside0.mk (keep_drew HK.out)
            have n2_ := Aside0.mk (below_drew1 HB.out)
            clear HI0
            clear HK
            clear HB
            have HI0 := n0_
            have HK := n1_
            have HB := n2_
            clear n0_ n1_ n2_
            refine start_ (n := 14) (S := fun w' => w'.cell? ⟨g, 0, none⟩ = some (.string s0_0) ∧ w'.cell? ⟨g, 1, none⟩ = some (.int .i64 x1001_1) ∧ w'.cell? ⟨g, 2, none⟩ = some (.int .i64 s0_2)) (ds := []) #[false, false, false, false, false, false, false, false, false, false, false, false, false, false] (by kernel_rfl) rfl rfl ⟨(blk_cell (IsS67.blk HI0.out) 0).trans rfl, (blk_cell (IsS67.blk HI0.out) 1).trans rfl, (blk_cell (IsS67.blk HI0.out) 2).trans rfl⟩ (fun hHeld => ?_); refine with_tabW impl_scanner_length.tab2 impl_scanner_length.bits2 (fun HT_ HW_ => ?_)
            generalize wr.drew = w5 at HI0 HK HB hHeld ⊢
            refine pure_ (i := 0) (N := some 6) (v := ?_) (a' := ?_) #[true, false, false, false, false, false, false, false, false, false, false, false, false, false] rfl rfl (any_of HT_.out (by kernel_rfl)) (fun _ _ _ h => h) (Or.inl ⟨by rfl, ?_⟩) ?_ ?_
            rotate_left
            · intro w'
              go_simp
              with_reducible rfl
            rotate_left
            · simp only [Act.put, List.setIfInBounds_toArray, List.set_cons_zero, List.set_cons_succ, i64_w, i32_w]
              rfl
            refine pure_ (i := 1) (N := some 7) (v := ?_) (a' := ?_) #[true, true, false, false, false, false, false, false, false, false, false, false, false, false] rfl rfl (any_of HT_.out (by kernel_rfl)) (fun _ _ _ h => h) (Or.inl ⟨by rfl, ?_⟩) ?_ ?_
            rotate_left
            · intro w'
              go_simp
              with_reducible rfl
            rotate_left
            · simp only [Act.put, List.setIfInBounds_toArray, List.set_cons_zero, List.set_cons_succ, i64_w, i32_w]
              rfl
            refine pure_ (i := 2) (N := some 8) (v := ?_) (a' := ?_) #[true, true, true, false, false, false, false, false, false, false, false, false, false, false] rfl rfl (any_of HT_.out (by kernel_rfl)) (fun _ _ _ h => h) (Or.inl ⟨by rfl, ?_⟩) ?_ ?_
            rotate_left
            · intro w'
              go_simp
              with_reducible rfl
            rotate_left
            · simp only [Act.put, List.setIfInBounds_toArray, List.set_cons_zero, List.set_cons_succ, i64_w, i32_w]
              rfl
            refine pure_ (i := 4) (N := some 10) (v := ?_) (a' := ?_) #[true, true, true, false, true, false, false, false, false, false, false, false, false, false] rfl rfl (any_of HT_.out (by kernel_rfl)) (fun _ _ _ h => h) (Or.inl ⟨by rfl, ?_⟩) ?_ ?_
            rotate_left
            · intro w'
              go_simp
              with_reducible rfl
            rotate_left
            · simp only [Act.put, List.setIfInBounds_toArray, List.set_cons_zero, List.set_cons_succ, i64_w, i32_w]
              rfl
            refine pure_ (i := 5) (N := some 11) (v := ?_) (a' := ?_) #[true, true, true, false, true, true, false, false, false, false, false, false, false, false] rfl rfl (any_of HT_.out (by kernel_rfl)) (fun _ _ _ h => h) (Or.inl ⟨by rfl, ?_⟩) ?_ ?_
            rotate_left
            · intro w'
              go_simp
              with_reducible rfl
            rotate_left
            · simp only [Act.put, List.setIfInBounds_toArray, List.set_cons_zero, List.set_cons_succ, i64_w, i32_w]
              rfl
            refine pure_ (i := 6) (N := some 12) (v := ?_) (a' := ?_) #[true, true, true, false, true, true, true, false, false, false, false, false, false, false] rfl rfl (any_of HT_.out (by kernel_rfl)) (fun _ _ _ h => h) (Or.inl ⟨by rfl, ?_⟩) ?_ ?_
            rotate_left
            · intro w'
              go_simp
              with_reducible rfl
            rotate_left
            · simp only [Act.put, List.setIfInBounds_toArray, List.set_cons_zero, List.set_cons_succ, i64_w, i32_w]
              rfl
            refine take_ (i := 3) (N := some 9) (v := ?_) (a' := ?_) #[true, true, true, true, true, true, true, false, false, false, false, false, false, false] rfl rfl (take_ofW HT_.out HW_.out (by kernel_rfl)) (fun _ _ _ h => h) (Or.inl ⟨by rfl, ?_⟩) hHeld ?_ ?_
            rotate_left
            · rintro w' ⟨s0, s1, s2⟩
              go_simp
              with_reducible rfl
            rotate_left
            · simp only [Act.put, List.setIfInBounds_toArray, List.set_cons_zero, List.set_cons_succ, i64_w, i32_w]
              rfl
            refine take_ (i := 7) (N := some 13) (v := ?_) (a' := ?_) #[true, true, true, true, true, true, true, true, false, false, false, false, false, false] rfl rfl (take_ofW HT_.out HW_.out (by kernel_rfl)) (fun _ _ _ h => h) (Or.inl ⟨by rfl, ?_⟩) hHeld ?_ ?_
            rotate_left
            · rintro w' ⟨s0, s1, s2⟩
              go_simp
              with_reducible rfl
            rotate_left
            · simp only [Act.put, List.setIfInBounds_toArray, List.set_cons_zero, List.set_cons_succ, i64_w, i32_w]
              rfl
            refine pure_ (i := 8) (N := some 14) (v := ?_) (a' := ?_) #[true, true, true, true, true, true, true, true, true, false, false, false, false, false] rfl rfl (any_of HT_.out (by kernel_rfl)) (fun _ _ _ h => h) (Or.inl ⟨by rfl, ?_⟩) ?_ ?_
            rotate_left
            · intro w'
              go_simp
              with_reducible rfl
            rotate_left
            · simp only [Act.put, List.setIfInBounds_toArray, List.set_cons_zero, List.set_cons_succ, i64_w, i32_w]
              rfl
            refine pure_ (i := 9) (N := some 15) (v := ?_) (a' := ?_) #[true, true, true, true, true, true, true, true, true, true, false, false, false, false] rfl rfl (any_of HT_.out (by kernel_rfl)) (fun _ _ _ h => h) (Or.inl ⟨by rfl, ?_⟩) ?_ ?_
            rotate_left
            · intro w'
              go_simp
              with_reducible rfl
            rotate_left
            · simp only [Act.put, List.setIfInBounds_toArray, List.set_cons_zero, List.set_cons_succ, i64_w, i32_w]
              rfl
            refine pure_ (i := 10) (N := some 16) (v := ?_) (a' := ?_) #[true, true, true, true, true, true, true, true, true, true, true, false, false, false] rfl rfl (any_of HT_.out (by kernel_rfl)) (fun _ _ _ h => h) (Or.inl ⟨by rfl, ?_⟩) ?_ ?_
            rotate_left
            · intro w'
              go_simp
              with_reducible rfl
            rotate_left
            · simp only [Act.put, List.setIfInBounds_toArray, List.set_cons_zero, List.set_cons_succ, i64_w, i32_w]
              rfl
            refine pure_ (i := 11) (N := some 17) (v := ?_) (a' := ?_) #[true, true, true, true, true, true, true, true, true, true, true, true, false, false] rfl rfl (any_of HT_.out (by kernel_rfl)) (fun _ _ _ h => h) (Or.inl ⟨by rfl, ?_⟩) ?_ ?_
            rotate_left
            · intro w'
              go_simp
              with_reducible rfl
            rotate_left
            · simp only [Act.put, List.setIfInBounds_toArray, List.set_cons_zero, List.set_cons_succ, i64_w, i32_w]
              rfl
            refine pure_ (i := 12) (N := some 18) (v := ?_) (a' := ?_) #[true, true, true, true, true, true, true, true, true, true, true, true, true, false] rfl rfl (any_of HT_.out (by kernel_rfl)) (fun _ _ _ h => h) (Or.inl ⟨by rfl, ?_⟩) ?_ ?_
            rotate_left
            · intro w'
              go_simp
              with_reducible rfl
            rotate_left
            · simp only [Act.put, List.setIfInBounds_toArray, List.set_cons_zero, List.set_cons_succ, i64_w, i32_w]
              rfl
            refine pure_ (i := 13) (N := some 19) (v := ?_) (a' := ?_) #[true, true, true, true, true, true, true, true, true, true, true, true, true, true] rfl rfl (any_of HT_.out (by kernel_rfl)) (fun _ _ _ h => h) (Or.inl ⟨by rfl, ?_⟩) ?_ ?_
            rotate_left
            · intro w'
              go_simp
              with_reducible rfl
            rotate_left
            · simp only [Act.put, List.setIfInBounds_toArray, List.set_cons_zero, List.set_cons_succ, i64_w, i32_w]
              rfl
            refine done_ (done_of HT_.out (by kernel_rfl)) ?_
            go_wp2
            go_meet
            case rel => exact ⟨_, (decide (x4_1 < 2)), (by rfl), H', ⟨by have := HK1.out; omega⟩, ⟨by repeat ((with_reducible exact HI0.out))⟩, ⟨by repeat ((with_reducible exact HK.out))⟩, ⟨by repeat ((with_reducible exact HB.out))⟩⟩
          · rw [if_neg c4] at H
            have c4b0 : decide (x1001_1 < (s0_0.size : Int)) = false := decide_eq_false c4
            clear c4
            (skip)
            have H' := Aside0.mk H
            clear H
            go_wp2
            have n0_ := Aside0.mk (IsS67.drew HI0.out)
            have n1_ := Aside0.mk (keep_drew HK.out)
            have n2_ := Aside0.mk (below_drew1 HB.out)
            clear HI0
            clear HK
            clear HB
            have HI0 := n0_
            have HK := n1_
            have HB := n2_
            clear n0_ n1_ n2_
            refine start_ (n := 14) (S := fun w' => w'.cell? ⟨g, 0, none⟩ = some (.string s0_0) ∧ w'.cell? ⟨g, 1, none⟩ = some (.int .i64 x1001_1) ∧ w'.cell? ⟨g, 2, none⟩ = some (.int .i64 s0_2)) (ds := []) #[false, false, false, false, false, false, false, false, false, false, false, false, false, false] (by kernel_rfl) rfl rfl ⟨(blk_cell (IsS67.blk HI0.out) 0).trans rfl, (blk_cell (IsS67.blk HI0.out) 1).trans rfl, (blk_cell (IsS67.blk HI0.out) 2).trans rfl⟩ (fun hHeld => ?_); refine with_tabW impl_scanner_length.tab2 impl_scanner_length.bits2 (fun HT_ HW_ => ?_)
            generalize wr.drew = w6 at HI0 HK HB hHeld ⊢
            refine pure_ (i := 0) (N := some 6) (v := ?_) (a' := ?_) #[true, false, false, false, false, false, false, false, false, false, false, false, false, false] rfl rfl (any_of HT_.out (by kernel_rfl)) (fun _ _ _ h => h) (Or.inl ⟨by rfl, ?_⟩) ?_ ?_
            rotate_left
            · intro w'
              go_simp
              with_reducible rfl
            rotate_left
            · simp only [Act.put, List.setIfInBounds_toArray, List.set_cons_zero, List.set_cons_succ, i64_w, i32_w]
              rfl
            refine pure_ (i := 1) (N := some 7) (v := ?_) (a' := ?_) #[true, true, false, false, false, false, false, false, false, false, false, false, false, false] rfl rfl (any_of HT_.out (by kernel_rfl)) (fun _ _ _ h => h) (Or.inl ⟨by rfl, ?_⟩) ?_ ?_
            rotate_left
            · intro w'
              go_simp
              with_reducible rfl
            rotate_left
            · simp only [Act.put, List.setIfInBounds_toArray, List.set_cons_zero, List.set_cons_succ, i64_w, i32_w]
              rfl
            refine pure_ (i := 2) (N := some 8) (v := ?_) (a' := ?_) #[true, true, true, false, false, false, false, false, false, false, false, false, false, false] rfl rfl (any_of HT_.out (by kernel_rfl)) (fun _ _ _ h => h) (Or.inl ⟨by rfl, ?_⟩) ?_ ?_
            rotate_left
            · intro w'
              go_simp
              with_reducible rfl
            rotate_left
            · simp only [Act.put, List.setIfInBounds_toArray, List.set_cons_zero, List.set_cons_succ, i64_w, i32_w]
              rfl
            refine pure_ (i := 4) (N := some 10) (v := ?_) (a' := ?_) #[true, true, true, false, true, false, false, false, false, false, false, false, false, false] rfl rfl (any_of HT_.out (by kernel_rfl)) (fun _ _ _ h => h) (Or.inl ⟨by rfl, ?_⟩) ?_ ?_
            rotate_left
            · intro w'
              go_simp
              with_reducible rfl
            rotate_left
            · simp only [Act.put, List.setIfInBounds_toArray, List.set_cons_zero, List.set_cons_succ, i64_w, i32_w]
              rfl
            refine pure_ (i := 5) (N := some 11) (v := ?_) (a' := ?_) #[true, true, true, false, true, true, false, false, false, false, false, false, false, false] rfl rfl (any_of HT_.out (by kernel_rfl)) (fun _ _ _ h => h) (Or.inl ⟨by rfl, ?_⟩) ?_ ?_
            rotate_left
            · intro w'
              go_simp
              with_reducible rfl
            rotate_left
            · simp only [Act.put, List.setIfInBounds_toArray, List.set_cons_zero, List.set_cons_succ, i64_w, i32_w]
              rfl
            refine pure_ (i := 6) (N := some 12) (v := ?_) (a' := ?_) #[true, true, true, false, true, true, true, false, false, false, false, false, false, false] rfl rfl (any_of HT_.out (by kernel_rfl)) (fun _ _ _ h => h) (Or.inl ⟨by rfl, ?_⟩) ?_ ?_
            rotate_left
            · intro w'
              go_simp
              with_reducible rfl
            rotate_left
            · simp only [Act.put, List.setIfInBounds_toArray, List.set_cons_zero, List.set_cons_succ, i64_w, i32_w]
              rfl
            refine take_ (i := 3) (N := some 9) (v := ?_) (a' := ?_) #[true, true, true, true, true, true, true, false, false, false, false, false, false, false] rfl rfl (take_ofW HT_.out HW_.out (by kernel_rfl)) (fun _ _ _ h => h) (Or.inl ⟨by rfl, ?_⟩) hHeld ?_ ?_
            rotate_left
            · rintro w' ⟨s0, s1, s2⟩
              go_simp
              with_reducible rfl
            rotate_left
            · simp only [Act.put, List.setIfInBounds_toArray, List.set_cons_zero, List.set_cons_succ, i64_w, i32_w]
              rfl
            refine take_ (i := 7) (N := some 13) (v := ?_) (a' := ?_) #[true, true, true, true, true, true, true, true, false, false, false, false, false, false] rfl rfl (take_ofW HT_.out HW_.out (by kernel_rfl)) (fun _ _ _ h => h) (Or.inl ⟨by rfl, ?_⟩) hHeld ?_ ?_
            rotate_left
            · rintro w' ⟨s0, s1, s2⟩
              go_simp
              with_reducible rfl
            rotate_left
            · simp only [Act.put, List.setIfInBounds_toArray, List.set_cons_zero, List.set_cons_succ, i64_w, i32_w]
              rfl
            refine pure_ (i := 8) (N := some 14) (v := ?_) (a' := ?_) #[true, true, true, true, true, true, true, true, true, false, false, false, false, false] rfl rfl (any_of HT_.out (by kernel_rfl)) (fun _ _ _ h => h) (Or.inl ⟨by rfl, ?_⟩) ?_ ?_
            rotate_left
            · intro w'
              go_simp
              with_reducible rfl
            rotate_left
            · simp only [Act.put, List.setIfInBounds_toArray, List.set_cons_zero, List.set_cons_succ, i64_w, i32_w]
              rfl
            refine pure_ (i := 9) (N := some 15) (v := ?_) (a' := ?_) #[true, true, true, true, true, true, true, true, true, true, false, false, false, false] rfl rfl (any_of HT_.out (by kernel_rfl)) (fun _ _ _ h => h) (Or.inl ⟨by rfl, ?_⟩) ?_ ?_
            rotate_left
            · intro w'
              go_simp
              with_reducible rfl
            rotate_left
            · simp only [Act.put, List.setIfInBounds_toArray, List.set_cons_zero, List.set_cons_succ, i64_w, i32_w]
              rfl
            refine pure_ (i := 10) (N := some 16) (v := ?_) (a' := ?_) #[true, true, true, true, true, true, true, true, true, true, true, false, false, false] rfl rfl (any_of HT_.out (by kernel_rfl)) (fun _ _ _ h => h) (Or.inl ⟨by rfl, ?_⟩) ?_ ?_
            rotate_left
            · intro w'
              go_simp
              with_reducible rfl
            rotate_left
            · simp only [Act.put, List.setIfInBounds_toArray, List.set_cons_zero, List.set_cons_succ, i64_w, i32_w]
              rfl
            refine pure_ (i := 11) (N := some 17) (v := undef) (a' := ?_) #[true, true, true, true, true, true, true, true, true, true, true, true, false, false] rfl rfl (any_of HT_.out (by kernel_rfl)) (fun _ _ _ h => h) (Or.inr ⟨by rfl, rfl⟩) ?_ ?_
            rotate_left
            · simp only [Act.put, List.setIfInBounds_toArray, List.set_cons_zero, List.set_cons_succ, i64_w, i32_w]
              rfl
            refine pure_ (i := 12) (N := some 18) (v := undef) (a' := ?_) #[true, true, true, true, true, true, true, true, true, true, true, true, true, false] rfl rfl (any_of HT_.out (by kernel_rfl)) (fun _ _ _ h => h) (Or.inr ⟨by rfl, rfl⟩) ?_ ?_
            rotate_left
            · simp only [Act.put, List.setIfInBounds_toArray, List.set_cons_zero, List.set_cons_succ, i64_w, i32_w]
              rfl
            refine pure_ (i := 13) (N := some 19) (v := ?_) (a' := ?_) #[true, true, true, true, true, true, true, true, true, true, true, true, true, true] rfl rfl (any_of HT_.out (by kernel_rfl)) (fun _ _ _ h => h) (Or.inl ⟨by rfl, ?_⟩) ?_ ?_
            rotate_left
            · intro w'
              go_simp
              with_reducible rfl
            rotate_left
            · simp only [Act.put, List.setIfInBounds_toArray, List.set_cons_zero, List.set_cons_succ, i64_w, i32_w]
              rfl
            refine done_ (done_of HT_.out (by kernel_rfl)) ?_
            go_wp2
            go_meet
            case rel => exact ⟨_, (false), (by rfl), H', ⟨by have := HK1.out; omega⟩, ⟨by repeat ((with_reducible exact HI0.out))⟩, ⟨by repeat ((with_reducible exact HK.out))⟩, ⟨by repeat ((with_reducible exact HB.out))⟩⟩
        case rest =>
          clear HC3
          obtain ⟨kq, x19_2, rfl, HA, HJ2, HI0, HK, HB⟩ := hcut
          cases kq with
          | zero => exact absurd HA.out (by simp [impl_scanner_length.j1])
          | succ kj2 =>
            have H := HA.out
            clear HA
            simp only [impl_scanner_length.j1] at H
            by_cases c7 : x19_2 = true
            · subst c7
              have H1 : (if 0 ≤ x1001_1 then (if x1001_1 ≤ (wrap64 (x1001_1 + 1)) then (if (wrap64 (x1001_1 + 1)) ≤ (s0_0.size : Int) then ((impl_lower.f (s0_0.extract (x1001_1 : Int).toNat ((wrap64 (x1001_1 + 1)) : Int).toNat)).bind fun t153 => (if 0 < (t153.size : Int) then ((strings_IndexByte.f (⟨#[48, 49, 50, 51, 52, 53, 54, 55, 56, 57, 97, 98, 99, 100, 101, 102]⟩ : ByteArray) (bt t153 0)).bind fun t154 => (if t154 < 0 then (impl_scanner_length.j2 kj2 x3_1 x4_1 s0_0 x1001_1 s0_2) else (impl_scanner_length.l0 kj2 (wrap64 ((wrap64 (16 * x3_1)) + t154)) (wrap64 (x4_1 + 1)) s0_0 (wrap64 (x1001_1 + 1)) s0_2))) else (none))) else (none)) else (none)) else (none)) = some (r1, r2, r3, r4) := by rw [if_pos rfl] at H; exact H
              clear H
              have H := H1
              clear H1
              by_cases c8 : 0 ≤ x1001_1
              · rw [if_pos c8] at H
                have c8b0 := eq_true c8
                have c8b1 : decide (0 ≤ x1001_1) = true := decide_eq_true c8
                clear c8
                by_cases c9 : x1001_1 ≤ (wrap64 (x1001_1 + 1))
                · rw [if_pos c9] at H
                  have c9b0 := eq_true c9
                  have c9b1 : decide (x1001_1 ≤ (wrap64 (x1001_1 + 1))) = true := decide_eq_true c9
                  by_cases c10 : (wrap64 (x1001_1 + 1)) ≤ (s0_0.size : Int)
                  · rw [if_pos c10] at H
                    have c10b0 := eq_true c10
                    have c10b1 : decide ((wrap64 (x1001_1 + 1)) ≤ (s0_0.size : Int)) = true := decide_eq_true c10
                    replace H := Option.bind_eq_some_iff.mp H
                    obtain ⟨t153, A110, H⟩ := H
                    replace H : (if 0 < (t153.size : Int) then ((strings_IndexByte.f (⟨#[48, 49, 50, 51, 52, 53, 54, 55, 56, 57, 97, 98, 99, 100, 101, 102]⟩ : ByteArray) (bt t153 0)).bind fun t154 => (if t154 < 0 then (impl_scanner_length.j2 kj2 x3_1 x4_1 s0_0 x1001_1 s0_2) else (impl_scanner_length.l0 kj2 (wrap64 ((wrap64 (16 * x3_1)) + t154)) (wrap64 (x4_1 + 1)) s0_0 (wrap64 (x1001_1 + 1)) s0_2))) else (none)) = some (r1, r2, r3, r4) := H
                    have A11 := Aside0.mk A110
                    clear A110
                    by_cases c12 : 0 < (t153.size : Int)
                    · rw [if_pos c12] at H
                      have c12b0 : decide (0 < (t153.size : Int)) = true := decide_eq_true c12
                      have c12b1 : decide (0 < t153.size) = true := decide_eq_true (by omega)
                      clear c12
                      replace H := Option.bind_eq_some_iff.mp H
                      obtain ⟨t154, A140, H⟩ := H
                      replace H : (if t154 < 0 then (impl_scanner_length.j2 kj2 x3_1 x4_1 s0_0 x1001_1 s0_2) else (impl_scanner_length.l0 kj2 (wrap64 ((wrap64 (16 * x3_1)) + t154)) (wrap64 (x4_1 + 1)) s0_0 (wrap64 (x1001_1 + 1)) s0_2)) = some (r1, r2, r3, r4) := H
                      have A14 := Aside0.mk A140
                      clear A140
                      have HS15 := Aside0.mk H
                      clear H
                      go_wp2
                      have n0_ := Aside0.mk (IsS67.drew HI0.out)
                      have n1_ := Aside0.mk (keep_drew HK.out)
                      have n2_ := Aside0.mk (below_drew1 HB.out)
                      clear HI0
                      clear HK
                      clear HB
                      have HI0 := n0_
                      have HK := n1_
                      have HB := n2_
                      clear n0_ n1_ n2_
                      refine start_ (n := 18) (S := fun w' => w'.cell? ⟨g, 0, none⟩ = some (.string s0_0) ∧ w'.cell? ⟨g, 1, none⟩ = some (.int .i64 x1001_1) ∧ w'.cell? ⟨g, 2, none⟩ = some (.int .i64 s0_2)) (ds := []) #[false, false, false, false, false, false, false, false, false, false, false, false, false, false, false, false, false, false] (by kernel_rfl) rfl rfl ⟨(blk_cell (IsS67.blk HI0.out) 0).trans rfl, (blk_cell (IsS67.blk HI0.out) 1).trans rfl, (blk_cell (IsS67.blk HI0.out) 2).trans rfl⟩ (fun hHeld => ?_); refine with_tabW impl_scanner_length.tab3 impl_scanner_length.bits3 (fun HT_ HW_ => ?_)
                      generalize wc.drew = w16 at HI0 HK HB hHeld ⊢
                      refine pure_ (i := 0) (N := some 20) (v := ?_) (a' := ?_) #[true, false, false, false, false, false, false, false, false, false, false, false, false, false, false, false, false, false] rfl rfl (any_of HT_.out (by kernel_rfl)) (fun _ _ _ h => h) (Or.inl ⟨by rfl, ?_⟩) ?_ ?_
                      rotate_left
                      · intro w'
                        go_simp
                        with_reducible rfl
                      rotate_left
                      · simp only [Act.put, List.setIfInBounds_toArray, List.set_cons_zero, List.set_cons_succ, i64_w, i32_w]
                        rfl
                      refine pure_ (i := 1) (N := some 21) (v := ?_) (a' := ?_) #[true, true, false, false, false, false, false, false, false, false, false, false, false, false, false, false, false, false] rfl rfl (any_of HT_.out (by kernel_rfl)) (fun _ _ _ h => h) (Or.inl ⟨by rfl, ?_⟩) ?_ ?_
                      rotate_left
                      · intro w'
                        go_simp
                        with_reducible rfl
                      rotate_left
                      · simp only [Act.put, List.setIfInBounds_toArray, List.set_cons_zero, List.set_cons_succ, i64_w, i32_w]
                        rfl
                      refine pure_ (i := 2) (N := some 22) (v := ?_) (a' := ?_) #[true, true, true, false, false, false, false, false, false, false, false, false, false, false, false, false, false, false] rfl rfl (any_of HT_.out (by kernel_rfl)) (fun _ _ _ h => h) (Or.inl ⟨by rfl, ?_⟩) ?_ ?_
                      rotate_left
                      · intro w'
                        go_simp
                        with_reducible rfl
                      rotate_left
                      · simp only [Act.put, List.setIfInBounds_toArray, List.set_cons_zero, List.set_cons_succ, i64_w, i32_w]
                        rfl
                      refine pure_ (i := 4) (N := some 24) (v := ?_) (a' := ?_) #[true, true, true, false, true, false, false, false, false, false, false, false, false, false, false, false, false, false] rfl rfl (any_of HT_.out (by kernel_rfl)) (fun _ _ _ h => h) (Or.inl ⟨by rfl, ?_⟩) ?_ ?_
                      rotate_left
                      · intro w'
                        go_simp
                        with_reducible rfl
                      rotate_left
                      · simp only [Act.put, List.setIfInBounds_toArray, List.set_cons_zero, List.set_cons_succ, i64_w, i32_w]
                        rfl
                      refine pure_ (i := 5) (N := some 25) (v := ?_) (a' := ?_) #[true, true, true, false, true, true, false, false, false, false, false, false, false, false, false, false, false, false] rfl rfl (any_of HT_.out (by kernel_rfl)) (fun _ _ _ h => h) (Or.inl ⟨by rfl, ?_⟩) ?_ ?_
                      rotate_left
                      · intro w'
                        go_simp
                        with_reducible rfl
                      rotate_left
                      · simp only [Act.put, List.setIfInBounds_toArray, List.set_cons_zero, List.set_cons_succ, i64_w, i32_w]
                        rfl
                      refine pure_ (i := 6) (N := some 26) (v := ?_) (a' := ?_) #[true, true, true, false, true, true, true, false, false, false, false, false, false, false, false, false, false, false] rfl rfl (any_of HT_.out (by kernel_rfl)) (fun _ _ _ h => h) (Or.inl ⟨by rfl, ?_⟩) ?_ ?_
                      rotate_left
                      · intro w'
                        go_simp
                        with_reducible rfl
                      rotate_left
                      · simp only [Act.put, List.setIfInBounds_toArray, List.set_cons_zero, List.set_cons_succ, i64_w, i32_w]
                        rfl
                      refine pure_ (i := 8) (N := some 28) (v := ?_) (a' := ?_) #[true, true, true, false, true, true, true, false, true, false, false, false, false, false, false, false, false, false] rfl rfl (any_of HT_.out (by kernel_rfl)) (fun _ _ _ h => h) (Or.inl ⟨by rfl, ?_⟩) ?_ ?_
                      rotate_left
                      · intro w'
                        go_simp
                        with_reducible rfl
                      rotate_left
                      · simp only [Act.put, List.setIfInBounds_toArray, List.set_cons_zero, List.set_cons_succ, i64_w, i32_w]
                        rfl
                      refine pure_ (i := 9) (N := some 29) (v := ?_) (a' := ?_) #[true, true, true, false, true, true, true, false, true, true, false, false, false, false, false, false, false, false] rfl rfl (any_of HT_.out (by kernel_rfl)) (fun _ _ _ h => h) (Or.inl ⟨by rfl, ?_⟩) ?_ ?_
                      rotate_left
                      · intro w'
                        go_simp
                        with_reducible rfl
                      rotate_left
                      · simp only [Act.put, List.setIfInBounds_toArray, List.set_cons_zero, List.set_cons_succ, i64_w, i32_w]
                        rfl
                      refine pure_ (i := 10) (N := some 30) (v := ?_) (a' := ?_) #[true, true, true, false, true, true, true, false, true, true, true, false, false, false, false, false, false, false] rfl rfl (any_of HT_.out (by kernel_rfl)) (fun _ _ _ h => h) (Or.inl ⟨by rfl, ?_⟩) ?_ ?_
                      rotate_left
                      · intro w'
                        go_simp
                        with_reducible rfl
                      rotate_left
                      · simp only [Act.put, List.setIfInBounds_toArray, List.set_cons_zero, List.set_cons_succ, i64_w, i32_w]
                        rfl
                      refine take_ (i := 3) (N := some 23) (v := ?_) (a' := ?_) #[true, true, true, true, true, true, true, false, true, true, true, false, false, false, false, false, false, false] rfl rfl (take_ofW HT_.out HW_.out (by kernel_rfl)) (fun _ _ _ h => h) (Or.inl ⟨by rfl, ?_⟩) hHeld ?_ ?_
                      rotate_left
                      · rintro w' ⟨s0, s1, s2⟩
                        go_simp
                        with_reducible rfl
                      rotate_left
                      · simp only [Act.put, List.setIfInBounds_toArray, List.set_cons_zero, List.set_cons_succ, i64_w, i32_w]
                        rfl
                      refine take_ (i := 7) (N := some 27) (v := ?_) (a' := ?_) #[true, true, true, true, true, true, true, true, true, true, true, false, false, false, false, false, false, false] rfl rfl (take_ofW HT_.out HW_.out (by kernel_rfl)) (fun _ _ _ h => h) (Or.inl ⟨by rfl, ?_⟩) hHeld ?_ ?_
                      rotate_left
                      · rintro w' ⟨s0, s1, s2⟩
                        go_simp
                        with_reducible rfl
                      rotate_left
                      · simp only [Act.put, List.setIfInBounds_toArray, List.set_cons_zero, List.set_cons_succ, i64_w, i32_w]
                        rfl
                      refine take_ (i := 11) (N := some 31) (v := ?_) (a' := ?_) #[true, true, true, true, true, true, true, true, true, true, true, true, false, false, false, false, false, false] rfl rfl (take_ofW HT_.out HW_.out (by kernel_rfl)) (fun _ _ _ h => h) (Or.inl ⟨by rfl, ?_⟩) hHeld ?_ ?_
                      rotate_left
                      · rintro w' ⟨s0, s1, s2⟩
                        go_simp
                        with_reducible rfl
                      rotate_left
                      · simp only [Act.put, List.setIfInBounds_toArray, List.set_cons_zero, List.set_cons_succ, i64_w, i32_w]
                        rfl
                      refine pure_ (i := 12) (N := some 32) (v := ?_) (a' := ?_) #[true, true, true, true, true, true, true, true, true, true, true, true, true, false, false, false, false, false] rfl rfl (any_of HT_.out (by kernel_rfl)) (fun _ _ _ h => h) (Or.inl ⟨by rfl, ?_⟩) ?_ ?_
                      rotate_left
                      · intro w'
                        go_simp
                        with_reducible rfl
                      rotate_left
                      · simp only [Act.put, List.setIfInBounds_toArray, List.set_cons_zero, List.set_cons_succ, i64_w, i32_w]
                        rfl
                      refine pure_ (i := 13) (N := some 33) (v := ?_) (a' := ?_) #[true, true, true, true, true, true, true, true, true, true, true, true, true, true, false, false, false, false] rfl rfl (any_of HT_.out (by kernel_rfl)) (fun _ _ _ h => h) (Or.inl ⟨by rfl, ?_⟩) ?_ ?_
                      rotate_left
                      · intro w'
                        go_simp
                        with_reducible rfl
                      rotate_left
                      · simp only [Act.put, List.setIfInBounds_toArray, List.set_cons_zero, List.set_cons_succ, i64_w, i32_w]
                        rfl
                      refine one_ (i := 14) (N := some 34) #[true, true, true, true, true, true, true, true, true, true, true, true, true, true, true, false, false, false] rfl rfl (one_of HT_.out (by kernel_rfl)) (by decide) (fun K hK => ?_)
                      refine goes_ Try.func58 (by kernel_rfl) rfl #[.string (s0_0.extract (x1001_1 : Int).toNat ((wrap64 (x1001_1 + 1)) : Int).toNat)] (by rfl) rfl rfl (by (try simp only [List.map_toArray, List.map_cons, List.map_nil]); rfl) ?_
                      with_reducible refine (impl_lower.calls (s0_0.extract (x1001_1 : Int).toNat ((wrap64 (x1001_1 + 1)) : Int).toNat) t153 _ A11.out).mono ?_
                      rintro e w17 ⟨rfl, hb⟩
                      refine ⟨_, rfl, ?_⟩
                      have n0_ := Aside0.mk (IsS67.below (by repeat ((with_reducible exact HI0.out))) hb)
                      have n1_ := Aside0.mk (KeepBut.trans (by repeat ((with_reducible exact HK.out))) (KeepBut.of_below hb g none) (.inl rfl))
                      have n2_ := Aside0.mk (below_step (by repeat ((with_reducible exact HB.out))) hb)
                      clear HI0
                      clear HK
                      clear HB
                      have HI0 := n0_
                      have HK := n1_
                      have HB := n2_
                      clear n0_ n1_ n2_
                      (try clear hb)
                      (try clear hb2)
                      (try clear hk)
                      (try clear hi)
                      have p13 : 0 ≤ (0 : Int) := (by omega)
                      have q13 : 0 < t153.size := (by have : (0 : Int) < (t153.size : Int) := of_decide_eq_true (by (with_reducible assumption)); omega)
                      have hx13 : ∀ h : 0 < t153.size, ((t153[0]'h).toNat : Int) = bt t153 0 := bt_at t153 0
                      clear p13
                      have qi13 : (0 < (t153.size : Int)) = True := eq_true (of_decide_eq_true (by (with_reducible assumption)))
                      replace q13 := eq_true q13
                      refine hK.out _ _ ⟨(blk_cell (IsS67.blk HI0.out) 0).trans rfl, (blk_cell (IsS67.blk HI0.out) 1).trans rfl, (blk_cell (IsS67.blk HI0.out) 2).trans rfl⟩ (fun hHeld => ?_)
                      clear hK K
                      refine norm_ (a' := ?_) ?_ ?_
                      rotate_left
                      · show Act.put _ (some 34) _ = _
                        simp only [Act.put, List.setIfInBounds_toArray, List.set_cons_zero, List.set_cons_succ, i64_w, i32_w]
                        rfl
                      refine take_ (i := 15) (N := some 35) (v := ?_) (a' := ?_) #[true, true, true, true, true, true, true, true, true, true, true, true, true, true, true, true, false, false] rfl rfl (take_ofW HT_.out HW_.out (by kernel_rfl)) (fun _ _ _ h => h) (Or.inl ⟨by rfl, ?_⟩) hHeld ?_ ?_
                      rotate_left
                      · rintro w' ⟨s0, s1, s2⟩
                        go_simp
                        with_reducible rfl
                      rotate_left
                      · simp only [Act.put, List.setIfInBounds_toArray, List.set_cons_zero, List.set_cons_succ, i64_w, i32_w]
                        rfl
                      refine one_ (i := 16) (N := some 36) #[true, true, true, true, true, true, true, true, true, true, true, true, true, true, true, true, true, false] rfl rfl (one_of HT_.out (by kernel_rfl)) (by decide) (fun K hK => ?_)
                      refine goes_ Try.func57 (by kernel_rfl) rfl #[.string (⟨#[48, 49, 50, 51, 52, 53, 54, 55, 56, 57, 97, 98, 99, 100, 101, 102]⟩ : ByteArray), .int .u8 (bt t153 0)] (by rfl) rfl rfl (by (try simp only [List.map_toArray, List.map_cons, List.map_nil]); rfl) ?_
                      with_reducible refine (strings_IndexByte.calls (⟨#[48, 49, 50, 51, 52, 53, 54, 55, 56, 57, 97, 98, 99, 100, 101, 102]⟩ : ByteArray) (bt t153 0) t154 _ A14.out).mono ?_
                      rintro e w' ⟨rfl, rfl⟩
                      refine ⟨_, rfl, ?_⟩
                      refine hK.out _ _ ⟨(blk_cell (IsS67.blk HI0.out) 0).trans rfl, (blk_cell (IsS67.blk HI0.out) 1).trans rfl, (blk_cell (IsS67.blk HI0.out) 2).trans rfl⟩ (fun hHeld => ?_)
                      clear hK K
                      refine norm_ (a' := ?_) ?_ ?_
                      rotate_left
                      · show Act.put _ (some 36) _ = _
                        simp only [Act.put, List.setIfInBounds_toArray, List.set_cons_zero, List.set_cons_succ, i64_w, i32_w]
                        rfl
                      refine pure_ (i := 17) (N := some 5) (v := ?_) (a' := ?_) #[true, true, true, true, true, true, true, true, true, true, true, true, true, true, true, true, true, true] rfl rfl (any_of HT_.out (by kernel_rfl)) (fun _ _ _ h => h) (Or.inl ⟨by rfl, ?_⟩) ?_ ?_
                      rotate_left
                      · intro w'
                        go_simp
                        with_reducible rfl
                      rotate_left
                      · simp only [Act.put, List.setIfInBounds_toArray, List.set_cons_zero, List.set_cons_succ, i64_w, i32_w]
                        rfl
                      refine done_ (done_of HT_.out (by kernel_rfl)) ?_
                      go_upto_if 38 with (fail)
                      have H := HS15.out
                      clear HS15
                      by_cases c18 : t154 < 0
                      · rw [if_pos c18] at H
                        have c18b0 : decide (t154 < 0) = true := decide_eq_true c18
                        clear c18
                        (rw [c18b0])
                        have H' := Aside0.mk H
                        clear H
                        go_wp2
                        go_meet
                        case rel => exact ⟨_, (x3_1), (x4_1), (x1001_1), (by rfl), (by rfl), H', ⟨by have := HK1.out; have := HJ2.out; omega⟩, ⟨by repeat ((with_reducible exact HI0.out))⟩, ⟨by repeat ((with_reducible exact HK.out))⟩, ⟨by repeat ((with_reducible exact HB.out))⟩⟩
                      · rw [if_neg c18] at H
                        have c18b0 : decide (t154 < 0) = false := decide_eq_false c18
                        clear c18
                        (rw [c18b0])
                        have H' := Aside0.mk H
                        clear H
                        obtain ⟨HGz19, hgz19⟩ := HI0.out
                        have hcz19_0 := cellS67_0 HGz19
                        have hcz19_1 := cellS67_1 HGz19
                        have hcz19_2 := cellS67_2 HGz19
                        have hfz19_0 := blk_frozen HGz19 0
                        have hfz19_1 := blk_frozen HGz19 1
                        have hfz19_2 := blk_frozen HGz19 2
                        clear HGz19 hgz19
                        go_wp2
                        go_roundg kj2
                        case measure => have := HK1.out; have := HJ2.out; omega
                        case rel => exact ⟨(wrap64 ((wrap64 (16 * x3_1)) + t154)), (wrap64 (x4_1 + 1)), (wrap64 (x1001_1 + 1)), (by rfl), (by rfl), H', ⟨by have := HK1.out; have := HJ2.out; omega⟩, ⟨by repeat ((with_reducible first | exact HI0.out | apply IsS67.set_1))⟩, ⟨by repeat ((with_reducible first | exact HK.out | apply KeepBut.set_))⟩, ⟨by repeat ((with_reducible first | exact HB.out | refine below_set ?_ (IsS67.ge HI0.out)))⟩⟩
                    · rw [if_neg c12] at H
                      exact absurd H (by simp)
                  · rw [if_neg c10] at H
                    exact absurd H (by simp)
                · rw [if_neg c9] at H
                  exact absurd H (by simp)
              · rw [if_neg c8] at H
                exact absurd H (by simp)
            · replace c7 := Bool.eq_false_iff.mpr c7
              subst c7
              have H1 : (impl_scanner_length.j2 kj2 x3_1 x4_1 s0_0 x1001_1 s0_2) = some (r1, r2, r3, r4) := by rw [if_neg (show ¬ (false = true) by decide)] at H; exact H
              clear H
              have H := H1
              clear H1
              have H' := Aside0.mk H
              clear H
              go_wp2
              go_meet
              case rel => exact ⟨_, (x3_1), (x4_1), (x1001_1), (by rfl), (by rfl), H', ⟨by have := HK1.out; have := HJ2.out; omega⟩, ⟨by repeat ((with_reducible exact HI0.out))⟩, ⟨by repeat ((with_reducible exact HK.out))⟩, ⟨by repeat ((with_reducible exact HB.out))⟩⟩
  case rest =>
    clear HC2
    obtain ⟨kq, x3_1, x4_1, x1001_1, rfl, rfl, HA, HJ1, HI0, HK, HB⟩ := hcut
    cases kq with
    | zero => exact absurd HA.out (by simp [impl_scanner_length.j2])
    | succ kj1 =>
      have H := HA.out
      clear HA
      simp only [impl_scanner_length.j2] at H
      have HC20 := Aside0.mk H
      clear H
      go_upto_region 8 with (fail)
      go_cut [65] (fun v65 wc => ∃ (kq : Nat) (x65_19 : Bool), v65 = .bool x65_19 ∧ Aside0 (impl_scanner_length.j3 kq x3_1 x4_1 x65_19 s0_0 x1001_1 s0_2 = some (r1, r2, r3, r4)) ∧ Aside0 (kq ≤ kj1) ∧ Aside0 (IsS67 w0 wc g s0_0 x1001_1 s0_2) ∧ Aside0 (KeepBut w wc g none) ∧ Aside0 (Below w0.heap.size w0 wc))
      case first =>
        have H := HC20.out
        clear HC20
        by_cases c21 : x4_1 = 0
        · rw [if_pos c21] at H
          have c21b0 : (x4_1 == 0) = true := beq_iff_eq.mpr c21
          have c21b1 : (x4_1 != 0) = false := bne_eq_false_iff_eq.mpr c21
          clear c21
          (skip)
          have H' := Aside0.mk H
          clear H
          go_wp2
          have n0_ := Aside0.mk (IsS67.drew HI0.out)
          have n1_ := Aside0.mk (keep_drew HK.out)
          have n2_ := Aside0.mk (below_drew1 HB.out)
          clear HI0
          clear HK
          clear HB
          have HI0 := n0_
          have HK := n1_
          have HB := n2_
          clear n0_ n1_ n2_
          refine start_ (n := 14) (S := fun w' => w'.cell? ⟨g, 0, none⟩ = some (.string s0_0) ∧ w'.cell? ⟨g, 1, none⟩ = some (.int .i64 x1001_1) ∧ w'.cell? ⟨g, 2, none⟩ = some (.int .i64 s0_2)) (ds := []) #[false, false, false, false, false, false, false, false, false, false, false, false, false, false] (by kernel_rfl) rfl rfl ⟨(blk_cell (IsS67.blk HI0.out) 0).trans rfl, (blk_cell (IsS67.blk HI0.out) 1).trans rfl, (blk_cell (IsS67.blk HI0.out) 2).trans rfl⟩ (fun hHeld => ?_); refine with_tabW impl_scanner_length.tab8 impl_scanner_length.bits8 (fun HT_ HW_ => ?_)
          generalize wc.drew = w22 at HI0 HK HB hHeld ⊢
          refine pure_ (i := 0) (N := some 52) (v := ?_) (a' := ?_) #[true, false, false, false, false, false, false, false, false, false, false, false, false, false] rfl rfl (any_of HT_.out (by kernel_rfl)) (fun _ _ _ h => h) (Or.inl ⟨by rfl, ?_⟩) ?_ ?_
          rotate_left
          · intro w'
            go_simp
            with_reducible rfl
          rotate_left
          · simp only [Act.put, List.setIfInBounds_toArray, List.set_cons_zero, List.set_cons_succ, i64_w, i32_w]
            rfl
          refine pure_ (i := 1) (N := some 53) (v := ?_) (a' := ?_) #[true, true, false, false, false, false, false, false, false, false, false, false, false, false] rfl rfl (any_of HT_.out (by kernel_rfl)) (fun _ _ _ h => h) (Or.inl ⟨by rfl, ?_⟩) ?_ ?_
          rotate_left
          · intro w'
            go_simp
            with_reducible rfl
          rotate_left
          · simp only [Act.put, List.setIfInBounds_toArray, List.set_cons_zero, List.set_cons_succ, i64_w, i32_w]
            rfl
          refine pure_ (i := 2) (N := some 54) (v := ?_) (a' := ?_) #[true, true, true, false, false, false, false, false, false, false, false, false, false, false] rfl rfl (any_of HT_.out (by kernel_rfl)) (fun _ _ _ h => h) (Or.inl ⟨by rfl, ?_⟩) ?_ ?_
          rotate_left
          · intro w'
            go_simp
            with_reducible rfl
          rotate_left
          · simp only [Act.put, List.setIfInBounds_toArray, List.set_cons_zero, List.set_cons_succ, i64_w, i32_w]
            rfl
          refine pure_ (i := 3) (N := some 55) (v := ?_) (a' := ?_) #[true, true, true, true, false, false, false, false, false, false, false, false, false, false] rfl rfl (any_of HT_.out (by kernel_rfl)) (fun _ _ _ h => h) (Or.inl ⟨by rfl, ?_⟩) ?_ ?_
          rotate_left
          · intro w'
            go_simp
            with_reducible rfl
          rotate_left
          · simp only [Act.put, List.setIfInBounds_toArray, List.set_cons_zero, List.set_cons_succ, i64_w, i32_w]
            rfl
          refine pure_ (i := 4) (N := some 56) (v := ?_) (a' := ?_) #[true, true, true, true, true, false, false, false, false, false, false, false, false, false] rfl rfl (any_of HT_.out (by kernel_rfl)) (fun _ _ _ h => h) (Or.inl ⟨by rfl, ?_⟩) ?_ ?_
          rotate_left
          · intro w'
            go_simp
            with_reducible rfl
          rotate_left
          · simp only [Act.put, List.setIfInBounds_toArray, List.set_cons_zero, List.set_cons_succ, i64_w, i32_w]
            rfl
          refine pure_ (i := 5) (N := some 57) (v := ?_) (a' := ?_) #[true, true, true, true, true, true, false, false, false, false, false, false, false, false] rfl rfl (any_of HT_.out (by kernel_rfl)) (fun _ _ _ h => h) (Or.inl ⟨by rfl, ?_⟩) ?_ ?_
          rotate_left
          · intro w'
            go_simp
            with_reducible rfl
          rotate_left
          · simp only [Act.put, List.setIfInBounds_toArray, List.set_cons_zero, List.set_cons_succ, i64_w, i32_w]
            rfl
          refine pure_ (i := 7) (N := some 59) (v := ?_) (a' := ?_) #[true, true, true, true, true, true, false, true, false, false, false, false, false, false] rfl rfl (any_of HT_.out (by kernel_rfl)) (fun _ _ _ h => h) (Or.inl ⟨by rfl, ?_⟩) ?_ ?_
          rotate_left
          · intro w'
            go_simp
            with_reducible rfl
          rotate_left
          · simp only [Act.put, List.setIfInBounds_toArray, List.set_cons_zero, List.set_cons_succ, i64_w, i32_w]
            rfl
          refine pure_ (i := 8) (N := some 60) (v := ?_) (a' := ?_) #[true, true, true, true, true, true, false, true, true, false, false, false, false, false] rfl rfl (any_of HT_.out (by kernel_rfl)) (fun _ _ _ h => h) (Or.inl ⟨by rfl, ?_⟩) ?_ ?_
          rotate_left
          · intro w'
            go_simp
            with_reducible rfl
          rotate_left
          · simp only [Act.put, List.setIfInBounds_toArray, List.set_cons_zero, List.set_cons_succ, i64_w, i32_w]
            rfl
          refine pure_ (i := 9) (N := some 61) (v := ?_) (a' := ?_) #[true, true, true, true, true, true, false, true, true, true, false, false, false, false] rfl rfl (any_of HT_.out (by kernel_rfl)) (fun _ _ _ h => h) (Or.inl ⟨by rfl, ?_⟩) ?_ ?_
          rotate_left
          · intro w'
            go_simp
            with_reducible rfl
          rotate_left
          · simp only [Act.put, List.setIfInBounds_toArray, List.set_cons_zero, List.set_cons_succ, i64_w, i32_w]
            rfl
          refine take_ (i := 6) (N := some 58) (v := ?_) (a' := ?_) #[true, true, true, true, true, true, true, true, true, true, false, false, false, false] rfl rfl (take_ofW HT_.out HW_.out (by kernel_rfl)) (fun _ _ _ h => h) (Or.inl ⟨by rfl, ?_⟩) hHeld ?_ ?_
          rotate_left
          · rintro w' ⟨s0, s1, s2⟩
            go_simp
            with_reducible rfl
          rotate_left
          · simp only [Act.put, List.setIfInBounds_toArray, List.set_cons_zero, List.set_cons_succ, i64_w, i32_w]
            rfl
          refine take_ (i := 10) (N := some 62) (v := ?_) (a' := ?_) #[true, true, true, true, true, true, true, true, true, true, true, false, false, false] rfl rfl (take_ofW HT_.out HW_.out (by kernel_rfl)) (fun _ _ _ h => h) (Or.inl ⟨by rfl, ?_⟩) hHeld ?_ ?_
          rotate_left
          · rintro w' ⟨s0, s1, s2⟩
            go_simp
            with_reducible rfl
          rotate_left
          · simp only [Act.put, List.setIfInBounds_toArray, List.set_cons_zero, List.set_cons_succ, i64_w, i32_w]
            rfl
          refine pure_ (i := 11) (N := some 63) (v := ?_) (a' := ?_) #[true, true, true, true, true, true, true, true, true, true, true, true, false, false] rfl rfl (any_of HT_.out (by kernel_rfl)) (fun _ _ _ h => h) (Or.inl ⟨by rfl, ?_⟩) ?_ ?_
          rotate_left
          · intro w'
            go_simp
            with_reducible rfl
          rotate_left
          · simp only [Act.put, List.setIfInBounds_toArray, List.set_cons_zero, List.set_cons_succ, i64_w, i32_w]
            rfl
          refine pure_ (i := 12) (N := some 64) (v := ?_) (a' := ?_) #[true, true, true, true, true, true, true, true, true, true, true, true, true, false] rfl rfl (any_of HT_.out (by kernel_rfl)) (fun _ _ _ h => h) (Or.inl ⟨by rfl, ?_⟩) ?_ ?_
          rotate_left
          · intro w'
            go_simp
            with_reducible rfl
          rotate_left
          · simp only [Act.put, List.setIfInBounds_toArray, List.set_cons_zero, List.set_cons_succ, i64_w, i32_w]
            rfl
          refine pure_ (i := 13) (N := some 65) (v := ?_) (a' := ?_) #[true, true, true, true, true, true, true, true, true, true, true, true, true, true] rfl rfl (any_of HT_.out (by kernel_rfl)) (fun _ _ _ h => h) (Or.inl ⟨by rfl, ?_⟩) ?_ ?_
          rotate_left
          · intro w'
            go_simp
            with_reducible rfl
          rotate_left
          · simp only [Act.put, List.setIfInBounds_toArray, List.set_cons_zero, List.set_cons_succ, i64_w, i32_w]
            rfl
          refine done_ (done_of HT_.out (by kernel_rfl)) ?_
          go_wp2
          go_meet
          case rel => exact ⟨_, ((x1001_1 == (s0_0.size : Int))), (by rfl), H', ⟨by have := HJ1.out; omega⟩, ⟨by repeat ((with_reducible exact HI0.out))⟩, ⟨by repeat ((with_reducible exact HK.out))⟩, ⟨by repeat ((with_reducible exact HB.out))⟩⟩
        · rw [if_neg c21] at H
          have c21b0 : (x4_1 == 0) = false := beq_eq_false_iff_ne.mpr c21
          have c21b1 : (x4_1 != 0) = true := bne_iff_ne.mpr c21
          (skip)
          have H' := Aside0.mk H
          clear H
          go_wp2
          have n0_ := Aside0.mk (IsS67.drew HI0.out)
          have n1_ := Aside0.mk (keep_drew HK.out)
          have n2_ := Aside0.mk (below_drew1 HB.out)
          clear HI0
          clear HK
          clear HB
          have HI0 := n0_
          have HK := n1_
          have HB := n2_
          clear n0_ n1_ n2_
          refine start_ (n := 14) (S := fun w' => True) (ds := []) #[false, false, false, false, false, false, false, false, false, false, false, false, false, false] (by kernel_rfl) rfl rfl trivial (fun hHeld => ?_); refine with_tabW impl_scanner_length.tab8 impl_scanner_length.bits8 (fun HT_ HW_ => ?_)
          generalize wc.drew = w23 at HI0 HK HB hHeld ⊢
          refine pure_ (i := 0) (N := some 52) (v := ?_) (a' := ?_) #[true, false, false, false, false, false, false, false, false, false, false, false, false, false] rfl rfl (any_of HT_.out (by kernel_rfl)) (fun _ _ _ h => h) (Or.inl ⟨by rfl, ?_⟩) ?_ ?_
          rotate_left
          · intro w'
            go_simp
            with_reducible rfl
          rotate_left
          · simp only [Act.put, List.setIfInBounds_toArray, List.set_cons_zero, List.set_cons_succ, i64_w, i32_w]
            rfl
          refine pure_ (i := 1) (N := some 53) (v := ?_) (a' := ?_) #[true, true, false, false, false, false, false, false, false, false, false, false, false, false] rfl rfl (any_of HT_.out (by kernel_rfl)) (fun _ _ _ h => h) (Or.inl ⟨by rfl, ?_⟩) ?_ ?_
          rotate_left
          · intro w'
            go_simp
            with_reducible rfl
          rotate_left
          · simp only [Act.put, List.setIfInBounds_toArray, List.set_cons_zero, List.set_cons_succ, i64_w, i32_w]
            rfl
          refine pure_ (i := 2) (N := some 54) (v := ?_) (a' := ?_) #[true, true, true, false, false, false, false, false, false, false, false, false, false, false] rfl rfl (any_of HT_.out (by kernel_rfl)) (fun _ _ _ h => h) (Or.inl ⟨by rfl, ?_⟩) ?_ ?_
          rotate_left
          · intro w'
            go_simp
            with_reducible rfl
          rotate_left
          · simp only [Act.put, List.setIfInBounds_toArray, List.set_cons_zero, List.set_cons_succ, i64_w, i32_w]
            rfl
          refine pure_ (i := 3) (N := some 55) (v := undef) (a' := ?_) #[true, true, true, true, false, false, false, false, false, false, false, false, false, false] rfl rfl (any_of HT_.out (by kernel_rfl)) (fun _ _ _ h => h) (Or.inr ⟨by rfl, rfl⟩) ?_ ?_
          rotate_left
          · simp only [Act.put, List.setIfInBounds_toArray, List.set_cons_zero, List.set_cons_succ, i64_w, i32_w]
            rfl
          refine pure_ (i := 4) (N := some 56) (v := undef) (a' := ?_) #[true, true, true, true, true, false, false, false, false, false, false, false, false, false] rfl rfl (any_of HT_.out (by kernel_rfl)) (fun _ _ _ h => h) (Or.inr ⟨by rfl, rfl⟩) ?_ ?_
          rotate_left
          · simp only [Act.put, List.setIfInBounds_toArray, List.set_cons_zero, List.set_cons_succ, i64_w, i32_w]
            rfl
          refine pure_ (i := 5) (N := some 57) (v := undef) (a' := ?_) #[true, true, true, true, true, true, false, false, false, false, false, false, false, false] rfl rfl (any_of HT_.out (by kernel_rfl)) (fun _ _ _ h => h) (Or.inr ⟨by rfl, rfl⟩) ?_ ?_
          rotate_left
          · simp only [Act.put, List.setIfInBounds_toArray, List.set_cons_zero, List.set_cons_succ, i64_w, i32_w]
            rfl
          refine pure_ (i := 6) (N := some 58) (v := undef) (a' := ?_) #[true, true, true, true, true, true, true, false, false, false, false, false, false, false] rfl rfl (any_of HT_.out (by kernel_rfl)) (fun _ _ _ h => h) (Or.inr ⟨by rfl, rfl⟩) ?_ ?_
          rotate_left
          · simp only [Act.put, List.setIfInBounds_toArray, List.set_cons_zero, List.set_cons_succ, i64_w, i32_w]
            rfl
          refine pure_ (i := 7) (N := some 59) (v := undef) (a' := ?_) #[true, true, true, true, true, true, true, true, false, false, false, false, false, false] rfl rfl (any_of HT_.out (by kernel_rfl)) (fun _ _ _ h => h) (Or.inr ⟨by rfl, rfl⟩) ?_ ?_
          rotate_left
          · simp only [Act.put, List.setIfInBounds_toArray, List.set_cons_zero, List.set_cons_succ, i64_w, i32_w]
            rfl
          refine pure_ (i := 8) (N := some 60) (v := undef) (a' := ?_) #[true, true, true, true, true, true, true, true, true, false, false, false, false, false] rfl rfl (any_of HT_.out (by kernel_rfl)) (fun _ _ _ h => h) (Or.inr ⟨by rfl, rfl⟩) ?_ ?_
          rotate_left
          · simp only [Act.put, List.setIfInBounds_toArray, List.set_cons_zero, List.set_cons_succ, i64_w, i32_w]
            rfl
          refine pure_ (i := 9) (N := some 61) (v := undef) (a' := ?_) #[true, true, true, true, true, true, true, true, true, true, false, false, false, false] rfl rfl (any_of HT_.out (by kernel_rfl)) (fun _ _ _ h => h) (Or.inr ⟨by rfl, rfl⟩) ?_ ?_
          rotate_left
          · simp only [Act.put, List.setIfInBounds_toArray, List.set_cons_zero, List.set_cons_succ, i64_w, i32_w]
            rfl
          refine pure_ (i := 10) (N := some 62) (v := undef) (a' := ?_) #[true, true, true, true, true, true, true, true, true, true, true, false, false, false] rfl rfl (any_of HT_.out (by kernel_rfl)) (fun _ _ _ h => h) (Or.inr ⟨by rfl, rfl⟩) ?_ ?_
          rotate_left
          · simp only [Act.put, List.setIfInBounds_toArray, List.set_cons_zero, List.set_cons_succ, i64_w, i32_w]
            rfl
          refine pure_ (i := 11) (N := some 63) (v := undef) (a' := ?_) #[true, true, true, true, true, true, true, true, true, true, true, true, false, false] rfl rfl (any_of HT_.out (by kernel_rfl)) (fun _ _ _ h => h) (Or.inr ⟨by rfl, rfl⟩) ?_ ?_
          rotate_left
          · simp only [Act.put, List.setIfInBounds_toArray, List.set_cons_zero, List.set_cons_succ, i64_w, i32_w]
            rfl
          refine pure_ (i := 12) (N := some 64) (v := undef) (a' := ?_) #[true, true, true, true, true, true, true, true, true, true, true, true, true, false] rfl rfl (any_of HT_.out (by kernel_rfl)) (fun _ _ _ h => h) (Or.inr ⟨by rfl, rfl⟩) ?_ ?_
          rotate_left
          · simp only [Act.put, List.setIfInBounds_toArray, List.set_cons_zero, List.set_cons_succ, i64_w, i32_w]
            rfl
          refine pure_ (i := 13) (N := some 65) (v := ?_) (a' := ?_) #[true, true, true, true, true, true, true, true, true, true, true, true, true, true] rfl rfl (any_of HT_.out (by kernel_rfl)) (fun _ _ _ h => h) (Or.inl ⟨by rfl, ?_⟩) ?_ ?_
          rotate_left
          · intro w'
            go_simp
            with_reducible rfl
          rotate_left
          · simp only [Act.put, List.setIfInBounds_toArray, List.set_cons_zero, List.set_cons_succ, i64_w, i32_w]
            rfl
          refine done_ (done_of HT_.out (by kernel_rfl)) ?_
          go_wp2
          go_meet
          case rel => exact ⟨_, (false), (by rfl), H', ⟨by have := HJ1.out; omega⟩, ⟨by repeat ((with_reducible exact HI0.out))⟩, ⟨by repeat ((with_reducible exact HK.out))⟩, ⟨by repeat ((with_reducible exact HB.out))⟩⟩
      case rest =>
        clear HC20
        obtain ⟨kq, x65_19, rfl, HA, HJ19, HI0, HK, HB⟩ := hcut
        cases kq with
        | zero => exact absurd HA.out (by simp [impl_scanner_length.j3])
        | succ kj19 =>
          have H := HA.out
          clear HA
          simp only [impl_scanner_length.j3] at H
          by_cases c24 : x65_19 = true
          · subst c24
            have H1 : (some (x3_1, s0_0, x1001_1, 1)) = some (r1, r2, r3, r4) := by rw [if_pos rfl] at H; exact H
            clear H
            have H := H1
            clear H1
            simp only [Option.some.injEq, Prod.mk.injEq] at H
            obtain ⟨rfl, rfl, rfl, rfl⟩ := H
            obtain ⟨HGz25, hgz25⟩ := HI0.out
            have hcz25_0 := cellS67_0 HGz25
            have hcz25_1 := cellS67_1 HGz25
            have hcz25_2 := cellS67_2 HGz25
            have hfz25_0 := blk_frozen HGz25 0
            have hfz25_1 := blk_frozen HGz25 1
            have hfz25_2 := blk_frozen HGz25 2
            clear HGz25 hgz25
            go_wp2
            go_ret
            exact ⟨by rfl, by repeat ((with_reducible first | exact HI0.out | apply IsS67.set_2)), by repeat ((with_reducible first | exact HB.out | refine below_set ?_ (IsS67.ge HI0.out))), by repeat ((with_reducible first | exact HK.out | apply KeepBut.set_))⟩
          · replace c24 := Bool.eq_false_iff.mpr c24
            subst c24
            have H1 : (if x4_1 = 0 then (some (x3_1, s0_0, x1001_1, 2)) else (some (x3_1, s0_0, x1001_1, s0_2))) = some (r1, r2, r3, r4) := by rw [if_neg (show ¬ (false = true) by decide)] at H; exact H
            clear H
            have H := H1
            clear H1
            by_cases c26 : x4_1 = 0
            · rw [if_pos c26] at H
              have c26b0 : (x4_1 == 0) = true := beq_iff_eq.mpr c26
              have c26b1 : (x4_1 != 0) = false := bne_eq_false_iff_eq.mpr c26
              clear c26
              simp only [Option.some.injEq, Prod.mk.injEq] at H
              obtain ⟨rfl, rfl, rfl, rfl⟩ := H
              obtain ⟨HGz27, hgz27⟩ := HI0.out
              have hcz27_0 := cellS67_0 HGz27
              have hcz27_1 := cellS67_1 HGz27
              have hcz27_2 := cellS67_2 HGz27
              have hfz27_0 := blk_frozen HGz27 0
              have hfz27_1 := blk_frozen HGz27 1
              have hfz27_2 := blk_frozen HGz27 2
              clear HGz27 hgz27
              go_wp2
              go_ret
              exact ⟨by rfl, by repeat ((with_reducible first | exact HI0.out | apply IsS67.set_2)), by repeat ((with_reducible first | exact HB.out | refine below_set ?_ (IsS67.ge HI0.out))), by repeat ((with_reducible first | exact HK.out | apply KeepBut.set_))⟩
            · rw [if_neg c26] at H
              have c26b0 : (x4_1 == 0) = false := beq_eq_false_iff_ne.mpr c26
              have c26b1 : (x4_1 != 0) = true := bne_iff_ne.mpr c26
              simp only [Option.some.injEq, Prod.mk.injEq] at H
              obtain ⟨rfl, rfl, rfl, rfl⟩ := H
              go_wp2
              go_ret
              exact ⟨by rfl, by repeat ((with_reducible exact HI0.out)), by repeat ((with_reducible exact HB.out)), by repeat ((with_reducible exact HK.out))⟩
/-! ### stringslite_HasPrefix: function 70 -/
def stringslite_HasPrefix.f (a0 : ByteArray) (a1 : ByteArray) : Option (Bool) := if (a0.size : Int) ≥ (a1.size : Int) then (if 0 ≤ (a1.size : Int) then (if (a1.size : Int) ≤ (a0.size : Int) then (some ((a0.extract 0 ((a1.size : Int) : Int).toNat).toList == a1.toList)) else (none)) else (none)) else (some false)
set_option maxHeartbeats 8000000 in
set_option maxRecDepth 100000 in
theorem stringslite_HasPrefix.calls (a0 : ByteArray) (a1 : ByteArray) (r : Bool) (w : World) (h : stringslite_HasPrefix.f a0 a1 = some r) :
    Calls Try.prog 70 #[.string a0, .string a1] w fun e w' => e = .returned (.bool r) ∧ w = w' := by
  have H : (if (a0.size : Int) ≥ (a1.size : Int) then (if 0 ≤ (a1.size : Int) then (if (a1.size : Int) ≤ (a0.size : Int) then (some ((a0.extract 0 ((a1.size : Int) : Int).toNat).toList == a1.toList)) else (none)) else (none)) else (some false)) = some r := h
  clear h
  by_cases c3 : (a0.size : Int) ≥ (a1.size : Int)
  · rw [if_pos c3] at H
    have c3b0 : decide ((a1.size : Int) ≤ (a0.size : Int)) = true := decide_eq_true c3
    have c3b1 : decide (a1.size ≤ a0.size) = true := decide_eq_true (Int.ofNat_le.mp c3)
    clear c3
    by_cases c4 : 0 ≤ (a1.size : Int)
    · rw [if_pos c4] at H
      have c4b0 := eq_true c4
      have c4b1 : decide (0 ≤ (a1.size : Int)) = true := decide_eq_true c4
      clear c4
      by_cases c5 : (a1.size : Int) ≤ (a0.size : Int)
      · rw [if_pos c5] at H
        have c5b0 := eq_true c5
        have c5b1 : decide ((a1.size : Int) ≤ (a0.size : Int)) = true := decide_eq_true c5
        clear c5
        obtain rfl := Option.some.inj H
        go_enter Try.func70, Try.ntmps70
        go_wp2
        go_ret
        exact ⟨by rfl, rfl⟩
      · rw [if_neg c5] at H
        exact absurd H (by simp)
    · rw [if_neg c4] at H
      exact absurd H (by simp)
  · rw [if_neg c3] at H
    have c3b0 : decide ((a1.size : Int) ≤ (a0.size : Int)) = false := decide_eq_false c3
    have c3b1 : decide (a1.size ≤ a0.size) = false := decide_eq_false (fun h => c3 (Int.ofNat_le.mpr h))
    clear c3
    obtain rfl := Option.some.inj H
    go_enter Try.func70, Try.ntmps70
    go_wp2
    go_ret
    exact ⟨by rfl, rfl⟩
/-! ### strings_HasPrefix: function 59 -/
def strings_HasPrefix.f (a0 : ByteArray) (a1 : ByteArray) : Option (Bool) := (stringslite_HasPrefix.f a0 a1).bind fun t155 => (some t155)
set_option maxHeartbeats 8000000 in
set_option maxRecDepth 100000 in
theorem strings_HasPrefix.calls (a0 : ByteArray) (a1 : ByteArray) (r : Bool) (w : World) (h : strings_HasPrefix.f a0 a1 = some r) :
    Calls Try.prog 59 #[.string a0, .string a1] w fun e w' => e = .returned (.bool r) ∧ w = w' := by
  have H : ((stringslite_HasPrefix.f a0 a1).bind fun t155 => (some t155)) = some r := h
  clear h
  replace H := Option.bind_eq_some_iff.mp H
  obtain ⟨t155, A30, H⟩ := H
  replace H : (some t155) = some r := H
  have A3 := Aside0.mk A30
  clear A30
  obtain rfl := Option.some.inj H
  go_enter Try.func59, Try.ntmps59
  go_wp2_with (((with_reducible refine gate_callee (f := 70) rfl ?_); refine goesL_ (some 7) rfl rfl Try.func70 (by kernel_rfl) rfl #[.string a0, .string a1] rfl (by (try simp only [List.map_toArray, List.map_cons, List.map_nil]); rfl) ?_; (with_reducible refine (stringslite_HasPrefix.calls a0 a1 t155 _ A3.out).mono ?_); rintro e w' ⟨rfl, rfl⟩; refine ⟨_, rfl, ?_⟩))
  go_ret
  exact ⟨by rfl, rfl⟩
/-! ### impl_scanner_want: function 40 -/
def impl_scanner_want.f (s0_0 : ByteArray) (s0_1 : Int) (s0_2 : Int) (a1 : ByteArray) : Option (ByteArray × Int × Int) := if 0 ≤ s0_1 then (if s0_1 ≤ (s0_0.size : Int) then (if s0_2 = 0 then ((strings_HasPrefix.f (s0_0.extract (s0_1 : Int).toNat s0_0.size) a1).bind fun t156 => (if t156 = true then (some (s0_0, wrap64 (s0_1 + (a1.size : Int)), s0_2)) else ((strings_HasPrefix.f a1 (s0_0.extract (s0_1 : Int).toNat s0_0.size)).bind fun t157 => (if t157 = true then (some (s0_0, s0_1, 1)) else (some (s0_0, s0_1, 2)))))) else (some (s0_0, s0_1, s0_2))) else (none)) else (none)
set_option maxHeartbeats 8000000 in
set_option maxRecDepth 100000 in
theorem impl_scanner_want.calls (g : Nat) (s0_0 : ByteArray) (s0_1 : Int) (s0_2 : Int) (a1 : ByteArray) (r1 : ByteArray) (r2 : Int) (r3 : Int) (w0 w : World) (hI : IsS67 w0 w g s0_0 s0_1 s0_2) (hB : Below w0.heap.size w0 w) (h : impl_scanner_want.f s0_0 s0_1 s0_2 a1 = some (r1, r2, r3)) :
    Calls Try.prog 40 #[.pointer (some ⟨g, 0, none⟩), .string a1] w fun e w' => e = .returned (.tuple #[]) ∧ IsS67 w0 w' g r1 r2 r3 ∧ Below w0.heap.size w0 w' ∧ KeepBut w w' g none := by
  have HI0 := Aside0.mk hI
  have HK := Aside0.mk (KeepBut.refl w g none)
  have HL := Aside0.mk hB.size
  clear hI
  have HW0 := Aside0.mk hB.size
  have HB := Aside0.mk hB
  clear hB
  have H : (if 0 ≤ s0_1 then (if s0_1 ≤ (s0_0.size : Int) then (if s0_2 = 0 then ((strings_HasPrefix.f (s0_0.extract (s0_1 : Int).toNat s0_0.size) a1).bind fun t156 => (if t156 = true then (some (s0_0, wrap64 (s0_1 + (a1.size : Int)), s0_2)) else ((strings_HasPrefix.f a1 (s0_0.extract (s0_1 : Int).toNat s0_0.size)).bind fun t157 => (if t157 = true then (some (s0_0, s0_1, 1)) else (some (s0_0, s0_1, 2)))))) else (some (s0_0, s0_1, s0_2))) else (none)) else (none)) = some (r1, r2, r3) := h
  clear h
  by_cases c3 : 0 ≤ s0_1
  · rw [if_pos c3] at H
    have c3b0 := eq_true c3
    have c3b1 : decide (0 ≤ s0_1) = true := decide_eq_true c3
    clear c3
    by_cases c4 : s0_1 ≤ (s0_0.size : Int)
    · rw [if_pos c4] at H
      have c4b0 := eq_true c4
      have c4b1 : decide (s0_1 ≤ (s0_0.size : Int)) = true := decide_eq_true c4
      clear c4
      by_cases c5 : s0_2 = 0
      · rw [if_pos c5] at H
        have c5b0 : (s0_2 == 0) = true := beq_iff_eq.mpr c5
        have c5b1 : (s0_2 != 0) = false := bne_eq_false_iff_eq.mpr c5
        clear c5
        replace H := Option.bind_eq_some_iff.mp H
        obtain ⟨t156, A60, H⟩ := H
        replace H : (if t156 = true then (some (s0_0, wrap64 (s0_1 + (a1.size : Int)), s0_2)) else ((strings_HasPrefix.f a1 (s0_0.extract (s0_1 : Int).toNat s0_0.size)).bind fun t157 => (if t157 = true then (some (s0_0, s0_1, 1)) else (some (s0_0, s0_1, 2))))) = some (r1, r2, r3) := H
        have A6 := Aside0.mk A60
        clear A60
        have HS7 := Aside0.mk H
        clear H
        obtain ⟨HGz8, hgz8⟩ := HI0.out
        have hcz8_0 := cellS67_0 HGz8
        have hcz8_1 := cellS67_1 HGz8
        have hcz8_2 := cellS67_2 HGz8
        have hfz8_0 := blk_frozen HGz8 0
        have hfz8_1 := blk_frozen HGz8 1
        have hfz8_2 := blk_frozen HGz8 2
        clear HGz8 hgz8
        go_enter Try.func40, Try.ntmps40
        go_upto_if 23 with (first | (go_at_call 59; (with_reducible refine (strings_HasPrefix.calls (s0_0.extract (s0_1 : Int).toNat s0_0.size) a1 t156 _ A6.out).mono ?_); rintro e w' ⟨rfl, rfl⟩; (try exact ⟨rfl, _, rfl⟩)) )
        repeat (go_quiet (first | (go_at_call 59; (with_reducible refine (strings_HasPrefix.calls (s0_0.extract (s0_1 : Int).toNat s0_0.size) a1 t156 _ A6.out).mono ?_); rintro e w' ⟨rfl, rfl⟩; (try exact ⟨rfl, _, rfl⟩)) ); go_upto_if 23 with ((go_at_call 59; (with_reducible refine (strings_HasPrefix.calls (s0_0.extract (s0_1 : Int).toNat s0_0.size) a1 t156 _ A6.out).mono ?_); rintro e w' ⟨rfl, rfl⟩; (try exact ⟨rfl, _, rfl⟩))))
        (try simp only [Act.put, List.setIfInBounds_toArray, List.set_cons_zero, List.set_cons_succ])
        have H := HS7.out
        clear HS7
        by_cases c9 : t156 = true
        · subst c9
          have H1 : (some (s0_0, wrap64 (s0_1 + (a1.size : Int)), s0_2)) = some (r1, r2, r3) := by rw [if_pos rfl] at H; exact H
          clear H
          have H := H1
          clear H1
          simp only [Option.some.injEq, Prod.mk.injEq] at H
          obtain ⟨rfl, rfl, rfl⟩ := H
          obtain ⟨HGz10, hgz10⟩ := HI0.out
          have hcz10_0 := cellS67_0 HGz10
          have hcz10_1 := cellS67_1 HGz10
          have hcz10_2 := cellS67_2 HGz10
          have hfz10_0 := blk_frozen HGz10 0
          have hfz10_1 := blk_frozen HGz10 1
          have hfz10_2 := blk_frozen HGz10 2
          clear HGz10 hgz10
          go_wp2
          go_end0
          exact ⟨by rfl, by repeat ((with_reducible first | exact HI0.out | apply IsS67.drewN | apply IsS67.set_1)), by repeat ((with_reducible first | exact HB.out | apply pw_below_drewN | refine below_set ?_ (IsS67.ge HI0.out))), by repeat ((with_reducible first | exact HK.out | apply KeepBut.set_ | apply keep_drewN))⟩
        · replace c9 := Bool.eq_false_iff.mpr c9
          subst c9
          have H1 : ((strings_HasPrefix.f a1 (s0_0.extract (s0_1 : Int).toNat s0_0.size)).bind fun t157 => (if t157 = true then (some (s0_0, s0_1, 1)) else (some (s0_0, s0_1, 2)))) = some (r1, r2, r3) := by rw [if_neg (show ¬ (false = true) by decide)] at H; exact H
          clear H
          have H := H1
          clear H1
          replace H := Option.bind_eq_some_iff.mp H
          obtain ⟨t157, A110, H⟩ := H
          replace H : (if t157 = true then (some (s0_0, s0_1, 1)) else (some (s0_0, s0_1, 2))) = some (r1, r2, r3) := H
          have A11 := Aside0.mk A110
          clear A110
          have HS12 := Aside0.mk H
          clear H
          go_upto_if 36 with ((go_at_call 59; (with_reducible refine (strings_HasPrefix.calls a1 (s0_0.extract (s0_1 : Int).toNat s0_0.size) t157 _ A11.out).mono ?_); rintro e w' ⟨rfl, rfl⟩; (try exact ⟨rfl, _, rfl⟩)))
          (try simp only [Act.put, List.setIfInBounds_toArray, List.set_cons_zero, List.set_cons_succ])
          have H := HS12.out
          clear HS12
          by_cases c13 : t157 = true
          · subst c13
            have H1 : (some (s0_0, s0_1, 1)) = some (r1, r2, r3) := by rw [if_pos rfl] at H; exact H
            clear H
            have H := H1
            clear H1
            simp only [Option.some.injEq, Prod.mk.injEq] at H
            obtain ⟨rfl, rfl, rfl⟩ := H
            obtain ⟨HGz14, hgz14⟩ := HI0.out
            have hcz14_0 := cellS67_0 HGz14
            have hcz14_1 := cellS67_1 HGz14
            have hcz14_2 := cellS67_2 HGz14
            have hfz14_0 := blk_frozen HGz14 0
            have hfz14_1 := blk_frozen HGz14 1
            have hfz14_2 := blk_frozen HGz14 2
            clear HGz14 hgz14
            go_wp2
            go_end0
            exact ⟨by rfl, by repeat ((with_reducible first | exact HI0.out | apply IsS67.drewN | apply IsS67.set_2)), by repeat ((with_reducible first | exact HB.out | apply pw_below_drewN | refine below_set ?_ (IsS67.ge HI0.out))), by repeat ((with_reducible first | exact HK.out | apply KeepBut.set_ | apply keep_drewN))⟩
          · replace c13 := Bool.eq_false_iff.mpr c13
            subst c13
            have H1 : (some (s0_0, s0_1, 2)) = some (r1, r2, r3) := by rw [if_neg (show ¬ (false = true) by decide)] at H; exact H
            clear H
            have H := H1
            clear H1
            simp only [Option.some.injEq, Prod.mk.injEq] at H
            obtain ⟨rfl, rfl, rfl⟩ := H
            obtain ⟨HGz15, hgz15⟩ := HI0.out
            have hcz15_0 := cellS67_0 HGz15
            have hcz15_1 := cellS67_1 HGz15
            have hcz15_2 := cellS67_2 HGz15
            have hfz15_0 := blk_frozen HGz15 0
            have hfz15_1 := blk_frozen HGz15 1
            have hfz15_2 := blk_frozen HGz15 2
            clear HGz15 hgz15
            go_wp2
            go_end0
            exact ⟨by rfl, by repeat ((with_reducible first | exact HI0.out | apply IsS67.drewN | apply IsS67.set_2)), by repeat ((with_reducible first | exact HB.out | apply pw_below_drewN | refine below_set ?_ (IsS67.ge HI0.out))), by repeat ((with_reducible first | exact HK.out | apply KeepBut.set_ | apply keep_drewN))⟩
      · rw [if_neg c5] at H
        have c5b0 : (s0_2 == 0) = false := beq_eq_false_iff_ne.mpr c5
        have c5b1 : (s0_2 != 0) = true := bne_iff_ne.mpr c5
        simp only [Option.some.injEq, Prod.mk.injEq] at H
        obtain ⟨rfl, rfl, rfl⟩ := H
        obtain ⟨HGz16, hgz16⟩ := HI0.out
        have hcz16_0 := cellS67_0 HGz16
        have hcz16_1 := cellS67_1 HGz16
        have hcz16_2 := cellS67_2 HGz16
        have hfz16_0 := blk_frozen HGz16 0
        have hfz16_1 := blk_frozen HGz16 1
        have hfz16_2 := blk_frozen HGz16 2
        clear HGz16 hgz16
        go_enter Try.func40, Try.ntmps40
        go_wp2
        repeat (go_quiet (fail); try go_wp2)
        go_end0
        exact ⟨by rfl, by repeat ((with_reducible first | exact HI0.out | apply IsS67.drewN)), by repeat ((with_reducible first | exact HB.out | apply pw_below_drewN)), by repeat ((with_reducible first | exact HK.out | apply keep_drewN))⟩
    · rw [if_neg c4] at H
      exact absurd H (by simp)
  · rw [if_neg c3] at H
    exact absurd H (by simp)
/-! ### impl_ReadChunks: function 19 -/
mutual
def impl_ReadChunks.l0 : Nat → ByteArray → ByteArray → ByteArray → Int → Int → Option (ByteArray × Int × Int)
  | 0, _, _, _, _, _ => none
  | k + 1, x0, x6, x159000, x159001, x159002 => if x159002 = 0 then ((impl_scanner_length.f k x159000 x159001 x159002).bind fun bt159 => ((impl_scanner_want.f bt159.2.1 bt159.2.2.1 bt159.2.2.2 (⟨#[13, 10]⟩ : ByteArray)).bind fun bt163 => (if bt163.2.2 = 0 then (impl_ReadChunks.j1 k x0 x6 bt159.1 (bt159.1 == 0) bt163.1 bt163.2.1 bt163.2.2) else (impl_ReadChunks.j1 k x0 x6 bt159.1 false bt163.1 bt163.2.1 bt163.2.2)))) else (some ((⟨#[]⟩ : ByteArray), 0, x159002))
def impl_ReadChunks.j1 : Nat → ByteArray → ByteArray → Int → Bool → ByteArray → Int → Int → Option (ByteArray × Int × Int)
  | 0, _, _, _, _, _, _, _ => none
  | k + 1, x0, x6, x7, x28, x159000, x159001, x159002 => if x28 = true then ((impl_scanner_want.f x159000 x159001 x159002 (⟨#[13, 10]⟩ : ByteArray)).bind fun bt166 => (if bt166.2.2 = 0 then (some (x6, bt166.2.1, 0)) else (some ((⟨#[]⟩ : ByteArray), 0, bt166.2.2)))) else (if x159002 = 0 then (impl_ReadChunks.j2 k x0 x6 x7 (decide ((wrap64 ((x6.size : Int) + x7)) > 400)) x159000 x159001 x159002) else (impl_ReadChunks.j2 k x0 x6 x7 false x159000 x159001 x159002))
def impl_ReadChunks.j2 : Nat → ByteArray → ByteArray → Int → Bool → ByteArray → Int → Int → Option (ByteArray × Int × Int)
  | 0, _, _, _, _, _, _, _ => none
  | k + 1, x0, x6, x7, x52, x159000, x159001, x159002 => if x52 = true then (impl_ReadChunks.j3 k x0 x6 x7 x159000 x159001 2) else (impl_ReadChunks.j3 k x0 x6 x7 x159000 x159001 x159002)
def impl_ReadChunks.j3 : Nat → ByteArray → ByteArray → Int → ByteArray → Int → Int → Option (ByteArray × Int × Int)
  | 0, _, _, _, _, _, _ => none
  | k + 1, x0, x6, x7, x159000, x159001, x159002 => if x159002 = 0 then (impl_ReadChunks.j4 k x0 x6 x7 (decide (x7 > (wrap64 ((x0.size : Int) - x159001)))) x159000 x159001 x159002) else (impl_ReadChunks.j4 k x0 x6 x7 false x159000 x159001 x159002)
def impl_ReadChunks.j4 : Nat → ByteArray → ByteArray → Int → Bool → ByteArray → Int → Int → Option (ByteArray × Int × Int)
  | 0, _, _, _, _, _, _, _ => none
  | k + 1, x0, x6, x7, x71, x159000, x159001, x159002 => if x71 = true then (impl_ReadChunks.l0 k x0 x6 x159000 x159001 1) else (if x159002 = 0 then (if 0 ≤ x159001 then (if x159001 ≤ (wrap64 (x159001 + x7)) then (if (wrap64 (x159001 + x7)) ≤ (x0.size : Int) then (if x6.size + (x0.extract (x159001 : Int).toNat ((wrap64 (x159001 + x7)) : Int).toNat).size ≤ 9223372036854775807 then ((impl_scanner_want.f x159000 (wrap64 (x159001 + x7)) x159002 (⟨#[13, 10]⟩ : ByteArray)).bind fun bt169 => (impl_ReadChunks.l0 k x0 (x6 ++ (x0.extract (x159001 : Int).toNat ((wrap64 (x159001 + x7)) : Int).toNat)) bt169.1 bt169.2.1 bt169.2.2)) else (none)) else (none)) else (none)) else (none)) else (impl_ReadChunks.l0 k x0 x6 x159000 x159001 x159002))
end
def impl_ReadChunks.f (k : Nat) (a0 : ByteArray) : Option (ByteArray × Int × Int) := impl_ReadChunks.l0 k a0 (⟨#[]⟩ : ByteArray) a0 0 0
theorem impl_ReadChunks.mono_l : ∀ k, (∀ y0 y1 y2 y3 y4, LeO (impl_ReadChunks.l0 k y0 y1 y2 y3 y4) (impl_ReadChunks.l0 (k + 1) y0 y1 y2 y3 y4)) ∧ (∀ y0 y1 y2 y3 y4 y5 y6, LeO (impl_ReadChunks.j1 k y0 y1 y2 y3 y4 y5 y6) (impl_ReadChunks.j1 (k + 1) y0 y1 y2 y3 y4 y5 y6)) ∧ (∀ y0 y1 y2 y3 y4 y5 y6, LeO (impl_ReadChunks.j2 k y0 y1 y2 y3 y4 y5 y6) (impl_ReadChunks.j2 (k + 1) y0 y1 y2 y3 y4 y5 y6)) ∧ (∀ y0 y1 y2 y3 y4 y5, LeO (impl_ReadChunks.j3 k y0 y1 y2 y3 y4 y5) (impl_ReadChunks.j3 (k + 1) y0 y1 y2 y3 y4 y5)) ∧ (∀ y0 y1 y2 y3 y4 y5 y6, LeO (impl_ReadChunks.j4 k y0 y1 y2 y3 y4 y5 y6) (impl_ReadChunks.j4 (k + 1) y0 y1 y2 y3 y4 y5 y6))
  | 0 => ⟨fun _ _ _ _ _ r h => by simp [impl_ReadChunks.l0] at h, fun _ _ _ _ _ _ _ r h => by simp [impl_ReadChunks.j1] at h, fun _ _ _ _ _ _ _ r h => by simp [impl_ReadChunks.j2] at h, fun _ _ _ _ _ _ r h => by simp [impl_ReadChunks.j3] at h, fun _ _ _ _ _ _ _ r h => by simp [impl_ReadChunks.j4] at h⟩
  | k + 1 => by
    obtain ⟨ih0, ih1, ih2, ih3, ih4⟩ := impl_ReadChunks.mono_l k
    refine ⟨?_, ?_, ?_, ?_, ?_⟩
    · intro y0 y1 y2 y3 y4
      unfold impl_ReadChunks.l0
      repeat' first | (with_reducible exact ih1 _ _ _ _ _ _ _) | (with_reducible exact impl_scanner_length.mono _ _ _ _) | (with_reducible exact LeO.refl _) | (with_reducible refine LeO.ite ?_ ?_) | (with_reducible refine LeO.bind ?_ (fun _ => ?_))
    · intro y0 y1 y2 y3 y4 y5 y6
      unfold impl_ReadChunks.j1
      repeat' first | (with_reducible exact ih2 _ _ _ _ _ _ _) | (with_reducible exact LeO.refl _) | (with_reducible refine LeO.ite ?_ ?_)
    · intro y0 y1 y2 y3 y4 y5 y6
      unfold impl_ReadChunks.j2
      repeat' first | (with_reducible exact ih3 _ _ _ _ _ _) | (with_reducible refine LeO.ite ?_ ?_)
    · intro y0 y1 y2 y3 y4 y5
      unfold impl_ReadChunks.j3
      repeat' first | (with_reducible exact ih4 _ _ _ _ _ _ _) | (with_reducible refine LeO.ite ?_ ?_)
    · intro y0 y1 y2 y3 y4 y5 y6
      unfold impl_ReadChunks.j4
      repeat' first | (with_reducible exact ih0 _ _ _ _ _) | (with_reducible exact LeO.refl _) | (with_reducible refine LeO.ite ?_ ?_) | (with_reducible refine LeO.bind ?_ (fun _ => ?_))
theorem impl_ReadChunks.mono : ∀ a0 k, LeO (impl_ReadChunks.f k a0) (impl_ReadChunks.f (k + 1) a0) := by
  intro a0 k
  obtain ⟨ih0, ih1, ih2, ih3, ih4⟩ := impl_ReadChunks.mono_l k
  unfold impl_ReadChunks.f
  repeat' (with_reducible exact ih0 _ _ _ _ _)
set_option maxHeartbeats 8000000 in
set_option maxRecDepth 100000 in
theorem impl_ReadChunks.calls (k : Nat) (a0 : ByteArray) (r1 : ByteArray) (r2 : Int) (r3 : Int) (w : World) (h : impl_ReadChunks.f k a0 = some (r1, r2, r3)) :
    Calls Try.prog 19 #[.string a0] w fun e w' => e = .returned (.tuple #[.string r1, .int .i64 r2, .int .i64 r3]) ∧ Below w.heap.size w w' := by
  have hu67 := Try.underlying67
  have HB := Aside0.mk (Below.refl w.heap.size w)
  have H : (impl_ReadChunks.l0 k a0 (⟨#[]⟩ : ByteArray) a0 0 0) = some (r1, r2, r3) := h
  clear h
  have H' := Aside0.mk H
  clear H
  go_enter Try.func19, Try.ntmps19
  go_wp2_with (((with_reducible refine gate_dst (N := 10) rfl ?_); (try (refine gate_guard (by rfl) ?_; dsimp only)); refine box_event ?hg (N := 10) ?hd (cs := #[.string a0, .int .i64 0, .int .i64 0]) (t := 67) ?hr ?_; (case hd => rfl); (case hg => rfl); (case hr => (go_simp; done)); intro gb158 hg w2 hbox hb; have n0_ := Aside0.mk (below_step (by repeat ((with_reducible exact HB.out))) hb); have n1_ := Aside0.mk ((show IsS67 w w2 gb158 a0 0 0 from ⟨hbox, (by rw [hg]; exact (below_size (by repeat ((with_reducible exact HB.out)))) : w.heap.size ≤ gb158)⟩)); clear HB; have HB := n0_; have HI158 := n1_; clear n0_ n1_; clear hb hbox hg))
  go_loopg [6] k (fun kq v6 w' => ∃ (x6_1 : ByteArray) (x159000_1 : ByteArray) (x159001_1 : Int) (x159002_1 : Int), v6 = .string x6_1 ∧ Aside0 (impl_ReadChunks.l0 kq a0 x6_1 x159000_1 x159001_1 x159002_1 = some (r1, r2, r3)) ∧ Aside0 (kq ≤ k) ∧ Aside0 (IsS67 w w' gb158 x159000_1 x159001_1 x159002_1) ∧ Aside0 (Below w.heap.size w w'))
  case atStart => exact ⟨((⟨#[]⟩ : ByteArray)), (a0), (0), (0), (by rfl), H', ⟨Nat.le_refl _⟩, ⟨by repeat ((with_reducible exact HI158.out))⟩, ⟨by repeat ((with_reducible exact HB.out))⟩⟩
  case round =>
    clear H'
    obtain ⟨x6_1, x159000_1, x159001_1, x159002_1, rfl, HA, HK1, HI158, HB⟩ := hrel
    cases gk with
    | zero => exact absurd HA.out (by simp [impl_ReadChunks.l0])
    | succ k1 =>
      have H := HA.out
      clear HA
      simp only [impl_ReadChunks.l0] at H
      by_cases c3 : x159002_1 = 0
      · rw [if_pos c3] at H
        have c3b0 : (x159002_1 == 0) = true := beq_iff_eq.mpr c3
        have c3b1 : (x159002_1 != 0) = false := bne_eq_false_iff_eq.mpr c3
        clear c3
        replace H := Option.bind_eq_some_iff.mp H
        obtain ⟨⟨t159, t160, t161, t162⟩, A40, H⟩ := H
        replace H : ((impl_scanner_want.f t160 t161 t162 (⟨#[13, 10]⟩ : ByteArray)).bind fun bt163 => (if bt163.2.2 = 0 then (impl_ReadChunks.j1 k1 a0 x6_1 t159 (t159 == 0) bt163.1 bt163.2.1 bt163.2.2) else (impl_ReadChunks.j1 k1 a0 x6_1 t159 false bt163.1 bt163.2.1 bt163.2.2))) = some (r1, r2, r3) := H
        have A4 := Aside0.mk A40
        clear A40
        replace H := Option.bind_eq_some_iff.mp H
        obtain ⟨⟨t163, t164, t165⟩, A50, H⟩ := H
        replace H : (if t165 = 0 then (impl_ReadChunks.j1 k1 a0 x6_1 t159 (t159 == 0) t163 t164 t165) else (impl_ReadChunks.j1 k1 a0 x6_1 t159 false t163 t164 t165)) = some (r1, r2, r3) := H
        have A5 := Aside0.mk A50
        clear A50
        have HC6 := Aside0.mk H
        clear H
        obtain ⟨HGz7, hgz7⟩ := HI158.out
        have hcz7_0 := cellS67_0 HGz7
        have hcz7_1 := cellS67_1 HGz7
        have hcz7_2 := cellS67_2 HGz7
        have hfz7_0 := blk_frozen HGz7 0
        have hfz7_1 := blk_frozen HGz7 1
        have hfz7_2 := blk_frozen HGz7 2
        clear HGz7 hgz7
        go_upto_region 6 with (first | (go_at_call 39; (with_reducible refine (impl_scanner_length.calls k1 gb158 x159000_1 x159001_1 x159002_1 t159 t160 t161 t162 w _ ?side1 ?side2 A4.out).mono ?_); (case side1 => repeat ((with_reducible exact HI158.out))); (case side2 => repeat ((with_reducible exact HB.out))); rintro e w8 ⟨rfl, hi, hb, hk⟩; have n0_ := Aside0.mk (hb); have n1_ := Aside0.mk (hi); clear HB; clear HI158; have HB := n0_; have HI158 := n1_; clear n0_ n1_; (try clear hb); (try clear hb2); (try clear hk); (try clear hi)) | (go_at_call 40; (with_reducible refine (impl_scanner_want.calls gb158 t160 t161 t162 (⟨#[13, 10]⟩ : ByteArray) t163 t164 t165 w _ ?side1 ?side2 A5.out).mono ?_); (case side1 => repeat ((with_reducible exact HI158.out))); (case side2 => repeat ((with_reducible exact HB.out))); rintro e w9 ⟨rfl, hi, hb, hk⟩; have n0_ := Aside0.mk (hb); have n1_ := Aside0.mk (hi); clear HB; clear HI158; have HB := n0_; have HI158 := n1_; clear n0_ n1_; (try clear hb); (try clear hb2); (try clear hk); (try clear hi)))
        (try simp only [Act.put, List.setIfInBounds_toArray, List.set_cons_zero, List.set_cons_succ])
        go_cut [28] (fun v28 wc => ∃ (kq : Nat) (x28_5 : Bool), v28 = .bool x28_5 ∧ Aside0 (impl_ReadChunks.j1 kq a0 x6_1 t159 x28_5 t163 t164 t165 = some (r1, r2, r3)) ∧ Aside0 (kq ≤ k1) ∧ Aside0 (IsS67 w wc gb158 t163 t164 t165) ∧ Aside0 (Below w.heap.size w wc))
        case first =>
          have H := HC6.out
          clear HC6
          by_cases c10 : t165 = 0
          · rw [if_pos c10] at H
            have c10b0 : (t165 == 0) = true := beq_iff_eq.mpr c10
            have c10b1 : (t165 != 0) = false := bne_eq_false_iff_eq.mpr c10
            clear c10
            (skip)
            have H' := Aside0.mk H
            clear H
            obtain ⟨HGz11, hgz11⟩ := HI158.out
            have hcz11_0 := cellS67_0 HGz11
            have hcz11_1 := cellS67_1 HGz11
            have hcz11_2 := cellS67_2 HGz11
            have hfz11_0 := blk_frozen HGz11 0
            have hfz11_1 := blk_frozen HGz11 1
            have hfz11_2 := blk_frozen HGz11 2
            clear HGz11 hgz11
            go_wp2
            go_meet
            case rel => exact ⟨_, ((t159 == 0)), (by rfl), H', ⟨by have := HK1.out; omega⟩, ⟨by repeat ((with_reducible exact HI158.out))⟩, ⟨by repeat ((with_reducible exact HB.out))⟩⟩
          · rw [if_neg c10] at H
            have c10b0 : (t165 == 0) = false := beq_eq_false_iff_ne.mpr c10
            have c10b1 : (t165 != 0) = true := bne_iff_ne.mpr c10
            (skip)
            have H' := Aside0.mk H
            clear H
            obtain ⟨HGz12, hgz12⟩ := HI158.out
            have hcz12_0 := cellS67_0 HGz12
            have hcz12_1 := cellS67_1 HGz12
            have hcz12_2 := cellS67_2 HGz12
            have hfz12_0 := blk_frozen HGz12 0
            have hfz12_1 := blk_frozen HGz12 1
            have hfz12_2 := blk_frozen HGz12 2
            clear HGz12 hgz12
            go_wp2
            go_meet
            case rel => exact ⟨_, (false), (by rfl), H', ⟨by have := HK1.out; omega⟩, ⟨by repeat ((with_reducible exact HI158.out))⟩, ⟨by repeat ((with_reducible exact HB.out))⟩⟩
        case rest =>
          clear HC6
          clear c3b0
          clear c3b1
          clear hcz7_0
          clear hcz7_1
          clear hcz7_2
          clear hfz7_0
          clear hfz7_1
          clear hfz7_2
          obtain ⟨kq, x28_5, rfl, HA, HJ5, HI158, HB⟩ := hcut
          cases kq with
          | zero => exact absurd HA.out (by simp [impl_ReadChunks.j1])
          | succ kj5 =>
            have H := HA.out
            clear HA
            simp only [impl_ReadChunks.j1] at H
            by_cases c13 : x28_5 = true
            · subst c13
              have H1 : ((impl_scanner_want.f t163 t164 t165 (⟨#[13, 10]⟩ : ByteArray)).bind fun bt166 => (if bt166.2.2 = 0 then (some (x6_1, bt166.2.1, 0)) else (some ((⟨#[]⟩ : ByteArray), 0, bt166.2.2)))) = some (r1, r2, r3) := by rw [if_pos rfl] at H; exact H
              clear H
              have H := H1
              clear H1
              replace H := Option.bind_eq_some_iff.mp H
              obtain ⟨⟨t166, t167, t168⟩, A140, H⟩ := H
              replace H : (if t168 = 0 then (some (x6_1, t167, 0)) else (some ((⟨#[]⟩ : ByteArray), 0, t168))) = some (r1, r2, r3) := H
              have A14 := Aside0.mk A140
              clear A140
              have HS15 := Aside0.mk H
              clear H
              go_upto_if 35 with ((go_at_call 40; (with_reducible refine (impl_scanner_want.calls gb158 t163 t164 t165 (⟨#[13, 10]⟩ : ByteArray) t166 t167 t168 w _ ?side1 ?side2 A14.out).mono ?_); (case side1 => repeat ((with_reducible exact HI158.out))); (case side2 => repeat ((with_reducible exact HB.out))); rintro e w16 ⟨rfl, hi, hb, hk⟩; have n0_ := Aside0.mk (hb); have n1_ := Aside0.mk (hi); clear HB; clear HI158; have HB := n0_; have HI158 := n1_; clear n0_ n1_; (try clear hb); (try clear hb2); (try clear hk); (try clear hi); obtain ⟨HGz17, hgz17⟩ := HI158.out; have hcz17_0 := cellS67_0 HGz17; have hcz17_1 := cellS67_1 HGz17; have hcz17_2 := cellS67_2 HGz17; have hfz17_0 := blk_frozen HGz17 0; have hfz17_1 := blk_frozen HGz17 1; have hfz17_2 := blk_frozen HGz17 2; clear HGz17 hgz17))
              (try simp only [Act.put, List.setIfInBounds_toArray, List.set_cons_zero, List.set_cons_succ])
              have H := HS15.out
              clear HS15
              by_cases c18 : t168 = 0
              · rw [if_pos c18] at H
                have c18b0 : (t168 == 0) = true := beq_iff_eq.mpr c18
                have c18b1 : (t168 != 0) = false := bne_eq_false_iff_eq.mpr c18
                clear c18
                (rw [c18b0])
                simp only [Option.some.injEq, Prod.mk.injEq] at H
                obtain ⟨rfl, rfl, rfl⟩ := H
                obtain ⟨HGz19, hgz19⟩ := HI158.out
                have hcz19_0 := cellS67_0 HGz19
                have hcz19_1 := cellS67_1 HGz19
                have hcz19_2 := cellS67_2 HGz19
                have hfz19_0 := blk_frozen HGz19 0
                have hfz19_1 := blk_frozen HGz19 1
                have hfz19_2 := blk_frozen HGz19 2
                clear HGz19 hgz19
                go_wp2
                repeat (go_quiet (fail); try go_wp2)
                go_ret3
                exact ⟨by rfl, by repeat ((with_reducible first | exact HB.out | apply pw_below_drewN))⟩
              · rw [if_neg c18] at H
                have c18b0 : (t168 == 0) = false := beq_eq_false_iff_ne.mpr c18
                have c18b1 : (t168 != 0) = true := bne_iff_ne.mpr c18
                (rw [c18b0])
                simp only [Option.some.injEq, Prod.mk.injEq] at H
                obtain ⟨rfl, rfl, rfl⟩ := H
                obtain ⟨HGz20, hgz20⟩ := HI158.out
                have hcz20_0 := cellS67_0 HGz20
                have hcz20_1 := cellS67_1 HGz20
                have hcz20_2 := cellS67_2 HGz20
                have hfz20_0 := blk_frozen HGz20 0
                have hfz20_1 := blk_frozen HGz20 1
                have hfz20_2 := blk_frozen HGz20 2
                clear HGz20 hgz20
                go_wp2
                repeat (go_quiet (fail); try go_wp2)
                go_ret3
                exact ⟨by rfl, by repeat ((with_reducible first | exact HB.out | apply pw_below_drewN))⟩
            · replace c13 := Bool.eq_false_iff.mpr c13
              subst c13
              have H1 : (if t165 = 0 then (impl_ReadChunks.j2 kj5 a0 x6_1 t159 (decide ((wrap64 ((x6_1.size : Int) + t159)) > 400)) t163 t164 t165) else (impl_ReadChunks.j2 kj5 a0 x6_1 t159 false t163 t164 t165)) = some (r1, r2, r3) := by rw [if_neg (show ¬ (false = true) by decide)] at H; exact H
              clear H
              have H := H1
              clear H1
              have HC21 := Aside0.mk H
              clear H
              go_upto_region 10 with (fail)
              go_cut [52] (fun v52 wc => ∃ (kq : Nat) (x52_20 : Bool), v52 = .bool x52_20 ∧ Aside0 (impl_ReadChunks.j2 kq a0 x6_1 t159 x52_20 t163 t164 t165 = some (r1, r2, r3)) ∧ Aside0 (kq ≤ kj5) ∧ Aside0 (IsS67 w wc gb158 t163 t164 t165) ∧ Aside0 (Below w.heap.size w wc))
              case first =>
                have H := HC21.out
                clear HC21
                by_cases c22 : t165 = 0
                · rw [if_pos c22] at H
                  have c22b0 : (t165 == 0) = true := beq_iff_eq.mpr c22
                  have c22b1 : (t165 != 0) = false := bne_eq_false_iff_eq.mpr c22
                  clear c22
                  (skip)
                  have H' := Aside0.mk H
                  clear H
                  obtain ⟨HGz23, hgz23⟩ := HI158.out
                  have hcz23_0 := cellS67_0 HGz23
                  have hcz23_1 := cellS67_1 HGz23
                  have hcz23_2 := cellS67_2 HGz23
                  have hfz23_0 := blk_frozen HGz23 0
                  have hfz23_1 := blk_frozen HGz23 1
                  have hfz23_2 := blk_frozen HGz23 2
                  clear HGz23 hgz23
                  go_wp2
                  go_meet
                  case rel => exact ⟨_, (decide ((wrap64 ((x6_1.size : Int) + t159)) > 400)), (by rfl), H', ⟨by have := HK1.out; have := HJ5.out; omega⟩, ⟨by repeat ((with_reducible exact HI158.out))⟩, ⟨by repeat ((with_reducible exact HB.out))⟩⟩
                · rw [if_neg c22] at H
                  have c22b0 : (t165 == 0) = false := beq_eq_false_iff_ne.mpr c22
                  have c22b1 : (t165 != 0) = true := bne_iff_ne.mpr c22
                  (skip)
                  have H' := Aside0.mk H
                  clear H
                  obtain ⟨HGz24, hgz24⟩ := HI158.out
                  have hcz24_0 := cellS67_0 HGz24
                  have hcz24_1 := cellS67_1 HGz24
                  have hcz24_2 := cellS67_2 HGz24
                  have hfz24_0 := blk_frozen HGz24 0
                  have hfz24_1 := blk_frozen HGz24 1
                  have hfz24_2 := blk_frozen HGz24 2
                  clear HGz24 hgz24
                  go_wp2
                  go_meet
                  case rel => exact ⟨_, (false), (by rfl), H', ⟨by have := HK1.out; have := HJ5.out; omega⟩, ⟨by repeat ((with_reducible exact HI158.out))⟩, ⟨by repeat ((with_reducible exact HB.out))⟩⟩
              case rest =>
                clear HC21
                obtain ⟨kq, x52_20, rfl, HA, HJ20, HI158, HB⟩ := hcut
                cases kq with
                | zero => exact absurd HA.out (by simp [impl_ReadChunks.j2])
                | succ kj20 =>
                  have H := HA.out
                  clear HA
                  simp only [impl_ReadChunks.j2] at H
                  have HC25 := Aside0.mk H
                  clear H
                  go_upto_if 52 with (fail)
                  go_cut [] (fun wc => ∃ (kq : Nat) (x159002_24 : Int), Aside0 (impl_ReadChunks.j3 kq a0 x6_1 t159 t163 t164 x159002_24 = some (r1, r2, r3)) ∧ Aside0 (kq ≤ kj20) ∧ Aside0 (IsS67 w wc gb158 t163 t164 x159002_24) ∧ Aside0 (Below w.heap.size w wc))
                  case first =>
                    have H := HC25.out
                    clear HC25
                    by_cases c26 : x52_20 = true
                    · subst c26
                      have H1 : (impl_ReadChunks.j3 kj20 a0 x6_1 t159 t163 t164 2) = some (r1, r2, r3) := by rw [if_pos rfl] at H; exact H
                      clear H
                      have H := H1
                      clear H1
                      have H' := Aside0.mk H
                      clear H
                      obtain ⟨HGz27, hgz27⟩ := HI158.out
                      have hcz27_0 := cellS67_0 HGz27
                      have hcz27_1 := cellS67_1 HGz27
                      have hcz27_2 := cellS67_2 HGz27
                      have hfz27_0 := blk_frozen HGz27 0
                      have hfz27_1 := blk_frozen HGz27 1
                      have hfz27_2 := blk_frozen HGz27 2
                      clear HGz27 hgz27
                      go_wp2
                      go_meet
                      case rel => exact ⟨_, (2), H', ⟨by have := HK1.out; have := HJ5.out; have := HJ20.out; omega⟩, ⟨by repeat ((with_reducible first | exact HI158.out | apply IsS67.set_2))⟩, ⟨by repeat ((with_reducible first | exact HB.out | refine below_set ?_ (IsS67.ge HI158.out)))⟩⟩
                    · replace c26 := Bool.eq_false_iff.mpr c26
                      subst c26
                      have H1 : (impl_ReadChunks.j3 kj20 a0 x6_1 t159 t163 t164 t165) = some (r1, r2, r3) := by rw [if_neg (show ¬ (false = true) by decide)] at H; exact H
                      clear H
                      have H := H1
                      clear H1
                      have H' := Aside0.mk H
                      clear H
                      go_wp2
                      go_meet
                      case rel => exact ⟨_, (t165), H', ⟨by have := HK1.out; have := HJ5.out; have := HJ20.out; omega⟩, ⟨by repeat ((with_reducible exact HI158.out))⟩, ⟨by repeat ((with_reducible exact HB.out))⟩⟩
                  case rest =>
                    clear HC25
                    obtain ⟨kq, x159002_24, HA, HJ24, HI158, HB⟩ := hcut
                    cases kq with
                    | zero => exact absurd HA.out (by simp [impl_ReadChunks.j3])
                    | succ kj24 =>
                      have H := HA.out
                      clear HA
                      simp only [impl_ReadChunks.j3] at H
                      have HC28 := Aside0.mk H
                      clear H
                      go_upto_region 12 with (fail)
                      go_cut [71] (fun v71 wc => ∃ (kq : Nat) (x71_27 : Bool), v71 = .bool x71_27 ∧ Aside0 (impl_ReadChunks.j4 kq a0 x6_1 t159 x71_27 t163 t164 x159002_24 = some (r1, r2, r3)) ∧ Aside0 (kq ≤ kj24) ∧ Aside0 (IsS67 w wc gb158 t163 t164 x159002_24) ∧ Aside0 (Below w.heap.size w wc))
                      case first =>
                        have H := HC28.out
                        clear HC28
                        by_cases c29 : x159002_24 = 0
                        · rw [if_pos c29] at H
                          have c29b0 : (x159002_24 == 0) = true := beq_iff_eq.mpr c29
                          have c29b1 : (x159002_24 != 0) = false := bne_eq_false_iff_eq.mpr c29
                          clear c29
                          (skip)
                          have H' := Aside0.mk H
                          clear H
                          obtain ⟨HGz30, hgz30⟩ := HI158.out
                          have hcz30_0 := cellS67_0 HGz30
                          have hcz30_1 := cellS67_1 HGz30
                          have hcz30_2 := cellS67_2 HGz30
                          have hfz30_0 := blk_frozen HGz30 0
                          have hfz30_1 := blk_frozen HGz30 1
                          have hfz30_2 := blk_frozen HGz30 2
                          clear HGz30 hgz30
                          go_wp2
                          go_meet
                          case rel => exact ⟨_, (decide (t159 > (wrap64 ((a0.size : Int) - t164)))), (by rfl), H', ⟨by have := HK1.out; have := HJ5.out; have := HJ20.out; have := HJ24.out; omega⟩, ⟨by repeat ((with_reducible exact HI158.out))⟩, ⟨by repeat ((with_reducible exact HB.out))⟩⟩
                        · rw [if_neg c29] at H
                          have c29b0 : (x159002_24 == 0) = false := beq_eq_false_iff_ne.mpr c29
                          have c29b1 : (x159002_24 != 0) = true := bne_iff_ne.mpr c29
                          (skip)
                          have H' := Aside0.mk H
                          clear H
                          obtain ⟨HGz31, hgz31⟩ := HI158.out
                          have hcz31_0 := cellS67_0 HGz31
                          have hcz31_1 := cellS67_1 HGz31
                          have hcz31_2 := cellS67_2 HGz31
                          have hfz31_0 := blk_frozen HGz31 0
                          have hfz31_1 := blk_frozen HGz31 1
                          have hfz31_2 := blk_frozen HGz31 2
                          clear HGz31 hgz31
                          go_wp2
                          go_meet
                          case rel => exact ⟨_, (false), (by rfl), H', ⟨by have := HK1.out; have := HJ5.out; have := HJ20.out; have := HJ24.out; omega⟩, ⟨by repeat ((with_reducible exact HI158.out))⟩, ⟨by repeat ((with_reducible exact HB.out))⟩⟩
                      case rest =>
                        clear HC28
                        obtain ⟨kq, x71_27, rfl, HA, HJ27, HI158, HB⟩ := hcut
                        cases kq with
                        | zero => exact absurd HA.out (by simp [impl_ReadChunks.j4])
                        | succ kj27 =>
                          have H := HA.out
                          clear HA
                          simp only [impl_ReadChunks.j4] at H
                          by_cases c32 : x71_27 = true
                          · subst c32
                            have H1 : (impl_ReadChunks.l0 kj27 a0 x6_1 t163 t164 1) = some (r1, r2, r3) := by rw [if_pos rfl] at H; exact H
                            clear H
                            have H := H1
                            clear H1
                            have H' := Aside0.mk H
                            clear H
                            obtain ⟨HGz33, hgz33⟩ := HI158.out
                            have hcz33_0 := cellS67_0 HGz33
                            have hcz33_1 := cellS67_1 HGz33
                            have hcz33_2 := cellS67_2 HGz33
                            have hfz33_0 := blk_frozen HGz33 0
                            have hfz33_1 := blk_frozen HGz33 1
                            have hfz33_2 := blk_frozen HGz33 2
                            clear HGz33 hgz33
                            go_wp2
                            go_roundg kj27
                            case measure => have := HK1.out; have := HJ5.out; have := HJ20.out; have := HJ24.out; have := HJ27.out; omega
                            case rel => exact ⟨(x6_1), (t163), (t164), (1), (by rfl), H', ⟨by have := HK1.out; have := HJ5.out; have := HJ20.out; have := HJ24.out; have := HJ27.out; omega⟩, ⟨by repeat ((with_reducible first | exact HI158.out | apply IsS67.set_2))⟩, ⟨by repeat ((with_reducible first | exact HB.out | refine below_set ?_ (IsS67.ge HI158.out)))⟩⟩
                          · replace c32 := Bool.eq_false_iff.mpr c32
                            subst c32
                            have H1 : (if x159002_24 = 0 then (if 0 ≤ t164 then (if t164 ≤ (wrap64 (t164 + t159)) then (if (wrap64 (t164 + t159)) ≤ (a0.size : Int) then (if x6_1.size + (a0.extract (t164 : Int).toNat ((wrap64 (t164 + t159)) : Int).toNat).size ≤ 9223372036854775807 then ((impl_scanner_want.f t163 (wrap64 (t164 + t159)) x159002_24 (⟨#[13, 10]⟩ : ByteArray)).bind fun bt169 => (impl_ReadChunks.l0 kj27 a0 (x6_1 ++ (a0.extract (t164 : Int).toNat ((wrap64 (t164 + t159)) : Int).toNat)) bt169.1 bt169.2.1 bt169.2.2)) else (none)) else (none)) else (none)) else (none)) else (impl_ReadChunks.l0 kj27 a0 x6_1 t163 t164 x159002_24)) = some (r1, r2, r3) := by rw [if_neg (show ¬ (false = true) by decide)] at H; exact H
                            clear H
                            have H := H1
                            clear H1
                            by_cases c34 : x159002_24 = 0
                            · rw [if_pos c34] at H
                              have c34b0 : (x159002_24 == 0) = true := beq_iff_eq.mpr c34
                              have c34b1 : (x159002_24 != 0) = false := bne_eq_false_iff_eq.mpr c34
                              clear c34
                              by_cases c35 : 0 ≤ t164
                              · rw [if_pos c35] at H
                                have c35b0 := eq_true c35
                                have c35b1 : decide (0 ≤ t164) = true := decide_eq_true c35
                                clear c35
                                by_cases c36 : t164 ≤ (wrap64 (t164 + t159))
                                · rw [if_pos c36] at H
                                  have c36b0 := eq_true c36
                                  have c36b1 : decide (t164 ≤ (wrap64 (t164 + t159))) = true := decide_eq_true c36
                                  by_cases c37 : (wrap64 (t164 + t159)) ≤ (a0.size : Int)
                                  · rw [if_pos c37] at H
                                    have c37b0 := eq_true c37
                                    have c37b1 : decide ((wrap64 (t164 + t159)) ≤ (a0.size : Int)) = true := decide_eq_true c37
                                    by_cases c38 : x6_1.size + (a0.extract (t164 : Int).toNat ((wrap64 (t164 + t159)) : Int).toNat).size ≤ 9223372036854775807
                                    · rw [if_pos c38] at H
                                      have c38b0 := eq_true c38
                                      have c38b1 : decide (x6_1.size + (a0.extract (t164 : Int).toNat ((wrap64 (t164 + t159)) : Int).toNat).size ≤ 9223372036854775807) = true := decide_eq_true c38
                                      have c38x : x6_1.size + ((a0.extract (t164 : Int).toNat ((wrap64 (t164 + t159)) : Int).toNat).size) ≤ 9223372036854775807 := by have h_ := c38; (try simp only [ByteArray.size_append] at h_); exact h_
                                      have c38x0 := eq_true c38x
                                      have c38x2 : (9223372036854775807 < x6_1.size + ((a0.extract (t164 : Int).toNat ((wrap64 (t164 + t159)) : Int).toNat).size)) = False := eq_false (Nat.not_lt.2 c38x)
                                      have c38b2 : (9223372036854775807 < x6_1.size + (a0.extract (t164 : Int).toNat ((wrap64 (t164 + t159)) : Int).toNat).size) = False := eq_false (Nat.not_lt.2 c38)
                                      replace H := Option.bind_eq_some_iff.mp H
                                      obtain ⟨⟨t169, t170, t171⟩, A390, H⟩ := H
                                      replace H : (impl_ReadChunks.l0 kj27 a0 (x6_1 ++ (a0.extract (t164 : Int).toNat ((wrap64 (t164 + t159)) : Int).toNat)) t169 t170 t171) = some (r1, r2, r3) := H
                                      have A39 := Aside0.mk A390
                                      clear A390
                                      have H' := Aside0.mk H
                                      clear H
                                      obtain ⟨HGz40, hgz40⟩ := HI158.out
                                      have hcz40_0 := cellS67_0 HGz40
                                      have hcz40_1 := cellS67_1 HGz40
                                      have hcz40_2 := cellS67_2 HGz40
                                      have hfz40_0 := blk_frozen HGz40 0
                                      have hfz40_1 := blk_frozen HGz40 1
                                      have hfz40_2 := blk_frozen HGz40 2
                                      clear HGz40 hgz40
                                      go_wp2_with (first | (go_at_call 40; (with_reducible refine (impl_scanner_want.calls gb158 t163 (wrap64 (t164 + t159)) x159002_24 (⟨#[13, 10]⟩ : ByteArray) t169 t170 t171 w _ ?side1 ?side2 A39.out).mono ?_); (case side1 => repeat (first | (with_reducible first | exact HI158.out | apply IsS67.alloc | apply IsS67.drewN | apply IsS67.drew | apply IsS67.set_0 | apply IsS67.set_1 | apply IsS67.set_2 ) | exact HI158.out )); (case side2 => repeat (first | (with_reducible first | exact HB.out | apply below_alloc | apply pw_below_drewN | apply below_drew1 | refine below_set ?_ (IsS67.ge HI158.out) ) | exact HB.out )); rintro e w41 ⟨rfl, hi, hb, hk⟩; have n0_ := Aside0.mk (hb); have n1_ := Aside0.mk (hi); clear HB; clear HI158; have HB := n0_; have HI158 := n1_; clear n0_ n1_; (try clear hb); (try clear hb2); (try clear hk); (try clear hi)) )
                                      repeat (go_quiet (first | (go_at_call 40; (with_reducible refine (impl_scanner_want.calls gb158 t163 (wrap64 (t164 + t159)) x159002_24 (⟨#[13, 10]⟩ : ByteArray) t169 t170 t171 w _ ?side1 ?side2 A39.out).mono ?_); (case side1 => repeat (first | (with_reducible first | exact HI158.out | apply IsS67.alloc | apply IsS67.drewN | apply IsS67.drew | apply IsS67.set_0 | apply IsS67.set_1 | apply IsS67.set_2 ) | exact HI158.out )); (case side2 => repeat (first | (with_reducible first | exact HB.out | apply below_alloc | apply pw_below_drewN | apply below_drew1 | refine below_set ?_ (IsS67.ge HI158.out) ) | exact HB.out )); rintro e w41 ⟨rfl, hi, hb, hk⟩; have n0_ := Aside0.mk (hb); have n1_ := Aside0.mk (hi); clear HB; clear HI158; have HB := n0_; have HI158 := n1_; clear n0_ n1_; (try clear hb); (try clear hb2); (try clear hk); (try clear hi)) ); try go_wp2_with ((go_at_call 40; (with_reducible refine (impl_scanner_want.calls gb158 t163 (wrap64 (t164 + t159)) x159002_24 (⟨#[13, 10]⟩ : ByteArray) t169 t170 t171 w _ ?side1 ?side2 A39.out).mono ?_); (case side1 => repeat ((with_reducible first | exact HI158.out | apply IsS67.drewN | apply IsS67.set_1))); (case side2 => repeat ((with_reducible first | exact HB.out | apply pw_below_drewN | refine below_set ?_ (IsS67.ge HI158.out)))); rintro e w41 ⟨rfl, hi, hb, hk⟩; have n0_ := Aside0.mk (hb); have n1_ := Aside0.mk (hi); clear HB; clear HI158; have HB := n0_; have HI158 := n1_; clear n0_ n1_; (try clear hb); (try clear hb2); (try clear hk); (try clear hi))))
                                      go_roundg kj27
                                      case measure => have := HK1.out; have := HJ5.out; have := HJ20.out; have := HJ24.out; have := HJ27.out; omega
                                      case rel => exact ⟨(x6_1 ++ (a0.extract (t164 : Int).toNat ((wrap64 (t164 + t159)) : Int).toNat)), (t169), (t170), (t171), (by rfl), H', ⟨by have := HK1.out; have := HJ5.out; have := HJ20.out; have := HJ24.out; have := HJ27.out; omega⟩, ⟨by repeat ((with_reducible exact HI158.out))⟩, ⟨by repeat ((with_reducible exact HB.out))⟩⟩
                                    · rw [if_neg c38] at H
                                      exact absurd H (by simp)
                                  · rw [if_neg c37] at H
                                    exact absurd H (by simp)
                                · rw [if_neg c36] at H
                                  exact absurd H (by simp)
                              · rw [if_neg c35] at H
                                exact absurd H (by simp)
                            · rw [if_neg c34] at H
                              have c34b0 : (x159002_24 == 0) = false := beq_eq_false_iff_ne.mpr c34
                              have c34b1 : (x159002_24 != 0) = true := bne_iff_ne.mpr c34
                              have H' := Aside0.mk H
                              clear H
                              obtain ⟨HGz42, hgz42⟩ := HI158.out
                              have hcz42_0 := cellS67_0 HGz42
                              have hcz42_1 := cellS67_1 HGz42
                              have hcz42_2 := cellS67_2 HGz42
                              have hfz42_0 := blk_frozen HGz42 0
                              have hfz42_1 := blk_frozen HGz42 1
                              have hfz42_2 := blk_frozen HGz42 2
                              clear HGz42 hgz42
                              go_wp2
                              go_roundg kj27
                              case measure => have := HK1.out; have := HJ5.out; have := HJ20.out; have := HJ24.out; have := HJ27.out; omega
                              case rel => exact ⟨(x6_1), (t163), (t164), (x159002_24), (by rfl), H', ⟨by have := HK1.out; have := HJ5.out; have := HJ20.out; have := HJ24.out; have := HJ27.out; omega⟩, ⟨by repeat ((with_reducible exact HI158.out))⟩, ⟨by repeat ((with_reducible exact HB.out))⟩⟩
      · rw [if_neg c3] at H
        have c3b0 : (x159002_1 == 0) = false := beq_eq_false_iff_ne.mpr c3
        have c3b1 : (x159002_1 != 0) = true := bne_iff_ne.mpr c3
        simp only [Option.some.injEq, Prod.mk.injEq] at H
        obtain ⟨rfl, rfl, rfl⟩ := H
        obtain ⟨HGz43, hgz43⟩ := HI158.out
        have hcz43_0 := cellS67_0 HGz43
        have hcz43_1 := cellS67_1 HGz43
        have hcz43_2 := cellS67_2 HGz43
        have hfz43_0 := blk_frozen HGz43 0
        have hfz43_1 := blk_frozen HGz43 1
        have hfz43_2 := blk_frozen HGz43 2
        clear HGz43 hgz43
        go_wp2
        repeat (go_quiet (fail); try go_wp2)
        go_ret3
        exact ⟨by rfl, by repeat ((with_reducible first | exact HB.out | apply pw_below_drewN))⟩
end Go.Proofs.Ythjigecaojaalaa.Q
