import Derived.Lib.IndexMore
import Derived.Lib.SlBytesRow
import Derived.Lib.TrimByte
import Derived.Test.YthjigecaojaalaaDoorAwShelf
import Derived.Test.YthjigecaojaalaaDoorAwB0
import Derived.Test.YthjigecaojaalaaDoorAwG30
import Derived.Test.YthjigecaojaalaaDoorAwWords
namespace Go.Proofs.YthjigecaojaalaaDoor.Q
open Go.RowKit Go.Proofs.YthjigecaojaalaaDoorW.PrintWords Go.Proofs.YthjigecaojaalaaDoorW.PrintLast Go.Proofs.YthjigecaojaalaaDoorW.PrintMore
attribute [local go_sem] max2_int min2_int max_two min_two max_three min_three max_four min_four   -- for this text's walks alone
set_option linter.unusedVariables false
set_option linter.unusedSimpArgs false
/-- A letter A-Z as a-z. -/
def impl_lower.one (b : UInt8) : UInt8 := if 65 ≤ b.toNat ∧ b.toNat ≤ 90 then b + 32 else b
def impl_lower.all (s : ByteArray) : ByteArray := ⟨s.data.map impl_lower.one⟩
theorem impl_lower.all_size (s : ByteArray) : (impl_lower.all s).size = s.size := by show (s.data.map _).size = s.data.size; rw [Array.size_map]
theorem impl_lower.all_get (s : ByteArray) (j : Nat) (h : j < s.size) : (impl_lower.all s)[j]'(by rw [impl_lower.all_size]; exact h) = impl_lower.one s[j] := by
  exact Array.getElem_map (f := impl_lower.one) (xs := s.data) (i := j) (by rw [Array.size_map]; exact h)
/-- The row behind a conversion, whose first x bytes are turned. -/
def impl_lower.Row (w : World) (g : Nat) (E : TypeId) (s : ByteArray) (x : Int) : Prop :=
  ∃ (cs : Array Value) (m : Nat), w.heap[g]? = some (.cells cs E (m, m + 1)) ∧ s.size ≤ m ∧ cs.size = m ∧ ∀ j (h : j < s.size), cs[j]? = some (.int .u8 ((if (j : Int) < x then impl_lower.one s[j] else s[j]).toNat : Int))
theorem impl_lower.bt_get (s : ByteArray) (x : Int) (h0 : 0 ≤ x) (h : x.toNat < s.size) : bt s x = (s[x.toNat].toNat : Int) := by simp [bt, h]
theorem impl_lower.Row.start (W : World) (E : TypeId) (s : ByteArray) : impl_lower.Row (Lib.bytesWorld W E s) W.heap.size E s 0 := by
  have hs : s.size ≤ (Lib.bytesCells W E s).size := by
    simp only [Lib.bytesCells, Array.size_append, Array.size_map, Array.size_replicate]
    have : s.data.size = s.size := rfl
    omega
  refine ⟨_, _, Lib.bytesWorld_at_new W E s, hs, rfl, fun j h => ?_⟩
  rw [if_neg (by omega)]
  have h' : j < s.data.size := h
  simp only [Lib.bytesCells]
  rw [Array.getElem?_append_left (by rw [Array.size_map]; exact h'), Array.getElem?_map, Array.getElem?_eq_getElem h']
  rfl
theorem impl_lower.Row.cell {w : World} {g : Nat} {E : TypeId} {s : ByteArray} {x : Int} (h : impl_lower.Row w g E s x) (h0 : 0 ≤ x) (h1 : x < s.size) : w.cell? ⟨g, x.toNat, none⟩ = some (.int .u8 (bt s x)) := by
  obtain ⟨cs, m, hh, _, _, hc⟩ := h
  have h2 : x.toNat < s.size := by omega
  have := hc x.toNat h2
  rw [if_neg (by omega)] at this
  rw [impl_lower.bt_get s x h0 h2, ← this]
  simp [World.cell?, hh]
theorem impl_lower.Row.frozen {w : World} {g : Nat} {E : TypeId} {s : ByteArray} {x : Int} (h : impl_lower.Row w g E s x) (h0 : 0 ≤ x) (h1 : x < s.size) : w.frozen? ⟨g, x.toNat, none⟩ = false := by
  obtain ⟨cs, m, hh, hm, _, _⟩ := h
  simp [World.frozen?, hh]
  omega
theorem impl_lower.Row.skip {w : World} {g : Nat} {E : TypeId} {s : ByteArray} {x : Int} (h : impl_lower.Row w g E s x) (h0 : 0 ≤ x) (h1 : x < s.size) (hb : ¬ (65 ≤ bt s x ∧ bt s x ≤ 90)) : impl_lower.Row w g E s (x + 1) := by
  obtain ⟨cs, m, hh, hm, hz, hc⟩ := h
  refine ⟨cs, m, hh, hm, hz, fun j hj => ?_⟩
  rw [hc j hj]
  by_cases c : (j : Int) < x
  · rw [if_pos c, if_pos (by omega)]
  · rw [if_neg c]
    by_cases c2 : (j : Int) < x + 1
    · have e : j = x.toNat := by omega
      rw [if_pos c2]
      rw [impl_lower.bt_get s x h0 (by omega)] at hb
      subst e
      rw [impl_lower.one, if_neg (by omega)]
    · rw [if_neg c2]
theorem impl_lower.set_same {w : World} {b i : Nat} {cs : Array Value} {T : TypeId} {fr : Nat × Nat} (hb : w.heap[b]? = some (.cells cs T fr)) (v : Value) : (w.setCell ⟨b, i, none⟩ v).heap[b]? = some (.cells (cs.setIfInBounds i v) T fr) := by simp [World.setCell, Array.getElem?_modify, hb]
theorem impl_lower.Row.put {w : World} {g : Nat} {E : TypeId} {s : ByteArray} {x : Int} (h : impl_lower.Row w g E s x) (h0 : 0 ≤ x) (h1 : x < s.size) (hb : 65 ≤ bt s x ∧ bt s x ≤ 90) : impl_lower.Row (w.setCell ⟨g, x.toNat, none⟩ (.int .u8 (bt s x + 32))) g E s (x + 1) := by
  obtain ⟨cs, m, hh, hm, hz, hc⟩ := h
  refine ⟨_, m, impl_lower.set_same hh _, hm, by rw [Array.size_setIfInBounds]; exact hz, fun j hj => ?_⟩
  rw [Array.getElem?_setIfInBounds]
  rw [impl_lower.bt_get s x h0 (by omega)] at hb ⊢
  by_cases c : x.toNat = j
  · rw [if_pos c]
    subst c
    rw [if_pos (by omega), if_pos (by omega), impl_lower.one, if_pos (by omega)]
    have e : (s[x.toNat] + 32).toNat = s[x.toNat].toNat + 32 := by rw [UInt8.toNat_add]; exact Nat.mod_eq_of_lt (by have : (32 : UInt8).toNat = 32 := rfl; omega)
    rw [e]; rfl
  · rw [if_neg c, hc j hj]
    by_cases c1 : (j : Int) < x
    · rw [if_pos c1, if_pos (by omega)]
    · rw [if_neg c1, if_neg (by omega)]
theorem impl_lower.Row.bytes {w : World} {g : Nat} {E : TypeId} {s : ByteArray} {x : Int} (h : impl_lower.Row w g E s x) (h1 : (s.size : Int) ≤ x) : Lib.Bytes w g 0 (impl_lower.all s) := by
  obtain ⟨cs, m, hh, hm, hz, hc⟩ := h
  intro i hi
  have hi' : i < s.size := by rw [impl_lower.all_size] at hi; exact hi
  have := hc i hi'
  rw [if_pos (by omega)] at this
  rw [impl_lower.all_get s i hi', ← this, Nat.zero_add]
  simp [World.cell?, hh]
theorem impl_lower.Row.block {w : World} {g : Nat} {E : TypeId} {s : ByteArray} {x : Int} (h : impl_lower.Row w g E s x) : g < w.heap.size := by
  obtain ⟨cs, m, hh, _⟩ := h
  exact (Array.getElem?_eq_some_iff.1 hh).1
def impl_lower.f (a0 : ByteArray) : Option ByteArray := if a0.size ≤ 9223372036854775807 then some (impl_lower.all a0) else none
theorem impl_lower.within (c : Int) (b : Bool) (hb : b = decide (65 ≤ c ∧ c ≤ 90)) : impl_within.f c 65 90 = some b := by
  subst hb
  unfold impl_within.f
  by_cases h : c ≥ 65
  · rw [if_pos h]; simp [show (65 : Int) ≤ c from h]
  · rw [if_neg h]; simp [show ¬ (65 : Int) ≤ c from h]
set_option maxHeartbeats 4000000 in
set_option maxRecDepth 100000 in
theorem impl_lower.calls (a0 : ByteArray) (r : ByteArray) (w : World) (h : impl_lower.f a0 = some r) : Calls Tryd.prog 35 #[.string a0] w fun e w' => e = .returned (.string r) ∧ Below w.heap.size w w' := by
  have hs : a0.size ≤ 9223372036854775807 := by unfold impl_lower.f at h; split at h <;> simp_all
  have HH : Aside0 (impl_lower.all a0 = r) := ⟨by unfold impl_lower.f at h; rw [if_pos hs] at h; exact Option.some.inj h⟩
  clear h
  have kb := fun W => print_bytes (P := Tryd.prog) 9 31 5 Tryd.underlying9 Tryd.underlying31 Tryd.underlying5 a0 W
  go_enter Tryd.func35, Tryd.ntmps35
  go_wp2
  go_loopw [10] (fun v10 wr => ∃ x : Int, 0 ≤ x ∧ x ≤ (a0.size : Int) ∧ v10 = .int .i64 x ∧ Aside0 (impl_lower.Row wr w.heap.size 5 a0 x) ∧ Aside0 (Below w.heap.size w wr)) (fun v10 _ => a0.size - (intOf v10).toNat)
  case atStart => exact ⟨0, by omega, by omega, rfl, ⟨impl_lower.Row.start w 5 a0⟩, ⟨bytes_below (Below.refl _ _) (Nat.le_refl _) 5 a0⟩⟩
  case round =>
    obtain ⟨x, hx0, hx1, rfl, HR, HB⟩ := hrel
    clear kb
    by_cases hlt : x < (a0.size : Int)
    · have hc := HR.out.cell hx0 hlt
      have hf := HR.out.frozen hx0 hlt
      have hb0 := bt_range a0 x
      have hd1 : decide (x < (a0.size : Int)) = true := decide_eq_true hlt
      have hd2 : decide (0 ≤ x) = true := decide_eq_true hx0
      have p1 := eq_true hx0
      by_cases hin : 65 ≤ bt a0 x ∧ bt a0 x ≤ 90
      · have hi1 := hin.1
        have hi2 := hin.2
        have HP := Aside0.mk (HR.out.put hx0 hlt hin)
        have HW := Aside0.mk (impl_lower.within (bt a0 x) true (by rw [decide_eq_true hin]))
        clear hin
        go_wp2_with (go_at_call 30; refine (impl_within.calls _ _ _ true _ HW.out).mono ?_; rintro e w1 ⟨rfl, rfl⟩)
        go_roundw
        case rel => exact ⟨x + 1, by omega, by omega, by rfl, ⟨HP.out⟩, ⟨HB.out.setCell (by simp) _⟩⟩
        case measure => simp [intOf]; omega
      · have HP := Aside0.mk (HR.out.skip hx0 hlt hin)
        have HW := Aside0.mk (impl_lower.within (bt a0 x) false (by rw [decide_eq_false hin]))
        clear hin
        go_wp2_with (go_at_call 30; refine (impl_within.calls _ _ _ false _ HW.out).mono ?_; rintro e w1 ⟨rfl, rfl⟩)
        go_roundw
        case rel => exact ⟨x + 1, by omega, by omega, by rfl, ⟨HP.out⟩, ⟨HB.out⟩⟩
        case measure => simp [intOf]; omega
    · have hd1 : decide (x < (a0.size : Int)) = false := decide_eq_false hlt
      have hcv := Lib.run_convert_whole (P := Tryd.prog) wr 31 5 9 Tryd.underlying31 Tryd.underlying5 Tryd.underlying9 w.heap.size 0 (impl_lower.all a0) (HR.out.bytes (by omega)) (grownCap w a0.size 0 5)
      rw [impl_lower.all_size] at hcv
      go_wp2
      go_ret
      exact ⟨by rw [← HH.out]; rfl, HB.out⟩
def strings_Trim.f (a0 : ByteArray) (a1 : ByteArray) : Option (ByteArray) := if a1 = (⟨#[32]⟩ : ByteArray) ∧ a0.size ≤ 9223372036854775807 then some ⟨(Lib.trimB a0.data.toList 32).toArray⟩ else none
theorem strings_Trim.calls (a0 : ByteArray) (a1 : ByteArray) (r : ByteArray) (w : World) (h : strings_Trim.f a0 a1 = some r) :
    Calls Tryd.prog 36 #[.string a0, .string a1] w fun e w' => e = .returned (.string r) ∧ Below w.heap.size w w' := by
  unfold strings_Trim.f at h
  by_cases c : a1 = (⟨#[32]⟩ : ByteArray) ∧ a0.size ≤ 9223372036854775807
  · rw [if_pos c] at h
    obtain ⟨rfl, hs⟩ := c
    obtain rfl := Option.some.inj h
    refine (Tryd.strings_Trim_one a0 32 (by decide) w hs).mono ?_
    rintro e w' ⟨rfl, rfl | rfl⟩
    · exact ⟨rfl, Below.refl _ _⟩
    · exact ⟨rfl, below_drew1 (Below.refl _ _)⟩
  · rw [if_neg c] at h; exact absurd h (by simp)
def strings_Cut.f (a0 : ByteArray) (a1 : ByteArray) : Option (ByteArray × ByteArray × Bool) := if a0.size < 4294967281 then some (⟨(Lib.cut a0.data.toList a1.data.toList).1.toArray⟩, ⟨(Lib.cut a0.data.toList a1.data.toList).2.1.toArray⟩, (Lib.cut a0.data.toList a1.data.toList).2.2) else none
theorem strings_Cut.calls (a0 : ByteArray) (a1 : ByteArray) (r1 : ByteArray) (r2 : ByteArray) (r3 : Bool) (w : World) (hsh : Shp w) (h : strings_Cut.f a0 a1 = some (r1, r2, r3)) :
    Calls Tryd.prog 37 #[.string a0, .string a1] w fun e w' => e = .returned (.tuple #[.string r1, .string r2, .bool r3]) ∧ Below w.heap.size w w' := by
  unfold strings_Cut.f at h
  by_cases c : a0.size < 4294967281
  · rw [if_pos c] at h
    simp only [Option.some.injEq, Prod.mk.injEq] at h
    obtain ⟨rfl, rfl, rfl⟩ := h
    obtain ⟨m, hm⟩ := hsh
    refine (Tryd.strings_Cut a0 a1 m w c hm).mono ?_
    rintro e w' ⟨rfl, n, rfl⟩
    exact ⟨rfl, pw_below_drewN (Below.refl _ _) n⟩
  · rw [if_neg c] at h; exact absurd h (by simp)
def impl_bytesIn.l0 : Nat → ByteArray → Int → Int → Int → Int → Option (Bool)
  | 0, _, _, _, _, _ => none
  | k + 1, x0, x1, x2, x9, x10 => if x10 < x9 then (if 0 ≤ x10 then (if x10 < (x0.size : Int) then ((impl_within.f (wrap64 (bt x0 x10)) x1 x2).bind fun t177 => (if t177 = true then (impl_bytesIn.l0 k x0 x1 x2 x9 (wrap64 (x10 + 1))) else (some false))) else (none)) else (none)) else (some true)
def impl_bytesIn.f (k : Nat) (a0 : ByteArray) (a1 : Int) (a2 : Int) : Option (Bool) := impl_bytesIn.l0 k a0 a1 a2 (a0.size : Int) 0
set_option maxHeartbeats 8000000 in
set_option maxRecDepth 100000 in
theorem impl_bytesIn.calls (k : Nat) (a0 : ByteArray) (a1 : Int) (a2 : Int) (r : Bool) (w : World) (h : impl_bytesIn.f k a0 a1 a2 = some r) :
    Calls Tryd.prog 77 #[.string a0, .int .i64 a1, .int .i64 a2] w fun e w' => e = .returned (.bool r) ∧ Drawn0 w w' := by
  have H : (impl_bytesIn.l0 k a0 a1 a2 (a0.size : Int) 0) = some r := h
  clear h
  have H' := Aside0.mk H
  clear H
  go_enter Tryd.func77, Tryd.ntmps77
  go_wp2
  go_loopg [10] k (fun kq v10 w' => ∃ (x10_1 : Int), v10 = .int .i64 x10_1 ∧ Aside0 (impl_bytesIn.l0 kq a0 a1 a2 (a0.size : Int) x10_1 = some r) ∧ Aside0 (kq ≤ k) ∧ Drawn0 w w')
  case atStart => exact ⟨(0), (by rfl), H', ⟨Nat.le_refl _⟩, by repeat (exact Drawn0.refl _)⟩
  case round =>
    clear H'
    obtain ⟨x10_1, rfl, HA, HK1, ⟨m1, rfl⟩⟩ := hrel
    cases gk with
    | zero => exact absurd HA.out (by simp [impl_bytesIn.l0])
    | succ k1 =>
      have H := HA.out
      clear HA
      simp only [impl_bytesIn.l0] at H
      by_cases c4 : x10_1 < (a0.size : Int)
      · rw [if_pos c4] at H
        have c4b0 : decide (x10_1 < (a0.size : Int)) = true := decide_eq_true c4
        clear c4
        by_cases c5 : 0 ≤ x10_1
        · rw [if_pos c5] at H
          have c5b0 : decide (0 ≤ x10_1) = true := decide_eq_true c5
          clear c5
          by_cases c6 : x10_1 < (a0.size : Int)
          · rw [if_pos c6] at H
            have c6b0 : decide (x10_1 < (a0.size : Int)) = true := decide_eq_true c6
            clear c6
            replace H := Option.bind_eq_some_iff.mp H
            obtain ⟨t177, A80, H⟩ := H
            replace H : (if t177 = true then (impl_bytesIn.l0 k1 a0 a1 a2 (a0.size : Int) (wrap64 (x10_1 + 1))) else (some false)) = some r := H
            have A8 := Aside0.mk A80
            clear A80
            have HS9 := Aside0.mk H
            clear H
            have p7 : 0 ≤ (x10_1 : Int) := of_decide_eq_true (by (with_reducible assumption))
            have q7 : x10_1 < (a0.size : Int) := of_decide_eq_true (by (with_reducible assumption))
            have hx7 := bt_at a0 x10_1
            replace p7 := eq_true p7
            replace q7 := eq_true q7
            go_upto_if 20 with (((with_reducible refine gate_callee (f := 30) rfl ?_); refine goesL_ (some 19) rfl rfl Tryd.func30 (by kernel_rfl) rfl #[.int .i64 (wrap64 (bt a0 x10_1)), .int .i64 a1, .int .i64 a2] rfl (by (try simp only [List.map_toArray, List.map_cons, List.map_nil]); rfl) ?_; (with_reducible refine (impl_within.calls (wrap64 (bt a0 x10_1)) a1 a2 t177 _ A8.out).mono ?_); rintro e w' ⟨rfl, rfl⟩; refine ⟨_, rfl, ?_⟩))
            (try simp only [Act.put, List.setIfInBounds_toArray, List.set_cons_zero, List.set_cons_succ])
            have H := HS9.out
            clear HS9
            by_cases c10 : t177 = true
            · subst c10
              have H1 : (impl_bytesIn.l0 k1 a0 a1 a2 (a0.size : Int) (wrap64 (x10_1 + 1))) = some r := by rw [if_pos rfl] at H; exact H
              clear H
              have H := H1
              clear H1
              have H' := Aside0.mk H
              clear H
              go_wp2
              go_roundg k1
              case measure => have := HK1.out; omega
              case rel => exact ⟨(wrap64 (x10_1 + 1)), (by rfl), H', ⟨by have := HK1.out; omega⟩, by repeat (first | exact Drawn0.refl _ | apply Drawn0.step)⟩
            · replace c10 := Bool.eq_false_iff.mpr c10
              subst c10
              have H1 : (some false) = some r := by rw [if_neg (show ¬ (false = true) by decide)] at H; exact H
              clear H
              have H := H1
              clear H1
              obtain rfl := Option.some.inj H
              go_wp2
              go_ret
              exact ⟨by rfl, by repeat (first | exact Drawn0.refl _ | apply Drawn0.step)⟩
          · rw [if_neg c6] at H
            exact absurd H (by simp)
        · rw [if_neg c5] at H
          exact absurd H (by simp)
      · rw [if_neg c4] at H
        have c4b0 : decide (x10_1 < (a0.size : Int)) = false := decide_eq_false c4
        clear c4
        obtain rfl := Option.some.inj H
        go_wp2
        go_ret
        exact ⟨by rfl, by repeat (first | exact Drawn0.refl _ | apply Drawn0.step)⟩
mutual
def impl_figuresOf.j0 : Nat → ByteArray → Bool → Option (Int × Bool)
  | 0, _, _ => none
  | k + 1, x0, x17 => if x17 = true then (some (0, false)) else (impl_figuresOf.l0 k x0 0 (x0.size : Int) 0)
def impl_figuresOf.l0 : Nat → ByteArray → Int → Int → Int → Option (Int × Bool)
  | 0, _, _, _, _ => none
  | k + 1, x0, x6, x19, x20 => if x20 < x19 then (if 0 ≤ x20 then (if x20 < (x0.size : Int) then (impl_figuresOf.l0 k x0 (wrap64 ((wrap64 (10 * x6)) + (((bt x0 x20) - 48) % 256))) x19 (wrap64 (x20 + 1))) else (none)) else (none)) else (some (x6, true))
end
def impl_figuresOf.f (k : Nat) (a0 : ByteArray) (a1 : Int) : Option (Int × Bool) := (impl_within.f (a0.size : Int) 1 a1).bind fun t178 => (if t178 = true then ((impl_bytesIn.f k a0 48 57).bind fun t179 => (impl_figuresOf.j0 k a0 (!t179))) else (impl_figuresOf.j0 k a0 true))
set_option maxHeartbeats 8000000 in
set_option maxRecDepth 100000 in
theorem impl_figuresOf.calls (k : Nat) (a0 : ByteArray) (a1 : Int) (r1 : Int) (r2 : Bool) (w : World) (h : impl_figuresOf.f k a0 a1 = some (r1, r2)) :
    Calls Tryd.prog 38 #[.string a0, .int .i64 a1] w fun e w' => e = .returned (.tuple #[.int .i64 r1, .bool r2]) ∧ Drawn0 w w' := by
  have H : ((impl_within.f (a0.size : Int) 1 a1).bind fun t178 => (if t178 = true then ((impl_bytesIn.f k a0 48 57).bind fun t179 => (impl_figuresOf.j0 k a0 (!t179))) else (impl_figuresOf.j0 k a0 true))) = some (r1, r2) := h
  clear h
  have HC3 := Aside0.mk H
  clear H
  go_enter Tryd.func38, Tryd.ntmps38
  go_upto_region 1 with (fail)
  go_cut [17] (fun v17 wc => ∃ (kq : Nat) (x17_2 : Bool), v17 = .bool x17_2 ∧ Aside0 (impl_figuresOf.j0 kq a0 x17_2 = some (r1, r2)) ∧ Aside0 (kq ≤ k) ∧ Drawn0 w wc)
  case first =>
    have H := HC3.out
    clear HC3
    replace H := Option.bind_eq_some_iff.mp H
    obtain ⟨t178, A40, H⟩ := H
    replace H : (if t178 = true then ((impl_bytesIn.f k a0 48 57).bind fun t179 => (impl_figuresOf.j0 k a0 (!t179))) else (impl_figuresOf.j0 k a0 true)) = some (r1, r2) := H
    have A4 := Aside0.mk A40
    clear A40
    by_cases c5 : t178 = true
    · subst c5
      have H1 : ((impl_bytesIn.f k a0 48 57).bind fun t179 => (impl_figuresOf.j0 k a0 (!t179))) = some (r1, r2) := by rw [if_pos rfl] at H; exact H
      clear H
      have H := H1
      clear H1
      replace H := Option.bind_eq_some_iff.mp H
      obtain ⟨t179, A60, H⟩ := H
      replace H : (impl_figuresOf.j0 k a0 (!t179)) = some (r1, r2) := H
      have A6 := Aside0.mk A60
      clear A60
      have H' := Aside0.mk H
      clear H
      go_wp2_with (first | ((with_reducible refine gate_callee (f := 30) rfl ?_); refine goesL_ (some 11) rfl rfl Tryd.func30 (by kernel_rfl) rfl #[.int .i64 (a0.size : Int), .int .i64 1, .int .i64 a1] rfl (by (try simp only [List.map_toArray, List.map_cons, List.map_nil]); rfl) ?_; (with_reducible refine (impl_within.calls (a0.size : Int) 1 a1 true _ A4.out).mono ?_); rintro e w' ⟨rfl, rfl⟩; refine ⟨_, rfl, ?_⟩) | (go_at_call 77; (with_reducible refine (impl_bytesIn.calls k a0 48 57 t179 _ A6.out).mono ?_); rintro e w' ⟨rfl, ⟨nd, rfl⟩⟩))
      go_meet
      case rel => exact ⟨_, (!t179), (by rfl), H', ⟨by omega⟩, by repeat (first | exact Drawn0.refl _ | apply Drawn0.step)⟩
    · replace c5 := Bool.eq_false_iff.mpr c5
      subst c5
      have H1 : (impl_figuresOf.j0 k a0 true) = some (r1, r2) := by rw [if_neg (show ¬ (false = true) by decide)] at H; exact H
      clear H
      have H := H1
      clear H1
      have H' := Aside0.mk H
      clear H
      go_wp2_with (((with_reducible refine gate_callee (f := 30) rfl ?_); refine goesL_ (some 11) rfl rfl Tryd.func30 (by kernel_rfl) rfl #[.int .i64 (a0.size : Int), .int .i64 1, .int .i64 a1] rfl (by (try simp only [List.map_toArray, List.map_cons, List.map_nil]); rfl) ?_; (with_reducible refine (impl_within.calls (a0.size : Int) 1 a1 false _ A4.out).mono ?_); rintro e w' ⟨rfl, rfl⟩; refine ⟨_, rfl, ?_⟩))
      go_meet
      case rel => exact ⟨_, (true), (by rfl), H', ⟨by omega⟩, by repeat (exact Drawn0.refl _)⟩
  case rest =>
    clear HC3
    obtain ⟨kq, x17_2, rfl, HA, HJ2, ⟨mc2, rfl⟩⟩ := hcut
    cases kq with
    | zero => exact absurd HA.out (by simp [impl_figuresOf.j0])
    | succ kj2 =>
      have H := HA.out
      clear HA
      simp only [impl_figuresOf.j0] at H
      by_cases c7 : x17_2 = true
      · subst c7
        have H1 : (some (0, false)) = some (r1, r2) := by rw [if_pos rfl] at H; exact H
        clear H
        have H := H1
        clear H1
        simp only [Option.some.injEq, Prod.mk.injEq] at H
        obtain ⟨rfl, rfl⟩ := H
        go_wp2
        go_ret2
        exact ⟨by rfl, by repeat (first | exact Drawn0.refl _ | apply Drawn0.step)⟩
      · replace c7 := Bool.eq_false_iff.mpr c7
        subst c7
        have H1 : (impl_figuresOf.l0 kj2 a0 0 (a0.size : Int) 0) = some (r1, r2) := by rw [if_neg (show ¬ (false = true) by decide)] at H; exact H
        clear H
        have H := H1
        clear H1
        have H' := Aside0.mk H
        clear H
        go_wp2
        go_loopg [6, 20] kj2 (fun kq v6 v20 w' => ∃ (x6_2 : Int) (x20_2 : Int), v6 = .int .i64 x6_2 ∧ v20 = .int .i64 x20_2 ∧ Aside0 (impl_figuresOf.l0 kq a0 x6_2 (a0.size : Int) x20_2 = some (r1, r2)) ∧ Aside0 (kq ≤ kj2) ∧ Drawn0 w w')
        case atStart => exact ⟨(0), (0), (by rfl), (by rfl), H', ⟨Nat.le_refl _⟩, by repeat (first | exact Drawn0.refl _ | apply Drawn0.step)⟩
        case round =>
          clear H'
          obtain ⟨x6_2, x20_2, rfl, rfl, HA, HK2, ⟨m2, rfl⟩⟩ := hrel
          cases gk with
          | zero => exact absurd HA.out (by simp [impl_figuresOf.l0])
          | succ k2 =>
            have H := HA.out
            clear HA
            simp only [impl_figuresOf.l0] at H
            by_cases c8 : x20_2 < (a0.size : Int)
            · rw [if_pos c8] at H
              have c8b0 : decide (x20_2 < (a0.size : Int)) = true := decide_eq_true c8
              clear c8
              by_cases c9 : 0 ≤ x20_2
              · rw [if_pos c9] at H
                have c9b0 : decide (0 ≤ x20_2) = true := decide_eq_true c9
                clear c9
                by_cases c10 : x20_2 < (a0.size : Int)
                · rw [if_pos c10] at H
                  have c10b0 : decide (x20_2 < (a0.size : Int)) = true := decide_eq_true c10
                  clear c10
                  have H' := Aside0.mk H
                  clear H
                  have p11 : 0 ≤ (x20_2 : Int) := of_decide_eq_true (by (with_reducible assumption))
                  have q11 : x20_2 < (a0.size : Int) := of_decide_eq_true (by (with_reducible assumption))
                  have hx11 := bt_at a0 x20_2
                  replace p11 := eq_true p11
                  replace q11 := eq_true q11
                  go_wp2
                  go_roundg k2
                  case measure => have := HJ2.out; have := HK2.out; omega
                  case rel => exact ⟨(wrap64 ((wrap64 (10 * x6_2)) + (((bt a0 x20_2) - 48) % 256))), (wrap64 (x20_2 + 1)), (by rfl), (by rfl), H', ⟨by have := HJ2.out; have := HK2.out; omega⟩, by repeat (first | exact Drawn0.refl _ | apply Drawn0.step)⟩
                · rw [if_neg c10] at H
                  exact absurd H (by simp)
              · rw [if_neg c9] at H
                exact absurd H (by simp)
            · rw [if_neg c8] at H
              have c8b0 : decide (x20_2 < (a0.size : Int)) = false := decide_eq_false c8
              clear c8
              simp only [Option.some.injEq, Prod.mk.injEq] at H
              obtain ⟨rfl, rfl⟩ := H
              go_wp2
              go_ret2
              exact ⟨by rfl, by repeat (first | exact Drawn0.refl _ | apply Drawn0.step)⟩
end Go.Proofs.YthjigecaojaalaaDoor.Q
