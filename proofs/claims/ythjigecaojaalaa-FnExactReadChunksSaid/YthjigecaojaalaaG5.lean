import Derived.Test.YthjigecaojaalaaB0
import Derived.Test.YthjigecaojaalaaG56
import Derived.Test.YthjigecaojaalaaG57
import Derived.Test.YthjigecaojaalaaWApart
import Derived.Test.YthjigecaojaalaaWKept
import Derived.Test.YthjigecaojaalaaWLast
import Derived.Test.YthjigecaojaalaaWMore
import Derived.Test.YthjigecaojaalaaWRepsOne
import Derived.Test.YthjigecaojaalaaWShare
import Derived.Test.YthjigecaojaalaaWWords
namespace Go.Proofs.Ythjigecaojaalaa.Q
open Go.RowKit Go.Proofs.YthjigecaojaalaaW.PrintWords Go.Proofs.YthjigecaojaalaaW.PrintLast Go.Proofs.YthjigecaojaalaaW.PrintMore
attribute [local go_sem] max2_int min2_int max_two min_two max_three min_three max_four min_four   -- for this text's walks alone
set_option linter.unusedVariables false
set_option linter.unusedSimpArgs false

/-! ### laws_FnExactReadChunks: function 5 -/
def laws_FnExactReadChunks.f (k : Nat) (a0 : ByteArray) : Option (Bool) := if (a0.size : Int) > 1048576 then (some true) else ((spec_ReadChunks.f k a0).bind fun bt172 => ((impl_ReadChunks.f k a0).bind fun bt175 => (if bt175.1.toList = bt172.1.toList then (if bt175.2.1 = bt172.2.1 then (if bt175.2.2 = bt172.2.2 then (some true) else (none)) else (none)) else (none))))
theorem laws_FnExactReadChunks.mono : ∀ a0 k, LeO (laws_FnExactReadChunks.f k a0) (laws_FnExactReadChunks.f (k + 1) a0) := by
  intro a0 k
  unfold laws_FnExactReadChunks.f
  repeat' first | (with_reducible exact impl_ReadChunks.mono _ _) | (with_reducible exact spec_ReadChunks.mono _ _) | (with_reducible exact LeO.refl _) | (with_reducible refine LeO.ite ?_ ?_) | (with_reducible refine LeO.bind ?_ (fun _ => ?_))
set_option maxHeartbeats 8000000 in
set_option maxRecDepth 100000 in
theorem laws_FnExactReadChunks.calls (k : Nat) (a0 : ByteArray) (r : Bool) (w : World) (h : laws_FnExactReadChunks.f k a0 = some r) :
    Calls Try.prog 5 #[.string a0] w fun e w' => e = .returned (.bool r) ∧ Below w.heap.size w w' := by
  have HB := Aside0.mk (Below.refl w.heap.size w)
  have H : (if (a0.size : Int) > 1048576 then (some true) else ((spec_ReadChunks.f k a0).bind fun bt172 => ((impl_ReadChunks.f k a0).bind fun bt175 => (if bt175.1.toList = bt172.1.toList then (if bt175.2.1 = bt172.2.1 then (if bt175.2.2 = bt172.2.2 then (some true) else (none)) else (none)) else (none))))) = some r := h
  clear h
  by_cases c2 : (a0.size : Int) > 1048576
  · rw [if_pos c2] at H
    have c2b0 : decide (1048576 < (a0.size : Int)) = true := decide_eq_true c2
    have c2b1 : decide (1048576 < a0.size) = true := decide_eq_true (by omega)
    clear c2
    obtain rfl := Option.some.inj H
    go_enter Try.func5, Try.ntmps5
    go_wp2
    go_ret
    exact ⟨by rfl, by repeat ((with_reducible exact HB.out))⟩
  · rw [if_neg c2] at H
    have c2b0 : decide (1048576 < (a0.size : Int)) = false := decide_eq_false c2
    have c2b1 : decide (1048576 < a0.size) = false := decide_eq_false (by omega)
    clear c2
    replace H := Option.bind_eq_some_iff.mp H
    obtain ⟨⟨t172, t173, t174⟩, A30, H⟩ := H
    replace H : ((impl_ReadChunks.f k a0).bind fun bt175 => (if bt175.1.toList = t172.toList then (if bt175.2.1 = t173 then (if bt175.2.2 = t174 then (some true) else (none)) else (none)) else (none))) = some r := H
    have A3 := Aside0.mk A30
    clear A30
    replace H := Option.bind_eq_some_iff.mp H
    obtain ⟨⟨t175, t176, t177⟩, A40, H⟩ := H
    replace H : (if t175.toList = t172.toList then (if t176 = t173 then (if t177 = t174 then (some true) else (none)) else (none)) else (none)) = some r := H
    have A4 := Aside0.mk A40
    clear A40
    by_cases c5 : t175.toList = t172.toList
    · rw [if_pos c5] at H
      have c5b0 : (t175.toList == t172.toList) = true := beq_iff_eq.mpr c5
      have c5b1 : (t175.toList != t172.toList) = false := bne_eq_false_iff_eq.mpr c5
      clear c5
      by_cases c6 : t176 = t173
      · rw [if_pos c6] at H
        have c6b0 : (t176 == t173) = true := beq_iff_eq.mpr c6
        have c6b1 : (t176 != t173) = false := bne_eq_false_iff_eq.mpr c6
        clear c6
        by_cases c7 : t177 = t174
        · rw [if_pos c7] at H
          have c7b0 : (t177 == t174) = true := beq_iff_eq.mpr c7
          have c7b1 : (t177 != t174) = false := bne_eq_false_iff_eq.mpr c7
          clear c7
          obtain rfl := Option.some.inj H
          go_enter Try.func5, Try.ntmps5
          go_wp2_with (first | ((with_reducible refine gate_callee (f := 18) rfl ?_); refine goesL_ (some 14) rfl rfl Try.func18 (by kernel_rfl) rfl #[.string a0] rfl (by (try simp only [List.map_toArray, List.map_cons, List.map_nil]); rfl) ?_; (with_reducible refine (spec_ReadChunks.calls k a0 t172 t173 t174 _ A3.out).mono ?_); rintro e w' ⟨rfl, ⟨nd, rfl⟩⟩; refine ⟨_, rfl, ?_⟩) | ((with_reducible refine gate_callee (f := 19) rfl ?_); refine goesL_ (some 20) rfl rfl Try.func19 (by kernel_rfl) rfl #[.string a0] rfl (by (try simp only [List.map_toArray, List.map_cons, List.map_nil]); rfl) ?_; (with_reducible refine (impl_ReadChunks.calls k a0 t175 t176 t177 _ A4.out).mono ?_); rintro e w8 ⟨rfl, hb⟩; refine ⟨_, rfl, ?_⟩; have n0_ := Aside0.mk (below_step (by repeat ((with_reducible first | exact HB.out | apply pw_below_drewN))) hb); clear HB; have HB := n0_; clear n0_; (try clear hb); (try clear hb2); (try clear hk); (try clear hi)))
          go_ret
          exact ⟨by rfl, by repeat ((with_reducible exact HB.out))⟩
        · rw [if_neg c7] at H
          exact absurd H (by simp)
      · rw [if_neg c6] at H
        exact absurd H (by simp)
    · rw [if_neg c5] at H
      exact absurd H (by simp)

/-- THE ONE PURE STATEMENT of laws_FnExactReadChunks: yours. -/
def laws_FnExactReadChunks.Pure : Prop := ∀ (a0 : ByteArray), a0.size ≤ 140737488351232 → ∃ k, laws_FnExactReadChunks.f k a0 = some true
theorem laws_FnExactReadChunks.walk (P : laws_FnExactReadChunks.Pure) (a0 : ByteArray) (w : World) (w0 : a0.size ≤ 140737488351232) :
    Calls Try.prog 5 #[.string a0] w fun e w' => e = .returned (.bool true) ∧ Below w.heap.size w w' := by
  obtain ⟨k, h⟩ := P a0 w0
  refine (laws_FnExactReadChunks.calls k a0 true w h).mono ?_
  rintro e w' ⟨rfl, hd⟩
  exact ⟨rfl, hd⟩

end Go.Proofs.Ythjigecaojaalaa.Q
