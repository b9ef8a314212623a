import Derived.Test.YtdbhpcekjcohdaaLoB0
import Derived.Test.YtdbhpcekjcohdaaLoG48
import Derived.Test.YtdbhpcekjcohdaaLoWApart
import Derived.Test.YtdbhpcekjcohdaaLoWFoot
import Derived.Test.YtdbhpcekjcohdaaLoWKept
import Derived.Test.YtdbhpcekjcohdaaLoWLast
import Derived.Test.YtdbhpcekjcohdaaLoWMore
import Derived.Test.YtdbhpcekjcohdaaLoWShare
import Derived.Test.YtdbhpcekjcohdaaLoWWords
namespace Go.Proofs.Ytdbhpcekjcohdaa.Q
open Go.RowKit Go.Proofs.YtdbhpcekjcohdaaW.PrintWords Go.Proofs.YtdbhpcekjcohdaaW.PrintLast Go.Proofs.YtdbhpcekjcohdaaW.PrintMore
attribute [local go_sem] max2_int min2_int max_two min_two max_three min_three max_four min_four   -- for this text's walks alone
set_option linter.unusedVariables false
set_option linter.unusedSimpArgs false
def impl_isPlace.f (l0 : List Int) (a1 : Int) : Option (Bool) := (impl_within.f a1 0 (wrap64 ((l0.length : Int) - 1))).bind fun t288 => (some t288)
set_option maxHeartbeats 8000000 in
set_option maxRecDepth 100000 in
theorem impl_isPlace.calls (A0 : Option Addr) (c0 : Nat) (l0 : List Int) (a1 : Int) (r : Bool) (w : World) (hr0 : Kd.C (Kd.int .i64) w A0 l0.length l0) (hc0 : l0.length ≤ c0) (h : impl_isPlace.f l0 a1 = some r) :
    Calls Try.prog 54 #[.slice A0 l0.length c0, .int .i64 a1] w fun e w' => e = .returned (.bool r) ∧ w = w' := by
  have HR0 := Aside0.mk hr0
  have HC0 := Aside0.mk hc0
  clear hr0 hc0
  have H : ((impl_within.f a1 0 (wrap64 ((l0.length : Int) - 1))).bind fun t288 => (some t288)) = some r := h
  clear h
  replace H := Option.bind_eq_some_iff.mp H
  obtain ⟨t288, A30, H⟩ := H
  replace H : (some t288) = some r := H
  have A3 := Aside0.mk A30
  clear A30
  obtain rfl := Option.some.inj H
  go_enter Try.func54, Try.ntmps54
  go_wp2_with (((with_reducible refine gate_callee (f := 51) rfl ?_); refine goesL_ (some 9) rfl rfl Try.func51 (by kernel_rfl) rfl #[.int .i64 a1, .int .i64 0, .int .i64 (wrap64 ((l0.length : Int) - 1))] rfl (by (try simp only [List.map_toArray, List.map_cons, List.map_nil]); rfl) ?_; (with_reducible refine (impl_within.calls a1 0 (wrap64 ((l0.length : Int) - 1)) t288 _ A3.out).mono ?_); rintro e w' ⟨rfl, rfl⟩; refine ⟨_, rfl, ?_⟩))
  go_ret
  exact ⟨by rfl, rfl⟩
end Go.Proofs.Ytdbhpcekjcohdaa.Q
