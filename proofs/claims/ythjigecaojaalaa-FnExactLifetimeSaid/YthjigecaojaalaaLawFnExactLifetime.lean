/- The program's Lifetime returns what the reference's returns: for every input. -/
import Derived.Test.YthjigecaojaalaaRows
import Derived.Test.YthjigecaojaalaaPureFnExactLifetime
import Derived.Test.YthjigecaojaalaaOpen
import Derived.WalkKit
import Derived.ProofKit
import Derived.OpenShut
import Derived.ShutString
import Derived.ChangeOld
import Derived.Below
import Derived.SizedLaws
namespace Go.Proofs.Ythjigecaojaalaa.fnExactLifetime
open Go.ChangeShapes Go.WideShapes Go.ChangeAt Go.RowKit Go.Joins
open Go.ChangeMaps (open_string shut_string)
open Go.Proofs.Ythjigecaojaalaa.Open Go.Proofs.Ythjigecaojaalaa.Q Go.Proofs.YthjigecaojaalaaW.PrintWords
set_option linter.unusedVariables false
theorem own : ownKnob Try.prog.godebug = none := by kernel_rfl
theorem laidOut : laidOutB Try.prog = true := by kernel_rfl
set_option maxRecDepth 100000 in
theorem lifted (os : Os) (started : os.Started) (H : Type) (enc : TypeId × Value → H) :
    ReturnsInHanded {} Try.checked os 3 .any (Rows.fnExactLifetimeSpec.pre6 enc Try.prog Try.f3 Rows.fnExactLifetimeRow.domain false) (Rows.fnExactLifetimeSpec.post enc Try.prog Try.f3 false true false false) := by
  refine returnsInHanded_of_change_sized (C := Try.checked) own started (by kernel_rfl) Try.func3
    (ChangeSpec.witness6 (enc := enc) (C := Try.checked) false ⟨#[], #[.agg #[.bool false, .bool false, .int .i64 0, .int .i64 0]], []⟩ 8 (by kernel_rfl) (by kernel_rfl) (by kernel_rfl) (by kernel_rfl)) ?_
  intro W base args ds gs before hval0 hW hcnd hsz0 _
  have hval : ∀ (j : Nat) t v, Try.f3.params[j]? = some t → args[j]? = some v → Value.okWide Try.prog W .any base t v := hval0
  have hW' := hW
  obtain ⟨p, q, hA0, hV, rfl, hfz, hnd⟩ := hW
  have hA : DataW.TrodAll enc Try.prog W 0 (fun _ => true) true Try.f3.params.toList args.toList ds p := hA0
  rw [Try.params3] at hA hval
  obtain ⟨v0, vs0, d0, ds0, p0, q0, hargs, rfl, rfl, h0, r0⟩ := trodAll_cons hA
  obtain ⟨rfl, rfl, rfl⟩ := trodAll_nil r0
  obtain rfl : args = #[v0] := by cases args; simp_all
  obtain ⟨rfl, rfl⟩ := trodVars_none hV
  have k0 := h0
  have lt0 : ∀ x ∈ p0, x.block < W.heap.size := by obtain ⟨m, hm⟩ := k0; exact DataW.trod_lt m _ _ _ hm
  obtain ⟨c0_0, c0_1, c0_2, c0_3, y0_0, y0_1, y0_2, y0_3, m0, rfl, _, _, g0_0, g0_1, g0_2, g0_3⟩ := open_agg4 Try.underlying23 (by kernel_rfl) (by kernel_rfl) (hval 0 23 v0 rfl rfl) h0
  obtain ⟨n0, e0, w0⟩ := (opens_bool Try.underlying4) _ _ _ g0_0
  obtain rfl : c0_0 = .bool n0 := by injection e0
  obtain ⟨n1, e1, w1⟩ := (opens_bool Try.underlying4) _ _ _ g0_1
  obtain rfl : c0_1 = .bool n1 := by injection e1
  obtain ⟨n2, e2, w2⟩ := (opens_int Try.underlying3) _ _ _ g0_2
  obtain rfl : c0_2 = .int .i64 n2 := by injection e2
  obtain ⟨n3, e3, w3⟩ := (opens_int Try.underlying3) _ _ _ g0_3
  obtain rfl : c0_3 = .int .i64 n3 := by injection e3
  clear hA0 hval0 hsz0
  obtain ⟨k, hk⟩ := pureLifetime n0 n1 n2 n3 w2 w3
  refine (laws_FnExactLifetime.calls k n0 n1 n2 n3 true W  hk).mono fun e W' ⟨he, bel⟩ => ?_
  subst he
  exact ⟨_, rfl, _, _, _, [], _, [], hW', trodAll_mk1 (shut_bool Try.underlying4 _), (trodAll_cons_mk (Below.trod laidOut (by kernel_rfl) (of_decide_eq_true (by kernel_rfl)) k0 bel lt0) trodAll_mk0), rfl, bel.frame _, fun h => by cases h⟩
theorem over : Rows.fnExactLifetimeRow.holds Try.pinned (OpenSpec.ofChange Rows.fnExactLifetimeSpec) :=
  OpenClaim.holds_of_wide 3 Try.f3 rfl rfl rfl rfl rfl rfl rfl ⟨rfl, rfl, rfl, rfl, rfl⟩ rfl rfl rfl rfl rfl (by kernel_rfl) Try.func3 (by kernel_rfl)
    (of_decide_eq_true (by kernel_rfl)) (by unfold Func.isWrapper; first | (rw [if_pos (by decide +kernel)]; kernel_rfl) | (rw [if_neg (by decide +kernel)]; exact ⟨rfl, rfl⟩))
    (fun os started H enc _ => lifted os started H enc)
theorem proved : Rows.FnExactLifetimeSaid := over
#print axioms proved
end Go.Proofs.Ythjigecaojaalaa.fnExactLifetime
namespace Go.Proofs.Ythjigecaojaalaa
/-- The row, under a short name, for the claim. -/
theorem fnExactLifetime_holds : Rows.FnExactLifetimeSaid := fnExactLifetime.proved
end Go.Proofs.Ythjigecaojaalaa
