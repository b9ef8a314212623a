/- The program's TargetOf returns what the reference's returns, and leaves its argument: for every input. -/
import Derived.Test.YtiibecpllokhiaaRows
import Derived.Test.YtiibecpllokhiaaPureFnExactTargetOf
import Derived.Test.YtiibecpllokhiaaOpen
import Derived.WalkKit
import Derived.ProofKit
import Derived.OpenShut
import Derived.ShutString
import Derived.ChangeOld
import Derived.Below
import Derived.SizedLaws
namespace Go.Proofs.Ytiibecpllokhiaa.fnExactTargetOf
open Go.ChangeShapes Go.WideShapes Go.ChangeAt Go.RowKit Go.Joins
open Go.ChangeMaps (open_string shut_string)
open Go.Proofs.Ytiibecpllokhiaa.Open Go.Proofs.Ytiibecpllokhiaa.Q Go.Proofs.YtiibecpllokhiaaW.PrintWords
set_option linter.unusedVariables false
theorem own : ownKnob Try.prog.godebug = none := by kernel_rfl
theorem laidOut : laidOutB Try.prog = true := by kernel_rfl
theorem opens_S45 {H : Type} {enc : TypeId × Value → H} {w : World} {spare : Nat → Bool} {held : Bool} : Opens enc Try.prog w spare held 45 k45 (fun x => x.f0.size ≤ maxLen ∧ x.f1.size ≤ maxLen) :=
  opens_iso (fun x : S45 => (x.f0, x.f1)) (fun p => ⟨p.1, p.2⟩) (fun _ => rfl) (opens_pair Try.underlying45 (opens_string Try.underlying9) (opens_string Try.underlying9) (fun cs hl => by
    have hl : cs.length = 2 := hl
    match cs, hl with
    | [a, b], _ => rfl))
set_option maxRecDepth 100000 in
theorem lifted (os : Os) (started : os.Started) (H : Type) (enc : TypeId × Value → H) :
    ReturnsInHanded {} Try.checked os 4 .any (Rows.fnExactTargetOfSpec.pre6 enc Try.prog Try.f4 Rows.fnExactTargetOfRow.domain false) (Rows.fnExactTargetOfSpec.post enc Try.prog Try.f4 false true false false) := by
  refine returnsInHanded_of_change_sized (C := Try.checked) own started (by kernel_rfl) Try.func4
    (ChangeSpec.witness6 (enc := enc) (C := Try.checked) false ⟨#[], #[.agg #[.string ByteArray.empty, .slice none 0 0]], []⟩ 8 (by kernel_rfl) (by kernel_rfl) (by kernel_rfl) (by kernel_rfl)) ?_
  intro W base args ds gs before hval0 hW hcnd hsz0 _
  have hval : ∀ (j : Nat) t v, Try.f4.params[j]? = some t → args[j]? = some v → Value.okWide Try.prog W .any base t v := hval0
  have hW' := hW
  obtain ⟨p, q, hA0, hV, rfl, hfz, hnd⟩ := hW
  have hA : DataW.TrodAll enc Try.prog W 0 (fun _ => true) true Try.f4.params.toList args.toList ds p := hA0
  rw [Try.params4] at hA hval
  obtain ⟨v0, vs0, d0, ds0, p0, q0, hargs, rfl, rfl, h0, r0⟩ := trodAll_cons hA
  obtain ⟨rfl, rfl, rfl⟩ := trodAll_nil r0
  obtain rfl : args = #[v0] := by cases args; simp_all
  obtain ⟨rfl, rfl⟩ := trodVars_none hV
  have k0 := h0
  have lt0 : ∀ x ∈ p0, x.block < W.heap.size := by obtain ⟨m, hm⟩ := k0; exact DataW.trod_lt m _ _ _ hm
  obtain ⟨c0_0, c0_1, y0_0, y0_1, m0, rfl, _, _, g0_0, g0_1⟩ := open_agg2 Try.underlying24 (by kernel_rfl) (by kernel_rfl) (hval 0 24 v0 rfl rfl) h0
  obtain ⟨n0, e0, w0⟩ := (opens_string Try.underlying9) _ _ _ g0_0
  obtain rfl : c0_0 = .string n0 := by injection e0
  obtain ⟨l1, ⟨A1, cap1, e1, hc1, hr1⟩, hl1, hg1⟩ := (opens_slice (d := k45) Try.underlying22 (by kernel_rfl) opens_S45) _ _ _ g0_1
  obtain rfl : c0_1 = .slice A1 l1.length cap1 := by injection e1
  clear hA0 hval0 hsz0
  obtain ⟨k, hk⟩ := pureTargetOf n0 l1 w0 hl1 hg1
  refine (laws_FnExactTargetOf.calls k n0 A1 cap1 l1 true W hr1 hc1 hk).mono fun e W' ⟨he, bel⟩ => ?_
  subst he
  exact ⟨_, rfl, _, _, _, [], _, [], hW', trodAll_mk1 (shut_bool Try.underlying4 _), (trodAll_cons_mk (Below.trod laidOut (by kernel_rfl) (of_decide_eq_true (by kernel_rfl)) k0 bel lt0) trodAll_mk0), rfl, bel.frame _, fun h => by cases h⟩
theorem over : Rows.fnExactTargetOfRow.holds Try.pinned (OpenSpec.ofChange Rows.fnExactTargetOfSpec) :=
  OpenClaim.holds_of_wide 4 Try.f4 rfl rfl rfl rfl rfl rfl rfl ⟨rfl, rfl, rfl, rfl, rfl⟩ rfl rfl rfl rfl rfl (by kernel_rfl) Try.func4 (by kernel_rfl)
    (of_decide_eq_true (by kernel_rfl)) (by unfold Func.isWrapper; first | (rw [if_pos (by decide +kernel)]; kernel_rfl) | (rw [if_neg (by decide +kernel)]; exact ⟨rfl, rfl⟩))
    (fun os started H enc _ => lifted os started H enc)
theorem proved : Rows.FnExactTargetOfSaid := over
#print axioms proved
end Go.Proofs.Ytiibecpllokhiaa.fnExactTargetOf
namespace Go.Proofs.Ytiibecpllokhiaa
/-- The row, under a short name, for the claim. -/
theorem fnExactTargetOf_holds : Rows.FnExactTargetOfSaid := fnExactTargetOf.proved
end Go.Proofs.Ytiibecpllokhiaa
