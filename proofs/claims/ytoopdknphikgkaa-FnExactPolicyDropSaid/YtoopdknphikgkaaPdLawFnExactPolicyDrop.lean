/- The program's PolicyDrop returns what the reference's returns, in new memory, and leaves its arguments: for every input. -/
import Derived.Test.YtoopdknphikgkaaRows
import Derived.Test.YtoopdknphikgkaaPdPureFnExactPolicyDrop
import Derived.Test.YtoopdknphikgkaaPdOpen
import Derived.WalkKit
import Derived.ProofKit
import Derived.OpenShut
import Derived.ShutString
import Derived.ChangeOld
import Derived.Below
import Derived.SizedLaws
namespace Go.Proofs.Ytoopdknphikgkaa.fnExactPolicyDrop
open Go.ChangeShapes Go.WideShapes Go.ChangeAt Go.RowKit Go.Joins
open Go.ChangeMaps (open_string shut_string)
open Go.Proofs.Ytoopdknphikgkaa.Open Go.Proofs.Ytoopdknphikgkaa.Q Go.Proofs.YtoopdknphikgkaaW.PrintWords
set_option linter.unusedVariables false
theorem own : ownKnob Try.prog.godebug = none := by kernel_rfl
theorem laidOut : laidOutB Try.prog = true := by kernel_rfl
set_option maxRecDepth 100000 in
theorem lifted (os : Os) (started : os.Started) (H : Type) (enc : TypeId × Value → H) :
    ReturnsInHanded {} Try.checked os 14 .any (Rows.fnExactPolicyDropSpec.pre6 enc Try.prog Try.f14 Rows.fnExactPolicyDropRow.domain false) (Rows.fnExactPolicyDropSpec.post enc Try.prog Try.f14 false true false false) := by
  refine returnsInHanded_of_change_sized (C := Try.checked) own started (by kernel_rfl) Try.func14
    (ChangeSpec.witness6 (enc := enc) (C := Try.checked) false ⟨#[], #[.agg #[.slice none 0 0, .slice none 0 0, .slice none 0 0, .int .i64 0], .string ByteArray.empty], []⟩ 8 (by kernel_rfl) (by kernel_rfl) (by kernel_rfl) (by kernel_rfl)) ?_
  intro W base args ds gs before hval0 hW hcnd hsz0 _
  have hval : ∀ (j : Nat) t v, Try.f14.params[j]? = some t → args[j]? = some v → Value.okWide Try.prog W .any base t v := hval0
  have hW' := hW
  obtain ⟨p, q, hA0, hV, rfl, hfz, hnd⟩ := hW
  have hA : DataW.TrodAll enc Try.prog W 0 (fun _ => true) true Try.f14.params.toList args.toList ds p := hA0
  rw [Try.params14] at hA hval
  obtain ⟨v0, vs0, d0, ds0, p0, q0, hargs, rfl, rfl, h0, r0⟩ := trodAll_cons hA
  obtain ⟨v1, vs1, d1, ds1, p1, q1, rfl, rfl, rfl, h1, r1⟩ := trodAll_cons r0
  obtain ⟨rfl, rfl, rfl⟩ := trodAll_nil r1
  obtain rfl : args = #[v0, v1] := by cases args; simp_all
  obtain ⟨rfl, rfl⟩ := trodVars_none hV
  have k0 := h0
  have lt0 : ∀ x ∈ p0, x.block < W.heap.size := by obtain ⟨m, hm⟩ := k0; exact DataW.trod_lt m _ _ _ hm
  have k1 := h1
  have lt1 : ∀ x ∈ p1, x.block < W.heap.size := by obtain ⟨m, hm⟩ := k1; exact DataW.trod_lt m _ _ _ hm
  obtain ⟨c0_0, c0_1, c0_2, c0_3, y0_0, y0_1, y0_2, y0_3, m0, mm0, rfl, g0_0, g0_1, g0_2, g0_3⟩ := open_agg112 Try.underlying49 Try.underlying31 rfl rfl rfl rfl rfl (by kernel_rfl) (by kernel_rfl) (by kernel_rfl) (by kernel_rfl) (by kernel_rfl) (by kernel_rfl) (hval 0 49 v0 rfl rfl) h0
  obtain ⟨l0, ⟨A0, cap0, e0, hc0, hr0⟩, hl0, hg0⟩ := (opens_slice (d := Kd.string) Try.underlying38 (by kernel_rfl) (opens_string Try.underlying9)) _ _ _ g0_0
  obtain rfl : c0_0 = .slice A0 l0.length cap0 := by injection e0
  obtain ⟨l1, ⟨A1, cap1, e1, hc1, hr1⟩, hl1, hg1⟩ := (opens_slice (d := Kd.string) Try.underlying38 (by kernel_rfl) (opens_string Try.underlying9)) _ _ _ g0_1
  obtain rfl : c0_1 = .slice A1 l1.length cap1 := by injection e1
  obtain ⟨l2, ⟨A2, cap2, e2, hc2, hr2⟩, hl2, hg2⟩ := (opens_slice (d := (Kd.slice 3 (Kd.int .i64))) Try.underlying24 (by kernel_rfl) (opens_slice (d := (Kd.int .i64)) Try.underlying58 (by kernel_rfl) (opens_int Try.underlying3))) _ _ _ g0_2
  obtain rfl : c0_2 = .slice A2 l2.length cap2 := by injection e2
  obtain ⟨n3, e3, w3⟩ := (opens_int Try.underlying3) _ _ _ g0_3
  obtain rfl : c0_3 = .int .i64 n3 := by injection e3
  obtain ⟨n4, rfl, rfl, rfl, w4⟩ := open_string Try.underlying9 (hval 1 9 v1 rfl rfl) h1
  clear hA0 hval0 hsz0
  obtain ⟨k, hk⟩ := purePolicyDrop l0 l1 l2 n3 n4 hl0 hg0 hl1 hg1 hl2 hg2 w3 w4
  refine (laws_FnExactPolicyDrop.calls k A0 cap0 l0 A1 cap1 l1 A2 cap2 l2 n3 n4 true W hr0 hc0 hr1 hc1 hr2 hc2 hk).mono fun e W' ⟨he, bel⟩ => ?_
  subst he
  exact ⟨_, rfl, _, _, _, [], _, [], hW', trodAll_mk1 (shut_bool Try.underlying4 _), (trodAll_cons_mk (Below.trod laidOut (by kernel_rfl) (of_decide_eq_true (by kernel_rfl)) k0 bel lt0) (trodAll_cons_mk (Below.trod laidOut (by kernel_rfl) (of_decide_eq_true (by kernel_rfl)) k1 bel lt1) trodAll_mk0)), rfl, bel.frame _, fun h => by cases h⟩
theorem over : Rows.fnExactPolicyDropRow.holds Try.pinned (OpenSpec.ofChange Rows.fnExactPolicyDropSpec) :=
  OpenClaim.holds_of_wide 14 Try.f14 rfl rfl rfl rfl rfl rfl rfl ⟨rfl, rfl, rfl, rfl, rfl⟩ rfl rfl rfl rfl rfl (by kernel_rfl) Try.func14 (by kernel_rfl)
    (of_decide_eq_true (by kernel_rfl)) (by unfold Func.isWrapper; first | (rw [if_pos (by decide +kernel)]; kernel_rfl) | (rw [if_neg (by decide +kernel)]; exact ⟨rfl, rfl⟩))
    (fun os started H enc _ => lifted os started H enc)
theorem proved : Rows.FnExactPolicyDropSaid := over
#print axioms proved
end Go.Proofs.Ytoopdknphikgkaa.fnExactPolicyDrop
namespace Go.Proofs.Ytoopdknphikgkaa
/-- The row, under a short name, for the claim. -/
theorem fnExactPolicyDrop_holds : Rows.FnExactPolicyDropSaid := fnExactPolicyDrop.proved
end Go.Proofs.Ytoopdknphikgkaa
