/- What is told of a drawn policy, right or not, is what the document tells; who is dropped is not there: for every draw. -/
import Derived.Test.YtoopdknphikgkaaRows
import Derived.Test.YtoopdknphikgkaaPtPureAll
import Derived.Test.YtoopdknphikgkaaPtOpen
import Derived.WalkKit
import Derived.ProofKit
import Derived.OpenShut
import Derived.ShutString
import Derived.ChangeOld
import Derived.Below
import Derived.SizedLaws
namespace Go.Proofs.Ytoopdknphikgkaa.fnPoliciesTold
open Go.ChangeShapes Go.WideShapes Go.ChangeAt Go.RowKit Go.Joins
open Go.ChangeMaps (open_string shut_string)
open Go.Proofs.Ytoopdknphikgkaa.Open Go.Proofs.Ytoopdknphikgkaa.Q Go.Proofs.YtoopdknphikgkaaW.PrintWords
set_option linter.unusedVariables false
theorem own : ownKnob Try.prog.godebug = none := by kernel_rfl
theorem laidOut : laidOutB Try.prog = true := by kernel_rfl
set_option maxRecDepth 100000 in
theorem lifted (os : Os) (started : os.Started) (H : Type) (enc : TypeId × Value → H) :
    ReturnsInHanded {} Try.checked os 16 .any (Rows.fnPoliciesToldSpec.pre6 enc Try.prog Try.f16 Rows.fnPoliciesToldRow.domain false) (Rows.fnPoliciesToldSpec.post enc Try.prog Try.f16 false true false false) := by
  refine returnsInHanded_of_change_sized (C := Try.checked) own started (by kernel_rfl) Try.func16
    (ChangeSpec.witness6 (enc := enc) (C := Try.checked) false ⟨#[], #[.slice none 0 0], []⟩ 8 (by kernel_rfl) (by kernel_rfl) (by kernel_rfl) (by kernel_rfl)) ?_
  intro W base args ds gs before hval0 hW hcnd hsz0 _
  have hval : ∀ (j : Nat) t v, Try.f16.params[j]? = some t → args[j]? = some v → Value.okWide Try.prog W .any base t v := hval0
  have hW' := hW
  obtain ⟨p, q, hA0, hV, rfl, hfz, hnd⟩ := hW
  have hA : DataW.TrodAll enc Try.prog W 0 (fun _ => true) true Try.f16.params.toList args.toList ds p := hA0
  rw [Try.params16] at hA hval
  obtain ⟨v0, vs0, d0, ds0, p0, q0, hargs, rfl, rfl, h0, r0⟩ := trodAll_cons hA
  obtain ⟨rfl, rfl, rfl⟩ := trodAll_nil r0
  obtain rfl : args = #[v0] := by cases args; simp_all
  obtain ⟨rfl, rfl⟩ := trodVars_none hV
  have k0 := h0
  have lt0 : ∀ x ∈ p0, x.block < W.heap.size := by obtain ⟨m, hm⟩ := k0; exact DataW.trod_lt m _ _ _ hm
  obtain ⟨a0, len0, cp0, rfl⟩ := okWide_slice Try.underlying36 (hval 0 36 v0 rfl rfl)
  obtain ⟨fu0, hf0⟩ := h0
  obtain ⟨l0, ⟨A0, cap0, e0, hc0, hr0⟩, hl0, hg0⟩ := (opens_slice (d := (Kd.int .u8)) Try.underlying36 (by kernel_rfl) (opens_int Try.underlying5)) _ _ _ hf0
  have e0' : Value.slice a0 len0 cp0 = .slice A0 l0.length cap0 := by simpa [Value.cells] using e0
  injection e0' with ea0 en0 ec0
  subst ea0 en0 ec0
  clear hA0 hval0 hsz0
  obtain ⟨k, hk⟩ := pureFnPoliciesTold l0 hl0 hg0
  refine (laws_FnPoliciesTold.calls k a0 cp0 l0 true W hr0 hc0 hk).mono fun e W' ⟨he, bel⟩ => ?_
  subst he
  exact ⟨_, rfl, _, _, _, [], _, [], hW', trodAll_mk1 (shut_bool Try.underlying4 _), (trodAll_cons_mk (Below.trod laidOut (by kernel_rfl) (of_decide_eq_true (by kernel_rfl)) k0 bel lt0) trodAll_mk0), rfl, bel.frame _, fun h => by cases h⟩
theorem over : Rows.fnPoliciesToldRow.holds Try.pinned (OpenSpec.ofChange Rows.fnPoliciesToldSpec) :=
  OpenClaim.holds_of_wide 16 Try.f16 rfl rfl rfl rfl rfl rfl rfl ⟨rfl, rfl, rfl, rfl, rfl⟩ rfl rfl rfl rfl rfl (by kernel_rfl) Try.func16 (by kernel_rfl)
    (of_decide_eq_true (by kernel_rfl)) (by unfold Func.isWrapper; first | (rw [if_pos (by decide +kernel)]; kernel_rfl) | (rw [if_neg (by decide +kernel)]; exact ⟨rfl, rfl⟩))
    (fun os started H enc _ => lifted os started H enc)
theorem proved : Rows.FnPoliciesToldSaid := over
#print axioms proved
end Go.Proofs.Ytoopdknphikgkaa.fnPoliciesTold
namespace Go.Proofs.Ytoopdknphikgkaa
/-- The row, under a short name, for the claim. -/
theorem fnPoliciesTold_holds : Rows.FnPoliciesToldSaid := fnPoliciesTold.proved
end Go.Proofs.Ytoopdknphikgkaa
