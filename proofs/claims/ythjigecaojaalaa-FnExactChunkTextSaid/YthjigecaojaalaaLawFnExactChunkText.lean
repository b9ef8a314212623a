/- The program's ChunkText returns what the reference's returns, and leaves its argument: for every input. -/
import Derived.Test.YthjigecaojaalaaRows
import Derived.Test.YthjigecaojaalaaPureFnExactChunkText
import Derived.Test.YthjigecaojaalaaOpen
import Derived.WalkKit
import Derived.ProofKit
import Derived.OpenShut
import Derived.ShutString
import Derived.ChangeOld
import Derived.Below
import Derived.SizedLaws
namespace Go.Proofs.Ythjigecaojaalaa.fnExactChunkText
open Go.ChangeShapes Go.WideShapes Go.ChangeAt Go.RowKit Go.Joins
open Go.ChangeMaps (open_string shut_string)
open Go.Proofs.Ythjigecaojaalaa.Open Go.Proofs.Ythjigecaojaalaa.Q Go.Proofs.YthjigecaojaalaaW.PrintWords
set_option linter.unusedVariables false
theorem own : ownKnob Try.prog.godebug = none := by kernel_rfl
theorem laidOut : laidOutB Try.prog = true := by kernel_rfl
set_option maxRecDepth 100000 in
theorem lifted (os : Os) (started : os.Started) (H : Type) (enc : TypeId × Value → H) :
    ReturnsInHanded {} Try.checked os 4 .any (Rows.fnExactChunkTextSpec.pre6 enc Try.prog Try.f4 Rows.fnExactChunkTextRow.domain false) (Rows.fnExactChunkTextSpec.post enc Try.prog Try.f4 false true false false) := by
  refine returnsInHanded_of_change_sized (C := Try.checked) own started (by kernel_rfl) Try.func4
    (ChangeSpec.witness6 (enc := enc) (C := Try.checked) false ⟨#[], #[.slice none 0 0], []⟩ 8 (by kernel_rfl) (by kernel_rfl) (by kernel_rfl) (by kernel_rfl)) ?_
  intro W base args ds gs before hval0 hW hcnd hsz0 _
  have hval : ∀ (j : Nat) t v, Try.f4.params[j]? = some t → args[j]? = some v → Value.okWide Try.prog W .any base t v := hval0
  have hW' := hW
  obtain ⟨p, q, hA0, hV, rfl, hfz, hnd⟩ := hW
  have hA : DataW.TrodAll enc Try.prog W 0 (fun _ => true) true Try.f4.params.toList args.toList ds p := hA0
  rw [Try.params4] at hA hval
  obtain ⟨v0, vs0, d0, ds0, p0, q0, hargs, rfl, rfl, h0, r0⟩ := trodAll_cons hA
  obtain ⟨rfl, rfl, rfl⟩ := trodAll_nil r0
  obtain rfl : args = #[v0] := by cases args; simp_all
  obtain ⟨rfl, rfl⟩ := trodVars_none hV
  have k0 := h0
  have lt0 : ∀ x ∈ p0, x.block < W.heap.size := by obtain ⟨m, hm⟩ := k0; exact DataW.trod_lt m _ _ _ hm
  obtain ⟨a0, len0, cp0, rfl⟩ := okWide_slice Try.underlying28 (hval 0 28 v0 rfl rfl)
  obtain ⟨fu0, hf0⟩ := h0
  obtain ⟨l0, ⟨A0, cap0, e0, hc0, hr0⟩, hl0, hg0⟩ := (opens_slice (d := Kd.string) Try.underlying28 (by kernel_rfl) (opens_string Try.underlying9)) _ _ _ hf0
  have e0' : Value.slice a0 len0 cp0 = .slice A0 l0.length cap0 := by simpa [Value.cells] using e0
  injection e0' with ea0 en0 ec0
  subst ea0 en0 ec0
  clear hA0 hval0 hsz0
  obtain ⟨k, hk⟩ := pureChunkText l0 hl0 hg0
  refine (laws_FnExactChunkText.calls k a0 cp0 l0 true W hr0 hc0 hk).mono fun e W' ⟨he, bel⟩ => ?_
  subst he
  exact ⟨_, rfl, _, _, _, [], _, [], hW', trodAll_mk1 (shut_bool Try.underlying4 _), (trodAll_cons_mk (Below.trod laidOut (by kernel_rfl) (of_decide_eq_true (by kernel_rfl)) k0 bel lt0) trodAll_mk0), rfl, bel.frame _, fun h => by cases h⟩
theorem over : Rows.fnExactChunkTextRow.holds Try.pinned (OpenSpec.ofChange Rows.fnExactChunkTextSpec) :=
  OpenClaim.holds_of_wide 4 Try.f4 rfl rfl rfl rfl rfl rfl rfl ⟨rfl, rfl, rfl, rfl, rfl⟩ rfl rfl rfl rfl rfl (by kernel_rfl) Try.func4 (by kernel_rfl)
    (of_decide_eq_true (by kernel_rfl)) (by unfold Func.isWrapper; first | (rw [if_pos (by decide +kernel)]; kernel_rfl) | (rw [if_neg (by decide +kernel)]; exact ⟨rfl, rfl⟩))
    (fun os started H enc _ => lifted os started H enc)
theorem proved : Rows.FnExactChunkTextSaid := over
#print axioms proved
end Go.Proofs.Ythjigecaojaalaa.fnExactChunkText
namespace Go.Proofs.Ythjigecaojaalaa
/-- The row, under a short name, for the claim. -/
theorem fnExactChunkText_holds : Rows.FnExactChunkTextSaid := fnExactChunkText.proved
end Go.Proofs.Ythjigecaojaalaa
