import Derived.Test.YtiibecpllokhiaaDoorProg
import Derived.Test.YtiibecpllokhiaaDoorRhWords
import Derived.Deep.Slices
import Derived.Deep.Strs
import Derived.Lib.SmallJoins
namespace Go.Proofs.YtiibecpllokhiaaDoor.Open
open Go.RowKit Go.ChangeShapes Go.WideShapes Go.Joins Go.Deep Go.Proofs.YtiibecpllokhiaaDoorW.PrintWords
set_option linter.unusedVariables false
variable {H : Type} {enc : TypeId × Value → H} {P : Program} {w : World} {spare : Nat → Bool} {held : Bool}
/-- Whatever reads as data of type T is told by d, and is good. -/
def Opens (enc : TypeId × Value → H) (P : Program) (w : World) (spare : Nat → Bool) (held : Bool) (T : TypeId) {α : Type} (d : Kd α) (good : α → Prop) : Prop :=
  ∀ fuel cs x, DataW.trod enc P w 0 spare held fuel T cs = some x → ∃ a, d.K w a cs ∧ good a
theorem opens_string {T : TypeId} (hT : P.underlying T = some .string) : Opens enc P w spare held T Kd.string (fun s => s.size ≤ maxLen) := by
  intro fuel cs x h
  obtain ⟨s, rfl, _, hs⟩ := DataW.trod_string hT h
  exact ⟨s, rfl, hs⟩
/-- Two fields of one cell each. -/
theorem opens_iso {T : TypeId} {α β : Type} {d : Kd α} {good : β → Prop} (f : β → α) (g : α → β) (hfg : ∀ x, f (g x) = x) (h : Opens enc P w spare held T d (fun x => good (g x))) : Opens enc P w spare held T (Kd.iso d f) good := by
  intro fuel cs x ht
  obtain ⟨a, ha, hg⟩ := h fuel cs x ht
  exact ⟨g a, by show d.K w (f (g a)) cs; rw [hfg]; exact ha, hg⟩
theorem opens_pair {T : TypeId} {f0 f1 : Field} {α β : Type} {a : Kd α} {b : Kd β} {ga : α → Prop} {gb : β → Prop} (hT : P.underlying T = some (.struct #[f0, f1])) (h0 : Opens enc P w spare held f0.type a ga) (h1 : Opens enc P w spare held f1.type b gb)
    (hz : ∀ cs : List Value, cs.length = P.cellsOf T → (cs.drop f0.offset).take (P.cellsOf f0.type) ++ (cs.drop f1.offset).take (P.cellsOf f1.type) = cs) : Opens enc P w spare held T (Kd.pair a b) (fun x => ga x.1 ∧ gb x.2) := by
  intro fuel cs x ht
  obtain ⟨y0, y1, n, _, hl, k0, k1⟩ := trod_struct2 hT ht
  obtain ⟨v0, e0, g0⟩ := h0 _ _ _ k0
  obtain ⟨v1, e1, g1⟩ := h1 _ _ _ k1
  exact ⟨(v0, v1), ⟨_, _, (hz cs hl).symm, e0, e1⟩, g0, g1⟩
end Go.Proofs.YtiibecpllokhiaaDoor.Open
