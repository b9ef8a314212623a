import Derived.Test.YtoopdknphikgkaaProg
import Derived.Test.YtoopdknphikgkaaPtWords
import Derived.Deep.Slices
import Derived.Deep.Strs
import Derived.Lib.SmallJoins
namespace Go.Proofs.Ytoopdknphikgkaa.Open
open Go.RowKit Go.ChangeShapes Go.WideShapes Go.Joins Go.Deep Go.Proofs.YtoopdknphikgkaaW.PrintWords
set_option linter.unusedVariables false
variable {H : Type} {enc : TypeId × Value → H} {P : Program} {w : World} {spare : Nat → Bool} {held : Bool}
/-- Whatever reads as data of type T is told by d, and is good. -/
def Opens (enc : TypeId × Value → H) (P : Program) (w : World) (spare : Nat → Bool) (held : Bool) (T : TypeId) {α : Type} (d : Kd α) (good : α → Prop) : Prop :=
  ∀ fuel cs x, DataW.trod enc P w 0 spare held fuel T cs = some x → ∃ a, d.K w a cs ∧ good a
theorem opens_int {T : TypeId} {k : IntKind} (hT : P.underlying T = some (.int k)) : Opens enc P w spare held T (Kd.int k) (fun n => (Lit.int k n).wf = true) := by
  intro fuel cs x h
  obtain ⟨n, rfl, _, hw⟩ := DataW.trod_int hT h
  exact ⟨n, rfl, hw⟩
theorem opens_slice {T E : TypeId} {α : Type} {d : Kd α} {good : α → Prop} (hT : P.underlying T = some (.slice E)) (hsz : P.cellsOf E = d.sz) (h : Opens enc P w spare held E d good) :
    Opens enc P w spare held T (Kd.slice E d) (fun xs => xs.length ≤ maxLen ∧ ∀ x ∈ xs, good x) := by
  intro fuel cs x ht
  rcases Go.Deep.open_slice hT ht with ⟨rfl, _⟩ | ⟨a, len, cap, m, n, D, Pl, rfl, _, hl, hm, hmm, _, hx⟩
  · exact ⟨[], ⟨none, 0, rfl, Nat.le_refl _, Kd.C_nil d w⟩, by simp⟩
  · have hle : len ≤ m := by rw [hmm]; split <;> omega
    have hx' : ∀ i, i < len → ∃ (c : α × List Value), c.2.length = d.sz ∧ d.K w c.1 c.2 ∧ good c.1 ∧ ∀ j u, c.2[j]? = some u → w.cell? (a.add (i * d.sz + j)) = some u := by
      intro i hi
      obtain ⟨cs', h1, h2⟩ := hx i (by omega)
      obtain ⟨_, h4, h5⟩ := World.cells?_some h1
      obtain ⟨y, hy, hg⟩ := h n cs' _ h2
      refine ⟨(y, cs'), by rw [h4, hsz], hy, hg, fun j u hj => ?_⟩
      have hlt : j < P.cellsOf E := by rw [← h4]; exact (List.getElem?_eq_some_iff.mp hj).1
      have h6 := h5 j hlt
      dsimp only at hj
      rw [hj] at h6
      rw [← h6, hsz]
      rw [Addr.add_add]
    obtain ⟨f, hf⟩ : ∃ f : (i : Nat) → i < len → α × List Value, ∀ i hi, (f i hi).2.length = d.sz ∧ d.K w (f i hi).1 (f i hi).2 ∧ good (f i hi).1 ∧ ∀ j u, (f i hi).2[j]? = some u → w.cell? (a.add (i * d.sz + j)) = some u := by
      exact ⟨fun i hi => Classical.choose (hx' i hi), fun i hi => Classical.choose_spec (hx' i hi)⟩
    have hlen : ((List.finRange len).map (fun i => (f i.1 i.2).1)).length = len := by simp
    refine ⟨(List.finRange len).map (fun i => (f i.1 i.2).1), ⟨some a, cap, by rw [hlen], by rw [hlen]; exact hl, ⟨rfl, ?_, fun _ => ⟨a, rfl, ?_⟩⟩⟩, by rw [hlen]; omega, ?_⟩
    · rw [hlen]; unfold maxLen at hm; omega
    · intro j p hp
      rw [List.getElem?_map] at hp
      by_cases hj : j < len
      · have e : (List.finRange len)[j]? = some ⟨j, hj⟩ := by simp [hj]
        rw [e] at hp
        simp only [Option.map_some, Option.some.injEq] at hp
        subst hp
        obtain ⟨k1, k2, k3, k4⟩ := hf j hj
        exact ⟨_, k1, k2, k4⟩
      · rw [List.getElem?_eq_none (by simp; omega)] at hp
        simp at hp
    · intro x hx
      obtain ⟨i, _, rfl⟩ := List.mem_map.mp hx
      exact (hf i.1 i.2).2.2.1
end Go.Proofs.Ytoopdknphikgkaa.Open
