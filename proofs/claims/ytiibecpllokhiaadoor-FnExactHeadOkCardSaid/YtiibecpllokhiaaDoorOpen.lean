import Derived.Test.YtiibecpllokhiaaDoorProg
import Derived.Test.YtiibecpllokhiaaDoorWWords
import Derived.Deep.Slices
import Derived.Deep.Strs
import Derived.Lib.SmallJoins
/-! How what comes in is laid open: a value that reads as data is told by a kind ('Kd') of the words. -/
namespace Go.Proofs.YtiibecpllokhiaaDoor.Open
open Go.RowKit Go.ChangeShapes Go.WideShapes Go.Joins Go.Deep Go.Proofs.YtiibecpllokhiaaDoorW.PrintWords
set_option linter.unusedVariables false
variable {H : Type} {enc : TypeId × Value → H} {P : Program} {w : World} {spare : Nat → Bool} {held : Bool}
/-- Whatever reads as data of type T is told by d, and is good. -/
def Opens (enc : TypeId × Value → H) (P : Program) (w : World) (spare : Nat → Bool) (held : Bool) (T : TypeId) {α : Type} (d : Kd α) (good : α → Prop) : Prop :=
  ∀ fuel cs x, DataW.trod enc P w 0 spare held fuel T cs = some x → ∃ a, d.K w a cs ∧ good a
theorem opens_int {T : TypeId} {k : IntKind} (hT : P.underlying T = some (.int k)) : Opens enc P w spare held T (Kd.int k) (fun n => (Lit.int k n).wf = true) := by
  intro fuel cs x h
  obtain ⟨n, rfl, _, hw⟩ := DataW.trod_int hT h
  exact ⟨n, rfl, hw⟩
theorem opens_bool {T : TypeId} (hT : P.underlying T = some .bool) : Opens enc P w spare held T Kd.bool (fun _ => True) := by
  intro fuel cs x h
  obtain ⟨b, rfl, _⟩ := DataW.trod_bool hT h
  exact ⟨b, rfl, trivial⟩
theorem opens_string {T : TypeId} (hT : P.underlying T = some .string) : Opens enc P w spare held T Kd.string (fun s => s.size ≤ maxLen) := by
  intro fuel cs x h
  obtain ⟨s, rfl, _, hs⟩ := DataW.trod_string hT h
  exact ⟨s, rfl, hs⟩
theorem opens_slice {T E : TypeId} {α : Type} {d : Kd α} {good : α → Prop} (hT : P.underlying T = some (.slice E)) (hsz : P.cellsOf E = d.sz) (h : Opens enc P w spare held E d good) :
    Opens enc P w spare held T (Kd.slice E d) (fun xs => xs.length ≤ maxLen ∧ ∀ x ∈ xs, good x) := by
  intro fuel cs x ht
  rcases Go.Deep.open_slice hT ht with ⟨rfl, _⟩ | ⟨a, len, cap, m, n, D, Pl, rfl, _, hl, hm, hmm, _, hx⟩
  · exact ⟨[], ⟨none, 0, rfl, Nat.le_refl _, Kd.C_nil d w⟩, by simp⟩
  · have hle : len ≤ m := by rw [hmm]; split <;> omega
    have hx' : ∀ i, i < len → ∃ (c : α × List Value), c.2.length = d.sz ∧ d.K w c.1 c.2 ∧ good c.1 ∧ ∀ j u, c.2[j]? = some u → w.cell? (a.add (i * d.sz + j)) = some u := by
      intro i hi
      obtain ⟨cs', h1, h2⟩ := hx i (by omega)
      obtain ⟨_, h4, h5⟩ := World.cells?_some h1
      obtain ⟨y, hy, hg⟩ := h n cs' _ h2
      refine ⟨(y, cs'), by rw [h4, hsz], hy, hg, fun j u hj => ?_⟩
      have hlt : j < P.cellsOf E := by rw [← h4]; exact (List.getElem?_eq_some_iff.mp hj).1
      have h6 := h5 j hlt
      dsimp only at hj
      rw [hj] at h6
      rw [← h6, hsz]
      rw [Addr.add_add]
    obtain ⟨f, hf⟩ : ∃ f : (i : Nat) → i < len → α × List Value, ∀ i hi, (f i hi).2.length = d.sz ∧ d.K w (f i hi).1 (f i hi).2 ∧ good (f i hi).1 ∧ ∀ j u, (f i hi).2[j]? = some u → w.cell? (a.add (i * d.sz + j)) = some u := by
      exact ⟨fun i hi => Classical.choose (hx' i hi), fun i hi => Classical.choose_spec (hx' i hi)⟩
    have hlen : ((List.finRange len).map (fun i => (f i.1 i.2).1)).length = len := by simp
    refine ⟨(List.finRange len).map (fun i => (f i.1 i.2).1), ⟨some a, cap, by rw [hlen], by rw [hlen]; exact hl, ⟨rfl, ?_, fun _ => ⟨a, rfl, ?_⟩⟩⟩, by rw [hlen]; omega, ?_⟩
    · rw [hlen]; unfold maxLen at hm; omega
    · intro j p hp
      rw [List.getElem?_map] at hp
      by_cases hj : j < len
      · have e : (List.finRange len)[j]? = some ⟨j, hj⟩ := by simp [hj]
        rw [e] at hp
        simp only [Option.map_some, Option.some.injEq] at hp
        subst hp
        obtain ⟨k1, k2, k3, k4⟩ := hf j hj
        exact ⟨_, k1, k2, k4⟩
      · rw [List.getElem?_eq_none (by simp; omega)] at hp
        simp at hp
    · intro x hx
      obtain ⟨i, _, rfl⟩ := List.mem_map.mp hx
      exact (hf i.1 i.2).2.2.1
/-- Two fields of one cell each. -/
theorem opens_iso {T : TypeId} {α β : Type} {d : Kd α} {good : β → Prop} (f : β → α) (g : α → β) (hfg : ∀ x, f (g x) = x) (h : Opens enc P w spare held T d (fun x => good (g x))) : Opens enc P w spare held T (Kd.iso d f) good := by
  intro fuel cs x ht
  obtain ⟨a, ha, hg⟩ := h fuel cs x ht
  exact ⟨g a, by show d.K w (f (g a)) cs; rw [hfg]; exact ha, hg⟩
theorem opens_pair {T : TypeId} {f0 f1 : Field} {α β : Type} {a : Kd α} {b : Kd β} {ga : α → Prop} {gb : β → Prop} (hT : P.underlying T = some (.struct #[f0, f1])) (h0 : Opens enc P w spare held f0.type a ga) (h1 : Opens enc P w spare held f1.type b gb)
    (hz : ∀ cs : List Value, cs.length = P.cellsOf T → (cs.drop f0.offset).take (P.cellsOf f0.type) ++ (cs.drop f1.offset).take (P.cellsOf f1.type) = cs) : Opens enc P w spare held T (Kd.pair a b) (fun x => ga x.1 ∧ gb x.2) := by
  intro fuel cs x ht
  obtain ⟨y0, y1, n, _, hl, k0, k1⟩ := trod_struct2 hT ht
  obtain ⟨v0, e0, g0⟩ := h0 _ _ _ k0
  obtain ⟨v1, e1, g1⟩ := h1 _ _ _ k1
  exact ⟨(v0, v1), ⟨_, _, (hz cs hl).symm, e0, e1⟩, g0, g1⟩
/-- A struct of two fields of one cell each and a struct of two. -/
theorem open_agg112 {base : Nat} {r : Reach} {b0 : Nat} {t : TypeId} {f0 f1 f2 g0 g1 : Field} {v : Value} {d : DataW H} {p : List MemPlace} (hs : P.underlying t = some (.struct #[f0, f1, f2])) (hs2 : P.underlying f2.type = some (.struct #[g0, g1]))
    (o0 : f0.offset = 0) (o1 : f1.offset = 1) (o2 : f2.offset = 2) (p0 : g0.offset = 0) (p1 : g1.offset = 1) (k0 : P.cellsOf f0.type = 1) (k1 : P.cellsOf f1.type = 1) (k2 : P.cellsOf f2.type = 2) (q0 : P.cellsOf g0.type = 1) (q1 : P.cellsOf g1.type = 1) (hC : P.cellsOf t = 4)
    (hv : Value.okWide P w r b0 t v) (h : DataW.Trod enc P w base spare held t v d p) :
    ∃ (v0 v1 v2 v3 : Value) (y0 y1 y2 y3 : DataW H × List MemPlace) (n m : Nat), v = .agg #[v0, v1, v2, v3] ∧
      DataW.trod enc P w base spare held n f0.type [v0] = some y0 ∧ DataW.trod enc P w base spare held n f1.type [v1] = some y1 ∧ DataW.trod enc P w base spare held m g0.type [v2] = some y2 ∧ DataW.trod enc P w base spare held m g1.type [v3] = some y3 := by
  obtain ⟨cs, rfl, hsz⟩ := okWide_struct hs hv
  obtain ⟨c0, c1, c2, c3, rfl⟩ := array4 (hsz.trans hC)
  obtain ⟨fuel, hf⟩ := h
  obtain ⟨y0, y1, y2, n, hx, _, h0, h1, h2⟩ := trod_struct3 hs hf
  have h2' : DataW.trod enc P w base spare held n f2.type [c2, c3] = some y2 := by simpa [Value.cells, o2, k2] using h2
  obtain ⟨z0, z1, m, _, _, j0, j1⟩ := trod_struct2 hs2 h2'
  exact ⟨c0, c1, c2, c3, y0, y1, z0, z1, n, m, rfl, by simpa [Value.cells, o0, k0] using h0, by simpa [Value.cells, o1, k1] using h1, by simpa [p0, q0] using j0, by simpa [p1, q1] using j1⟩
end Go.Proofs.YtiibecpllokhiaaDoor.Open
