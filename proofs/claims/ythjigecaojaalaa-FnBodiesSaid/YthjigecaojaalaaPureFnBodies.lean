import Derived.Test.YthjigecaojaalaaRound
import Derived.Test.YthjigecaojaalaaDrawB
import Derived.Test.YthjigecaojaalaaG21
namespace Go.Proofs.Ythjigecaojaalaa.Q
open Go.RowKit Go.Proofs.YthjigecaojaalaaW.PrintWords Go.Proofs.YthjigecaojaalaaW.PrintLast Go.Proofs.YthjigecaojaalaaW.PrintMore
theorem none_app (t : ByteArray) : (⟨#[]⟩ : ByteArray) ++ t = t := ByteArray.empty_append
theorem rdS_at (l : List ByteArray) (i : Nat) (h : i < l.length) : rdOf ByteArray.empty l i = l[i] := by simp [rdOf, h]
theorem parts_small (ps : List ByteArray) (h : partsOk ps) : okP ps ∧ ctot ps ≤ 20 * ps.length ∧ (call ps).size = ctot ps ∧ (ctext ps).size ≤ 105 * ps.length + 5 := by
  induction ps with
  | nil => exact ⟨fun p hp => absurd hp (by simp), by simp [ctot], rfl, by show 5 ≤ _; simp⟩
  | cons p r ih =>
    have hp := h p (List.mem_cons_self ..)
    obtain ⟨a, b, c, d⟩ := ih fun q hq => h q (List.mem_cons_of_mem _ hq)
    have h2 := hx_size p.size (by omega)
    have hn : nl.size = 2 := rfl
    refine ⟨fun q hq => ?_, by simp only [ctot, List.length_cons]; omega, by simp only [call, ctot, ByteArray.size_append]; omega, by simp only [ctext, ByteArray.size_append, hn, List.length_cons]; omega⟩
    rcases List.mem_cons.mp hq with rfl | hq
    · omega
    · exact a q hq
theorem bodies_end (l0 : List Int) (h0 : l0.length ≤ 4611686018427387904) (ps : List ByteArray) (hl : ps.length ≤ 3) (hp : partsOk ps) (n : Int) (hn : ¬ n < (ps.length : Int)) : Ev (fun k => laws_FnBodies.l0 k l0 ps (ctext ps) true (call ps) n) true := by
  obtain ⟨k1, k2, k3, k4⟩ := parts_small ps hp
  have r1 := read_all (⟨#[]⟩ : ByteArray) ps ⟨#[]⟩ ⟨#[]⟩ k1 (by show 0 + _ ≤ _; omega) (by rw [none_app, app_none]; omega)
  have r2 := read_all (⟨#[98, 101, 104, 105, 110, 100]⟩ : ByteArray) ps ⟨#[]⟩ ⟨#[]⟩ k1 (by show 0 + _ ≤ _; omega) (by rw [none_app, ByteArray.size_append]; show _ + 6 ≤ _; omega)
  rw [none_app, app_none, none_app] at r1
  rw [none_app, none_app] at r2
  have z0 : ((⟨#[]⟩ : ByteArray).size : Nat) = 0 := rfl
  rw [z0, Nat.zero_add] at r1 r2
  have r1' : Ev (fun k => impl_ReadChunks.f k (ctext ps)) (call ps, ((ctext ps).size : Int), 0) := r1
  have r2' : Ev (fun k => impl_ReadChunks.f k (ctext ps ++ (⟨#[98, 101, 104, 105, 110, 100]⟩ : ByteArray))) (call ps, ((ctext ps).size : Int), 0) := r2
  obtain ⟨p, ep, pl, pq⟩ := placesP l0 h0
  have p0 := pq _ (List.getElem_mem (show 0 < p.length by omega))
  have g0 := rd_get p 0 (by omega)
  rw [show ((0 : Nat) : Int) = 0 from rfl] at g0
  have hs : ((ctext ps ++ (⟨#[120]⟩ : ByteArray)).size : Int) = ((ctext ps).size : Int) + 1 := by rw [ByteArray.size_append]; rfl
  refine Ev.succ ?_
  simp only [laws_FnBodies.l0]
  refine Ev.no hn (Ev.bind r1' (Ev.yes (by omega) (Ev.bind r2' (Ev.bind ep (Ev.yes (by omega) (Ev.yes (by omega) ?_))))))
  rw [hs, g0, w64 (n := ((ctext ps).size : Int) + 1) (by omega) (by omega), Int.tmod_eq_emod_of_nonneg p0.1]
  have q1 : 0 ≤ p[0] % (((ctext ps).size : Int) + 1) := Int.emod_nonneg _ (by omega)
  have q2 : p[0] % (((ctext ps).size : Int) + 1) < ((ctext ps).size : Int) + 1 := Int.emod_lt_of_pos _ (by omega)
  rw [Int.tmod_eq_emod_of_nonneg q1, Int.emod_eq_of_lt q1 q2]
  generalize p[0] % (((ctext ps).size : Int) + 1) = c at q1 q2
  refine Ev.no (by omega) (Ev.no (by omega) (Ev.yes q1 (Ev.yes (by omega) ?_)))
  by_cases cc : c = ((ctext ps).size : Int)
  · have e : (ctext ps).extract 0 c.toNat = ctext ps := by
      refine ba_ext ?_
      rw [Lib.extract_data, List.drop_zero, List.take_of_length_le (by rw [sizeL]; omega)]
    rw [e]
    have fin_ : Ev (fun _ : Nat => some (((ctext ps).size : Int) == ((ctext ps).size : Int))) true := by rw [show (((ctext ps).size : Int) == ((ctext ps).size : Int)) = true from beq_self_eq_true _]; exact Ev.now _
    exact Ev.bind r1' (Ev.yes cc (Ev.yes trivial (Ev.yes rfl fin_)))
  · have r3 := read_cut ps ⟨#[]⟩ ⟨#[]⟩ c.toNat k1 (by show 0 + _ ≤ _; omega) (by omega) (by rw [none_app, ext_size _ _ _ (by omega)]; omega)
    rw [none_app, z0] at r3
    have r3' : Ev (fun k => impl_ReadChunks.f k ((ctext ps).extract 0 c.toNat)) (badR 1) := r3
    refine Ev.bind r3' (Ev.no cc (Ev.yes trivial (Ev.yes rfl (Ev.yes rfl (Ev.yes rfl (Ev.yes rfl (Ev.yes rfl (Ev.yes rfl (Ev.yes rfl (Ev.now _))))))))))
theorem bodies_l (l0 : List Int) (h0 : l0.length ≤ 4611686018427387904) (ps : List ByteArray) (hl : ps.length ≤ 3) (hp : partsOk ps) (d : Nat) : ∀ (i : Nat) (acc : ByteArray), i ≤ ps.length → ps.length - i = d → acc ++ call (ps.drop i) = call ps → Ev (fun k => laws_FnBodies.l0 k l0 ps (ctext ps) true acc (i : Int)) true := by
  have k3 := (parts_small ps hp).2
  induction d with
  | zero =>
    intro i acc hi hd ha
    rw [List.drop_eq_nil_of_le (by omega), show call [] = (⟨#[]⟩ : ByteArray) from rfl, app_none] at ha
    rw [ha]
    exact bodies_end l0 h0 ps hl hp _ (by omega)
  | succ d ih =>
    intro i acc hi hd ha
    have hlt : i < ps.length := by omega
    refine Ev.succ ?_
    simp only [laws_FnBodies.l0]
    rw [drop_get ps i hlt, call, ← app_assoc] at ha
    have hz : (acc ++ ps[i]).size ≤ (call ps).size := by
      have e := congrArg ByteArray.size ha
      rw [ByteArray.size_append (a := acc ++ ps[i])] at e; omega
    rw [ByteArray.size_append] at hz
    rw [rdS_at ps i hlt, wnat i 4 (by omega) (by omega)]
    exact Ev.yes (by omega) (Ev.yes (by omega) (Ev.yes (by omega) (ih (i + 1) _ (by omega) (by omega) ha)))
theorem pureFnBodies (l0 : List Int) (_ : l0.length ≤ maxLen) (_ : ∀ x ∈ l0, (Lit.int .u8 x).wf = true) : ∃ k, laws_FnBodies.f k l0 = some true := by
  refine Ev.rounds (g := fun k => laws_FnBodies.f k l0) ?_
  simp only [laws_FnBodies.f, laws_big.f, Option.bind_some]
  by_cases c : (l0.length : Int) > 1048576
  · exact Ev.yes (decide_eq_true c) (Ev.now _)
  · refine Ev.no (by simpa using c) ?_
    obtain ⟨ps, ep, hl, hp⟩ := drawPartsP l0 (by omega)
    have hc := chunk_impl ps
    unfold chunkT at hc
    rw [if_pos (by omega), chunkF_text ps (parts_small ps hp).1, none_app] at hc
    exact Ev.bind ep (Ev.bind hc (bodies_l l0 (by omega) ps hl hp ps.length 0 ⟨#[]⟩ (by omega) (by omega) (by rw [List.drop_zero, none_app])))

end Go.Proofs.Ythjigecaojaalaa.Q
