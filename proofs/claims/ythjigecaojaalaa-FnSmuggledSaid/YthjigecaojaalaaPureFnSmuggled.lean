import Derived.Test.YthjigecaojaalaaBodyV
import Derived.Test.YthjigecaojaalaaG25
namespace Go.Proofs.Ythjigecaojaalaa.Q
open Go.RowKit Go.Proofs.YthjigecaojaalaaW.PrintWords Go.Proofs.YthjigecaojaalaaW.PrintLast Go.Proofs.YthjigecaojaalaaW.PrintMore
theorem row99 : ∃ s : ByteArray, Ev (fun k => laws_row.f k 99 (⟨#[122]⟩ : ByteArray)) s ∧ s.size = 99 := by
  have h : (laws_row.f 120 99 (⟨#[122]⟩ : ByteArray)).map (·.size) = some 99 := by decide +kernel
  obtain ⟨s, h1, h2⟩ := Option.map_eq_some_iff.mp h
  exact ⟨s, Ev.of_mono (laws_row.mono 99 _) 120 h1, h2⟩
theorem isL_mk (v : ByteArray) : isL (⟨(⟨#[99, 111, 110, 116, 101, 110, 116, 45, 108, 101, 110, 103, 116, 104]⟩ : ByteArray), v⟩ : S45) := nameL_list
theorem neC : ¬ (⟨#[99, 111, 110, 116, 101, 110, 116, 45, 108, 101, 110, 103, 116, 104]⟩ : ByteArray).toList = nameC.toList := by rw [toL, toL]; decide
theorem fieldL_mk (v : ByteArray) (r : List S45) : fieldF nameL ((⟨(⟨#[99, 111, 110, 116, 101, 110, 116, 45, 108, 101, 110, 103, 116, 104]⟩ : ByteArray), v⟩ : S45) :: r) = (v, true) := by rw [fieldF]; exact if_pos rfl
theorem fieldC_mk (v : ByteArray) (r : List S45) : fieldF nameC ((⟨(⟨#[99, 111, 110, 116, 101, 110, 116, 45, 108, 101, 110, 103, 116, 104]⟩ : ByteArray), v⟩ : S45) :: r) = fieldF nameC r := by rw [fieldF]; exact if_neg neC
theorem pureFnSmuggled (l0 : List Int) (_ : l0.length ≤ maxLen) (_ : ∀ x ∈ l0, (Lit.int .u8 x).wf = true) : ∃ k, laws_FnSmuggled.f k l0 = some true := by
  refine Ev.rounds (g := fun k => laws_FnSmuggled.f k l0) ?_
  simp only [laws_FnSmuggled.f, laws_big.f, Option.bind_some]
  by_cases c : (l0.length : Int) > 1048576
  · exact Ev.yes (decide_eq_true c) (Ev.now _)
  · refine Ev.no (by simpa using c) ?_
    obtain ⟨p, ep, hp, hq⟩ := placesP l0 (by omega)
    refine Ev.bind ep (Ev.yes (by omega) (Ev.yes (by omega) ?_))
    have p0 := hq _ (List.getElem_mem (show 0 < p.length by omega))
    have p1 := hq _ (List.getElem_mem (show 1 < p.length by omega))
    have g0 := rd_get p 0 (by omega)
    have g1 := rd_get p 1 (by omega)
    rw [show ((0 : Nat) : Int) = 0 from rfl] at g0
    rw [show ((1 : Nat) : Int) = 1 from rfl] at g1
    rw [g0, g1, Int.tmod_eq_emod_of_nonneg p0.1, Int.tmod_eq_emod_of_nonneg p1.1]
    generalize p[0] = x at p0
    generalize p[1] = y at p1
    have hx : 0 ≤ x % 90 ∧ x % 90 < 90 := by omega
    have hy : 0 ≤ y % 90 ∧ y % 90 < 90 := by omega
    generalize x % 90 = n at hx
    generalize y % 90 = m at hy
    obtain ⟨s, es, hs, ns⟩ := dec_ev n hx.1 hx.2
    obtain ⟨u, eu, hu, nu⟩ := dec_ev m hy.1 hy.2
    obtain ⟨w, ew, hw⟩ := row99
    have hlen : lenP (-1) [(⟨(⟨#[99, 111, 110, 116, 101, 110, 116, 45, 108, 101, 110, 103, 116, 104]⟩ : ByteArray), s⟩ : S45), (⟨(⟨#[99, 111, 110, 116, 101, 110, 116, 45, 108, 101, 110, 103, 116, 104]⟩ : ByteArray), u⟩ : S45)] = if m = n then (m, true) else (0, false) := by
      rw [lenP, if_pos (isL_mk s), if_pos hs, if_neg (by omega), lenP, if_pos (isL_mk u), if_pos hu, if_pos (by show 0 ≤ nm s; omega)]
      show (if nm u = nm s then lenP (nm u) [] else (0, false)) = _
      rw [ns, nu, lenP, decide_eq_true (by omega)]
    have b1 := body_len (⟨#[120]⟩ : ByteArray) [(⟨(⟨#[99, 111, 110, 116, 101, 110, 116, 45, 108, 101, 110, 103, 116, 104]⟩ : ByteArray), s⟩ : S45), (⟨(⟨#[99, 111, 110, 116, 101, 110, 116, 45, 108, 101, 110, 103, 116, 104]⟩ : ByteArray), u⟩ : S45)] w (by
      intro f hf
      have s3 := hs.2.1
      have u3 := hu.2.1
      rcases List.mem_cons.mp hf with rfl | hf
      · show s.size ≤ _; omega
      · rw [List.mem_singleton.mp hf]; show u.size ≤ _; omega) (by simp) (by rw [fieldC_mk, fieldC_mk]; rfl) (by rw [fieldL_mk]) (by rw [hlen]; split <;> simp <;> omega)
    rw [hlen] at b1
    have b2 := body_two (⟨#[120]⟩ : ByteArray) [(⟨(⟨#[99, 111, 110, 116, 101, 110, 116, 45, 108, 101, 110, 103, 116, 104]⟩ : ByteArray), s⟩ : S45), (⟨nameC, (⟨#[99, 104, 117, 110, 107, 101, 100]⟩ : ByteArray)⟩ : S45)] (⟨#[48, 13, 10, 13, 10]⟩ : ByteArray) (by simp) (by rw [fieldC_mk, fieldF, if_pos rfl]) (by rw [fieldL_mk])
    have b3 := body_none (⟨#[120]⟩ : ByteArray) ([] : List S45) (⟨#[97, 98, 99]⟩ : ByteArray) (by simp) rfl rfl
    refine Ev.bind es (Ev.bind eu (Ev.bind ew (Ev.bind b1 (Ev.bind es (Ev.bind b2 (Ev.bind b3 ?_))))))
    refine Ev.yes ?_ (Ev.yes rfl (Ev.yes rfl (Ev.now _)))
    unfold lenR
    by_cases e : m = n
    · subst e
      rw [if_pos rfl]
      dsimp only
      rw [if_pos rfl, if_neg (by rw [hw]; omega)]
      simp
    · rw [if_neg e]
      have e' : ¬ n = m := fun q => e q.symm
      simp [e']

end Go.Proofs.Ythjigecaojaalaa.Q
