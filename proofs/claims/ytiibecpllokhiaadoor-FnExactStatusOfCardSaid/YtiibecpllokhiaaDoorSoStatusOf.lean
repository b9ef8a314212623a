import Derived.Test.YtiibecpllokhiaaDoorSoBytesIn
import Derived.Test.YtiibecpllokhiaaDoorSoCut
import Derived.Lib.AtoiAll
import Derived.Lib.ItoaNum
import Derived.Test.YtiibecpllokhiaaDoorSoG100
import Derived.Test.YtiibecpllokhiaaDoorSoG31
namespace Go.Proofs.YtiibecpllokhiaaDoor.Q
open Go.RowKit Go.Proofs.YtiibecpllokhiaaDoorW.PrintWords Go.Proofs.YtiibecpllokhiaaDoorW.PrintLast Go.Proofs.YtiibecpllokhiaaDoorW.PrintMore
def p9 : ByteArray := ⟨#[72, 84, 84, 80, 47, 49, 46, 49, 32]⟩
theorem p9L : p9.toList = ([72, 84, 84, 80, 47, 49, 46, 49, 32] : List UInt8) := by rw [p9, toL]
theorem p9_size : p9.size = 9 := rfl
def Dig (s : ByteArray) (i : Int) : Prop := 48 ≤ bt s i ∧ bt s i ≤ 57
instance (s : ByteArray) (i : Int) : Decidable (Dig s i) := by unfold Dig; infer_instance
def num3 (s : ByteArray) : Int := 100 * (bt s 9 - 48) + 10 * (bt s 10 - 48) + (bt s 11 - 48)
def statB (s : ByteArray) : Bool := pre s p9 && (decide (13 ≤ s.size) && (decide (bt s 12 = 32) && decide (((Dig s 9 ∧ Dig s 10) ∧ Dig s 11) ∧ (100 ≤ num3 s ∧ num3 s ≤ 599))))
def statF (s : ByteArray) : Int × Bool := if statB s = true then (num3 s, true) else (0, false)
theorem stat_round (s : ByteArray) (n i : Int) (r : Int × Bool) (hs : 13 ≤ s.size) (h0 : 0 ≤ i) (h1 : i < 12) (hn : 0 ≤ n ∧ n ≤ 1000) (yes : Dig s i → Ev (fun k => spec_StatusOf.l0 k s (10 * n + bt s i - 48) (i + 1)) r) (no : ¬ Dig s i → r = (0, false)) : Ev (fun k => spec_StatusOf.l0 k s n i) r := by
  have hb := bt_rng s i
  refine Ev.succ ?_
  simp only [spec_StatusOf.l0]
  refine Ev.yes h1 (Ev.yes h0 (Ev.yes (by omega) ?_))
  by_cases c1 : bt s i < 48
  · rw [no (fun h => by unfold Dig at h; omega)]; exact Ev.yes c1 (Ev.now _)
  · refine Ev.no c1 ?_
    by_cases c2 : bt s i > 57
    · rw [no (fun h => by unfold Dig at h; omega)]; exact Ev.yes c2 (Ev.now _)
    · rw [w64 (n := 10 * n) (by omega) (by omega), w64 (n := bt s i) (by omega) (by omega), w64 (n := 10 * n + bt s i) (by omega) (by omega), w64 (n := 10 * n + bt s i - 48) (by omega) (by omega), w64 (n := i + 1) (by omega) (by omega)]
      exact Ev.no c2 (yes ⟨by omega, by omega⟩)
theorem status_spec (s : ByteArray) (l : List S40) : Ev (fun k => spec_StatusOf.f k s l) (statF s) := by
  have jt : Ev (fun k => spec_StatusOf.j0 k s true) ((0 : Int), false) := by
    refine Ev.succ ?_
    simp only [spec_StatusOf.j0]; exact Ev.yes (by simp) (Ev.now _)
  have no : statB s = false → statF s = (0, false) := fun h => by unfold statF; rw [if_neg (by rw [h]; simp)]
  simp only [spec_StatusOf.f]
  by_cases c : (s.size : Int) < 13
  · rw [no (by unfold statB; rw [decide_eq_false (show ¬ 13 ≤ s.size by omega), Bool.false_and, Bool.and_false])]
    exact Ev.yes c jt
  · refine Ev.no c (Ev.yes (by omega) ?_)
    have hs : 13 ≤ s.size := by omega
    have ep : pre s p9 = decide ((s.extract 0 9).toList = ([72, 84, 84, 80, 47, 49, 46, 49, 32] : List UInt8)) := by
      rw [pre, p9L, p9_size, decide_eq_true (by omega), Bool.true_and, Bool.eq_iff_iff, beq_iff_eq, decide_eq_true_eq]
    by_cases c1 : (s.extract 0 9).toList = ([72, 84, 84, 80, 47, 49, 46, 49, 32] : List UInt8)
    · refine Ev.yes c1 (Ev.yes (by omega) ?_)
      by_cases c2 : bt s 12 = 32
      · rw [show (bt s 12 != 32) = false from bne_eq_false_iff_eq.2 c2]
        refine Ev.succ ?_
        simp only [spec_StatusOf.j0]
        refine Ev.no (by simp) ?_
        have hB : statB s = decide (((Dig s 9 ∧ Dig s 10) ∧ Dig s 11) ∧ (100 ≤ num3 s ∧ num3 s ≤ 599)) := by
          unfold statB
          rw [ep, decide_eq_true c1, decide_eq_true hs, decide_eq_true c2, Bool.true_and, Bool.true_and, Bool.true_and]
        have fl : ¬ ((Dig s 9 ∧ Dig s 10) ∧ Dig s 11) → statF s = (0, false) := fun h => no (by rw [hB]; exact decide_eq_false (fun q => h q.1))
        refine stat_round s 0 9 _ hs (by omega) (by omega) (by omega) (fun d9 => ?_) (fun h => fl (fun q => h q.1.1))
        have b9 := d9; unfold Dig at b9
        refine stat_round s _ _ _ hs (by omega) (by omega) (by omega) (fun d10 => ?_) (fun h => fl (fun q => h q.1.2))
        have b10 := d10; unfold Dig at b10
        refine stat_round s _ _ _ hs (by omega) (by omega) (by omega) (fun d11 => ?_) (fun h => fl (fun q => h q.2))
        have b11 := d11; unfold Dig at b11
        refine Ev.succ ?_
        simp only [spec_StatusOf.l0]
        have en : 10 * (10 * (10 * 0 + bt s 9 - 48) + bt s (9 + 1) - 48) + bt s (9 + 1 + 1) - 48 = num3 s := by
          unfold num3
          rw [show (9 : Int) + 1 = 10 from rfl, show (10 : Int) + 1 = 11 from rfl]
          omega
        rw [en]
        refine Ev.no (by omega) (Ev.via (in_spec _ _ _) ?_)
        by_cases q : 100 ≤ num3 s ∧ num3 s ≤ 599
        · rw [show statF s = (num3 s, true) from by unfold statF; rw [if_pos (by rw [hB]; exact decide_eq_true ⟨⟨⟨d9, d10⟩, d11⟩, q⟩)]]
          exact Ev.yes (decide_eq_true q) (Ev.now _)
        · rw [no (by rw [hB]; exact decide_eq_false (fun h => q h.2))]
          exact Ev.no (by rw [decide_eq_false q]; simp) (Ev.now _)
      · rw [show (bt s 12 != 32) = true from bne_iff_ne.2 c2]
        rw [no (by unfold statB; rw [decide_eq_false c2, Bool.false_and, Bool.and_false, Bool.and_false])]
        exact jt
    · rw [no (by unfold statB; rw [ep, decide_eq_false c1, Bool.false_and])]
      exact Ev.no c1 jt
theorem bt_ext (s : ByteArray) (a b i : Nat) (h : i < b - a) (hb : b ≤ s.size) : bt (s.extract a b) (i : Int) = bt s ((a + i : Nat) : Int) := by
  rw [bt_get _ i (by rw [ext_size s a b hb]; exact h), bt_get s (a + i) (by omega)]
  congr 2
  simp
theorem three (s : ByteArray) (hs : 12 ≤ s.size) : (s.extract 9 12).data.toList = [s.data.toList[9]'(by rw [sizeL]; omega), s.data.toList[10]'(by rw [sizeL]; omega), s.data.toList[11]'(by rw [sizeL]; omega)] := by
  rw [Lib.extract_data, drop_get _ 9 (by rw [sizeL]; omega), drop_get _ 10 (by rw [sizeL]; omega), drop_get _ 11 (by rw [sizeL]; omega)]
  rfl
theorem atoi3 (a b c : UInt8) (ha : 48 ≤ a.toNat ∧ a.toNat ≤ 57) (hb : 48 ≤ b.toNat ∧ b.toNat ≤ 57) (hc : 48 ≤ c.toNat ∧ c.toNat ≤ 57) : Lib.atoiAll [a, b, c] = .ok (((100 * (a.toNat - 48) + 10 * (b.toNat - 48) + (c.toNat - 48) : Nat)) : Int) := by
  have e : Lib.parseMag [a, b, c] = .ok (100 * (a.toNat - 48) + 10 * (b.toNat - 48) + (c.toNat - 48)) := by
    unfold Lib.parseMag
    rw [if_neg (by simp)]
    simp only [Lib.parseUint10]
    rw [if_pos ha, if_neg (by omega), if_neg (by omega), if_pos hb, if_neg (by omega), if_neg (by omega), if_pos hc, if_neg (by omega), if_neg (by omega)]
    congr 1
    omega
  simp only [Lib.atoiAll]
  rw [if_neg (by omega), e]
  simp only
  rw [if_neg (by omega), if_neg (by omega), if_neg (by omega)]
theorem u8_back (a : UInt8) (x : Nat) (h : x = a.toNat) : UInt8.ofNat x = a := by rw [h]; exact UInt8.ofNat_toNat
theorem itoa3 (a b c : UInt8) (ha : 49 ≤ a.toNat ∧ a.toNat ≤ 57) (hb : 48 ≤ b.toNat ∧ b.toNat ≤ 57) (hc : 48 ≤ c.toNat ∧ c.toNat ≤ 57) : Lib.itoa (((100 * (a.toNat - 48) + 10 * (b.toNat - 48) + (c.toNat - 48) : Nat)) : Int) = [a, b, c] := by
  unfold Lib.itoa
  rw [if_neg (by omega), Int.toNat_natCast, Lib.decDigits, dif_neg (by omega), Lib.decDigits_two (by omega) (by omega)]
  simp only [List.cons_append, List.nil_append]
  rw [u8_back a _ (by omega), u8_back b _ (by omega), u8_back c _ (by omega)]
theorem read3 (s : ByteArray) (hs : 12 ≤ s.size) (d9 : Dig s 9) (d10 : Dig s 10) (d11 : Dig s 11) : ∃ v ok, impl_ReadDecimal.f (s.extract 9 12) = some (v, ok) ∧ (100 ≤ num3 s → v = num3 s) ∧ (num3 s < 100 → v < 100) := by
  have h3 := three s hs
  have e9 := bt_get s 9 (by omega)
  have e10 := bt_get s 10 (by omega)
  have e11 := bt_get s 11 (by omega)
  rw [show ((9 : Nat) : Int) = 9 from rfl] at e9
  rw [show ((10 : Nat) : Int) = 10 from rfl] at e10
  rw [show ((11 : Nat) : Int) = 11 from rfl] at e11
  unfold Dig at d9 d10 d11
  unfold num3
  rw [e9] at d9 ⊢
  rw [e10] at d10 ⊢
  rw [e11] at d11 ⊢
  generalize s.data.toList[9]'(by rw [sizeL]; omega) = a at *
  generalize s.data.toList[10]'(by rw [sizeL]; omega) = b at *
  generalize s.data.toList[11]'(by rw [sizeL]; omega) = c at *
  have ev : 100 * ((a.toNat : Int) - 48) + 10 * ((b.toNat : Int) - 48) + ((c.toNat : Int) - 48) = ((100 * (a.toNat - 48) + 10 * (b.toNat - 48) + (c.toNat - 48) : Nat) : Int) := by omega
  rw [ev]
  have ea := atoi3 a b c (by omega) (by omega) (by omega)
  have hz := ext_size s 9 12 hs
  refine ⟨(impl_ReadDecimal.at (s.extract 9 12) ((100 * (a.toNat - 48) + 10 * (b.toNat - 48) + (c.toNat - 48) : Nat) : Int)).1, (impl_ReadDecimal.at (s.extract 9 12) ((100 * (a.toNat - 48) + 10 * (b.toNat - 48) + (c.toNat - 48) : Nat) : Int)).2, ?_, ?_, ?_⟩
  · unfold impl_ReadDecimal.f
    rw [if_pos (by omega), h3, ea]
    simp only
    rw [if_pos (by omega)]
  · intro hv
    unfold impl_ReadDecimal.at
    rw [if_pos (by omega), itoa3 a b c (by omega) (by omega) (by omega), if_pos (by rw [toL, toL, h3])]
  · intro hv
    unfold impl_ReadDecimal.at
    rw [if_pos (by omega)]
    split
    · exact hv
    · show (0 : Int) < 100; omega
theorem status_impl (s : ByteArray) (l : List S40) (hs : s.size ≤ 1048576) : Ev (fun k => impl_StatusOf.f k s l) (statF s) := by
  have no : statB s = false → statF s = (0, false) := fun h => by unfold statF; rw [if_neg (by rw [h]; simp)]
  have jt : ∀ t, Ev (fun k => impl_StatusOf.j0 k t true) ((0 : Int), false) := fun t => by
    refine Ev.succ ?_
    simp only [impl_StatusOf.j0]; exact Ev.yes (by simp) (Ev.now _)
  simp only [impl_StatusOf.f]
  refine Ev.via (cutPrefix_eq s p9) ?_
  by_cases c1 : pre s p9 = true
  · simp only [if_pos c1]
    have h9 : 9 ≤ s.size := by
      simp only [pre, Bool.and_eq_true, p9_size] at c1; exact of_decide_eq_true c1.1
    have hz := ext_size s 9 s.size (by omega)
    simp only [p9_size]
    refine Ev.yes (by simp) ?_
    by_cases c2 : ((s.extract 9 s.size).size : Int) < 4
    · rw [no (by unfold statB; rw [decide_eq_false (show ¬ 13 ≤ s.size by omega), Bool.false_and, Bool.and_false])]
      exact Ev.yes c2 (jt _)
    · refine Ev.no c2 (Ev.yes (by omega) ?_)
      have h13 : 13 ≤ s.size := by omega
      have eb := bt_ext s 9 s.size 3 (by omega) (by omega)
      rw [show ((3 : Nat) : Int) = 3 from rfl, show ((9 + 3 : Nat) : Int) = 12 from rfl] at eb
      by_cases c3 : bt s 12 = 32
      · refine Ev.yes (eb.trans c3) (Ev.yes (by omega) ?_)
        have ee : (s.extract 9 s.size).extract 0 3 = s.extract 9 12 := by
          rw [ext_ext s 9 s.size 0 3 (by omega) (by omega)]
        rw [ee]
        refine Ev.bind (bytesIn_ev _ 48 57 (by rw [ext_size s 9 12 (by omega)]; omega)) ?_
        have hB : statB s = decide (((Dig s 9 ∧ Dig s 10) ∧ Dig s 11) ∧ (100 ≤ num3 s ∧ num3 s ≤ 599)) := by
          unfold statB
          rw [c1, decide_eq_true h13, decide_eq_true c3, Bool.true_and, Bool.true_and, Bool.true_and]
        have ei : inB 48 57 (s.extract 9 12).data.toList = decide ((Dig s 9 ∧ Dig s 10) ∧ Dig s 11) := by
          have e9 := bt_get s 9 (by omega)
          have e10 := bt_get s 10 (by omega)
          have e11 := bt_get s 11 (by omega)
          rw [show ((9 : Nat) : Int) = 9 from rfl] at e9
          rw [show ((10 : Nat) : Int) = 10 from rfl] at e10
          rw [show ((11 : Nat) : Int) = 11 from rfl] at e11
          rw [three s (by omega), Bool.eq_iff_iff, decide_eq_true_eq]
          unfold Dig
          rw [e9, e10, e11]
          simp only [inB, List.all_cons, List.all_nil, Bool.and_true, Bool.and_eq_true, decide_eq_true_eq]
          constructor
          · rintro ⟨h1, h2, h3⟩; exact ⟨⟨h1, h2⟩, h3⟩
          · rintro ⟨⟨h1, h2⟩, h3⟩; exact ⟨h1, h2, h3⟩
        rw [ei]
        by_cases q : (Dig s 9 ∧ Dig s 10) ∧ Dig s 11
        · rw [decide_eq_true q]
          refine Ev.succ ?_
          simp only [impl_StatusOf.j0]
          obtain ⟨v, ok, er, hv1, hv2⟩ := read3 s (by omega) q.1.1 q.1.2 q.2
          rw [ee]
          refine Ev.no (by simp) (Ev.yes (by omega) (Ev.via er (Ev.via (in_impl _ _ _) ?_)))
          by_cases r : 100 ≤ num3 s ∧ num3 s ≤ 599
          · have e := hv1 r.1
            subst e
            rw [show statF s = (num3 s, true) from by unfold statF; rw [if_pos (by rw [hB]; exact decide_eq_true ⟨q, r⟩)]]
            exact Ev.yes (decide_eq_true r) (Ev.now _)
          · rw [no (by rw [hB]; exact decide_eq_false (fun h => r h.2))]
            refine Ev.no ?_ (Ev.now _)
            rw [decide_eq_false ?_]
            · simp
            · intro h
              show False
              by_cases g : 100 ≤ num3 s
              · have := hv1 g; simp only at h; omega
              · have := hv2 (by omega); simp only at h; omega
        · rw [decide_eq_false q, no (by rw [hB]; exact decide_eq_false (fun h => q h.1))]
          exact jt _
      · rw [no (by unfold statB; rw [decide_eq_false c3, Bool.false_and, Bool.and_false, Bool.and_false])]
        exact Ev.no (fun h => c3 (eb.symm.trans h)) (jt _)
  · rw [if_neg c1, no (by unfold statB; rw [Bool.eq_false_iff.2 c1, Bool.false_and])]
    exact Ev.no (by simp) (jt _)
end Go.Proofs.YtiibecpllokhiaaDoor.Q
