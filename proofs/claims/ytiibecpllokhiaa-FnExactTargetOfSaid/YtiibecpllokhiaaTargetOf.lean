import Derived.Test.YtiibecpllokhiaaHead
import Derived.Test.YtiibecpllokhiaaBytesIn
import Derived.Test.YtiibecpllokhiaaCut
import Derived.Test.YtiibecpllokhiaaG15
namespace Go.Proofs.Ytiibecpllokhiaa.Q
open Go.RowKit Go.Proofs.YtiibecpllokhiaaW.PrintWords Go.Proofs.YtiibecpllokhiaaW.PrintLast Go.Proofs.YtiibecpllokhiaaW.PrintMore
/-! ### what is asked for, by the first line -/
def ans (b : Bool) (t : ByteArray) : ByteArray × Bool := if b = true then (t, true) else ((⟨#[]⟩ : ByteArray), false)
theorem ans_t (t : ByteArray) : ans true t = (t, true) := rfl
theorem ans_f (t : ByteArray) : ans false t = ((⟨#[]⟩ : ByteArray), false) := rfl
/-- Is it a target. -/
def tgtB (t : ByteArray) : Bool := inB 33 126 t.data.toList && (decide (t.size ≤ 20) && decide (bt t 0 = 47))
def tgtF (s : ByteArray) : ByteArray × Bool :=
  ans (pre s (⟨#[71, 69, 84, 32]⟩ : ByteArray) && (decide (14 ≤ s.size) && (decide ((s.extract (s.size - 9) s.size).toList = ([32, 72, 84, 84, 80, 47, 49, 46, 49] : List UInt8)) && tgtB (s.extract 4 (s.size - 9))))) (s.extract 4 (s.size - 9))
theorem getL : (⟨#[71, 69, 84, 32]⟩ : ByteArray).toList = ([71, 69, 84, 32] : List UInt8) := by rw [toL]
theorem httpL : (⟨#[32, 72, 84, 84, 80, 47, 49, 46, 49]⟩ : ByteArray).toList = ([32, 72, 84, 84, 80, 47, 49, 46, 49] : List UInt8) := by rw [toL]
theorem tgt_spec_l (t : ByteArray) (ht : 1 ≤ t.size) (hs : t.size ≤ 9223372036854775807) (d : Nat) : ∀ i : Nat, i ≤ t.size → t.size - i = d → Ev (fun k => spec_TargetOf.l0 k t (i : Int)) (ans (inB 33 126 (t.data.toList.drop i) && (decide (t.size ≤ 20) && decide (bt t 0 = 47))) t) := by
  induction d with
  | zero =>
    intro i hi hd
    refine Ev.succ ?_
    simp only [spec_TargetOf.l0]
    rw [List.drop_eq_nil_of_le (by rw [sizeL]; omega), show inB 33 126 [] = true from rfl, Bool.true_and]
    simp only [in_spec, Option.bind_some]
    refine Ev.no (by omega) ?_
    by_cases c : t.size ≤ 20
    · refine Ev.yes (decide_eq_true ⟨by omega, by omega⟩) (Ev.yes (by omega) ?_)
      rw [decide_eq_true c, Bool.true_and]
      by_cases c2 : bt t 0 = 47
      · rw [decide_eq_true c2]; exact Ev.yes c2 (Ev.now _)
      · rw [decide_eq_false c2]; exact Ev.no c2 (Ev.now _)
    · rw [decide_eq_false c, Bool.false_and]
      exact Ev.no (by simp; omega) (Ev.now _)
  | succ d ih =>
    intro i hi hd
    have hlt : i < t.size := by omega
    have hb := bt_get t i hlt
    refine Ev.succ ?_
    simp only [spec_TargetOf.l0]
    rw [wnat i _ hlt hs, drop_get _ i (by rw [sizeL]; exact hlt)]
    have e : inB 33 126 (t.data.toList[i]'(by rw [sizeL]; exact hlt) :: t.data.toList.drop (i + 1)) = (decide (33 ≤ bt t i ∧ bt t i ≤ 126) && inB 33 126 (t.data.toList.drop (i + 1))) := by rw [hb]; rfl
    rw [e]
    refine Ev.yes (by omega) (Ev.yes (by omega) ?_)
    by_cases c1 : bt t i < 33
    · rw [decide_eq_false (show ¬ (33 ≤ bt t i ∧ bt t i ≤ 126) by omega), Bool.false_and, Bool.false_and]; exact Ev.yes c1 (Ev.now _)
    · refine Ev.no c1 ?_
      by_cases c2 : bt t i > 126
      · rw [decide_eq_false (show ¬ (33 ≤ bt t i ∧ bt t i ≤ 126) by omega), Bool.false_and, Bool.false_and]; exact Ev.yes c2 (Ev.now _)
      · rw [decide_eq_true (show 33 ≤ bt t i ∧ bt t i ≤ 126 from ⟨by omega, by omega⟩), Bool.true_and]
        exact Ev.no c2 (ih (i + 1) (by omega) (by omega))
theorem target_spec (s : ByteArray) (l : List S38) (hs : s.size ≤ 1048576) : Ev (fun k => spec_TargetOf.f k s l) (tgtF s) := by
  have jt : Ev (fun k => spec_TargetOf.j0 k s true) ((⟨#[]⟩ : ByteArray), false) := by
    refine Ev.succ ?_
    simp only [spec_TargetOf.j0]; exact Ev.yes trivial (Ev.now _)
  simp only [spec_TargetOf.f, tgtF]
  by_cases c : (s.size : Int) < 14
  · refine Ev.yes c ?_
    rw [decide_eq_false (show ¬ 14 ≤ s.size by omega), Bool.false_and, Bool.and_false]; exact jt
  · have hw : wrap64 ((s.size : Int) - 9) = ((s.size - 9 : Nat) : Int) := by rw [w64 (by omega) (by omega)]; omega
    refine Ev.no c (Ev.yes (by omega) ?_)
    have ep : pre s (⟨#[71, 69, 84, 32]⟩ : ByteArray) = decide ((s.extract 0 4).toList = ([71, 69, 84, 32] : List UInt8)) := by
      rw [pre, getL, show (⟨#[71, 69, 84, 32]⟩ : ByteArray).size = 4 from rfl, decide_eq_true (by omega), Bool.true_and, Bool.eq_iff_iff, beq_iff_eq, decide_eq_true_eq]
    rw [ep, decide_eq_true (show 14 ≤ s.size by omega), Bool.true_and]
    by_cases c1 : (s.extract 0 4).toList = ([71, 69, 84, 32] : List UInt8)
    · refine Ev.yes c1 ?_
      rw [hw, decide_eq_true c1, Bool.true_and]
      simp only [Int.toNat_natCast]
      refine Ev.yes (by omega) (Ev.yes (by omega) ?_)
      by_cases c2 : (s.extract (s.size - 9) s.size).toList = ([32, 72, 84, 84, 80, 47, 49, 46, 49] : List UInt8)
      · rw [show ((s.extract (s.size - 9) s.size).toList != ([32, 72, 84, 84, 80, 47, 49, 46, 49] : List UInt8)) = false from by rw [c2]; rfl, decide_eq_true c2, Bool.true_and]
        refine Ev.succ ?_
        simp only [spec_TargetOf.j0]
        rw [hw]
        simp only [Int.toNat_natCast]
        refine Ev.no (by simp) (Ev.yes (by omega) (Ev.yes (by omega) ?_))
        have hz := ext_size s 4 (s.size - 9) (by omega)
        have := tgt_spec_l (s.extract 4 (s.size - 9)) (by omega) (by omega) _ 0 (by omega) rfl
        rw [List.drop_zero] at this
        exact this
      · rw [show ((s.extract (s.size - 9) s.size).toList != ([32, 72, 84, 84, 80, 47, 49, 46, 49] : List UInt8)) = true from by simpa using c2, decide_eq_false c2, Bool.false_and]
        exact jt
    · refine Ev.no c1 ?_
      rw [decide_eq_false c1, Bool.false_and]; exact jt
theorem target_impl (s : ByteArray) (l : List S38) (hs : s.size ≤ 1048576) : Ev (fun k => impl_TargetOf.f k s l) (tgtF s) := by
  simp only [impl_TargetOf.f, cutPrefix_eq, Option.bind_some, tgtF]
  by_cases c1 : pre s (⟨#[71, 69, 84, 32]⟩ : ByteArray) = true
  · have hp4 : 4 ≤ s.size := by
      simp only [pre, Bool.and_eq_true, decide_eq_true_eq] at c1; exact c1.1
    simp only [if_pos c1]
    rw [c1, Bool.true_and, show (⟨#[71, 69, 84, 32]⟩ : ByteArray).size = 4 from rfl]
    have hz := ext_size s 4 s.size (by omega)
    rw [cutSuffix_eq _ _ (by omega)]
    simp only [Option.bind_some]
    refine Ev.yes trivial ?_
    have es : suf (s.extract 4 s.size) (⟨#[32, 72, 84, 84, 80, 47, 49, 46, 49]⟩ : ByteArray) = (decide (13 ≤ s.size) && decide ((s.extract (s.size - 9) s.size).toList = ([32, 72, 84, 84, 80, 47, 49, 46, 49] : List UInt8))) := by
      rw [suf, show (⟨#[32, 72, 84, 84, 80, 47, 49, 46, 49]⟩ : ByteArray).size = 9 from rfl, hz, httpL]
      by_cases c13 : 13 ≤ s.size
      · rw [ext_ext s 4 s.size _ _ (by omega) (by omega), show 4 + (s.size - 4 - 9) = s.size - 9 by omega, show 4 + (s.size - 4) = s.size by omega, decide_eq_true c13, decide_eq_true (by omega), Bool.true_and, Bool.true_and, Bool.eq_iff_iff, beq_iff_eq, decide_eq_true_eq]
      · rw [decide_eq_false c13, decide_eq_false (by omega), Bool.false_and, Bool.false_and]
    by_cases c2 : suf (s.extract 4 s.size) (⟨#[32, 72, 84, 84, 80, 47, 49, 46, 49]⟩ : ByteArray) = true
    · simp only [if_pos c2]
      rw [es] at c2
      simp only [Bool.and_eq_true, decide_eq_true_eq] at c2
      rw [decide_eq_true c2.2, Bool.true_and, show (⟨#[32, 72, 84, 84, 80, 47, 49, 46, 49]⟩ : ByteArray).size = 9 from rfl, hz, ext_ext s 4 s.size _ _ (by omega) (by omega), show 4 + (s.size - 4 - 9) = s.size - 9 by omega, Nat.add_zero]
      have hz2 := ext_size s 4 (s.size - 9) (by omega)
      simp only [in_impl, Option.bind_some]
      refine Ev.yes trivial ?_
      by_cases c3 : (1 : Int) ≤ ((s.extract 4 (s.size - 9)).size : Int) ∧ ((s.extract 4 (s.size - 9)).size : Int) ≤ 20
      · rw [decide_eq_true (show 14 ≤ s.size by omega), Bool.true_and, tgtB, decide_eq_true (show (s.extract 4 (s.size - 9)).size ≤ 20 by omega), Bool.true_and]
        refine Ev.yes (decide_eq_true c3) (Ev.bind (bytesIn_ev _ 33 126 (by omega)) ?_)
        by_cases c4 : inB 33 126 (s.extract 4 (s.size - 9)).data.toList = true
        · rw [c4, Bool.true_and]
          refine Ev.yes rfl (Ev.yes (by omega) ?_)
          by_cases c5 : bt (s.extract 4 (s.size - 9)) 0 = 47
          · rw [decide_eq_true c5]; exact Ev.yes c5 (Ev.now _)
          · rw [decide_eq_false c5]; exact Ev.no c5 (Ev.now _)
        · rw [Bool.eq_false_iff.mpr c4, Bool.false_and]; exact Ev.no (by simp) (Ev.now _)
      · refine Ev.no (by simpa using c3) ?_
        by_cases c14 : 14 ≤ s.size
        · rw [decide_eq_true c14, tgtB, decide_eq_false (show ¬ (s.extract 4 (s.size - 9)).size ≤ 20 by omega), Bool.false_and, Bool.and_false, Bool.and_false]; exact Ev.now _
        · rw [decide_eq_false c14, Bool.false_and]; exact Ev.now _
    · simp only [if_neg c2]
      rw [es] at c2
      have e2 : (decide (14 ≤ s.size) && (decide ((s.extract (s.size - 9) s.size).toList = ([32, 72, 84, 84, 80, 47, 49, 46, 49] : List UInt8)) && tgtB (s.extract 4 (s.size - 9)))) = false := by
        by_cases c14 : 14 ≤ s.size
        · rw [decide_eq_true (show 13 ≤ s.size by omega), Bool.true_and] at c2
          rw [Bool.eq_false_iff.mpr c2, Bool.false_and, Bool.and_false]
        · rw [decide_eq_false c14, Bool.false_and]
      rw [e2]
      exact Ev.no (by simp) (Ev.now _)
  · simp only [if_neg c1]
    rw [cutSuffix_eq _ _ (by omega), Bool.eq_false_iff.mpr c1, Bool.false_and]
    simp only [Option.bind_some]
    exact Ev.no (by simp) (Ev.now _)

end Go.Proofs.Ytiibecpllokhiaa.Q
