import Derived.Test.YthjigecaojaalaaBtStr
import Derived.Test.YthjigecaojaalaaBtG56
import Derived.Test.YthjigecaojaalaaBtG57
namespace Go.Proofs.Ythjigecaojaalaa.Q
open Go.RowKit Go.Proofs.YthjigecaojaalaaW.PrintWords Go.Proofs.YthjigecaojaalaaW.PrintLast Go.Proofs.YthjigecaojaalaaW.PrintMore
def crlf : ByteArray := ⟨#[13, 10]⟩
def hexv (b : Int) : Int := if 48 ≤ b ∧ b ≤ 57 then b - 48 else if 97 ≤ b ∧ b ≤ 102 then b - 87 else if 65 ≤ b ∧ b ≤ 70 then b - 55 else -1
theorem hexv_rng (b : Int) : -1 ≤ hexv b ∧ hexv b ≤ 15 := by unfold hexv; split <;> (try split) <;> (try split) <;> omega
theorem value_spec (b : Int) (h0 : 0 ≤ b) (h1 : b ≤ 255) : Ev (fun k => spec_l11Value.f k b) (hexv b) := by
  simp only [spec_l11Value.f]
  have hw : ∀ c : Int, 0 ≤ c → c ≤ 100 → wrap64 (wrap64 b - c) = b - c := fun c c0 c1 => by rw [w64 (n := b) (by omega) (by omega), w64 (by omega) (by omega)]
  have tail : ¬ (48 ≤ b ∧ b ≤ 57) → Ev (fun k => spec_l11Value.j0 k b false) (hexv b) := by
    intro hn
    refine Ev.succ ?_
    simp only [spec_l11Value.j0]
    refine Ev.no (by simp) ?_
    have t2 : ¬ (97 ≤ b ∧ b ≤ 102) → Ev (fun k => spec_l11Value.j1 k b false) (hexv b) := by
      intro hn2
      refine Ev.succ ?_
      simp only [spec_l11Value.j1]
      refine Ev.no (by simp) ?_
      by_cases c : b ≥ 65
      · by_cases c2 : b ≤ 70
        · rw [show hexv b = b - 55 by unfold hexv; rw [if_neg hn, if_neg hn2, if_pos ⟨c, c2⟩], hw 55 (by omega) (by omega)]; exact Ev.yes c (Ev.yes c2 (Ev.now _))
        · rw [show hexv b = -1 by unfold hexv; rw [if_neg hn, if_neg hn2, if_neg (by omega)]]; exact Ev.yes c (Ev.no c2 (Ev.now _))
      · rw [show hexv b = -1 by unfold hexv; rw [if_neg hn, if_neg hn2, if_neg (by omega)]]; exact Ev.no c (Ev.now _)
    by_cases c : b ≥ 97
    · refine Ev.yes c ?_
      by_cases c2 : b ≤ 102
      · refine Ev.succ ?_
        simp only [spec_l11Value.j1]
        rw [show hexv b = b - 87 by unfold hexv; rw [if_neg hn, if_pos ⟨c, c2⟩], hw 87 (by omega) (by omega)]
        exact Ev.yes (decide_eq_true c2) (Ev.now _)
      · rw [decide_eq_false c2]; exact t2 (by omega)
    · exact Ev.no c (t2 (by omega))
  by_cases c : b ≥ 48
  · refine Ev.yes c ?_
    by_cases c2 : b ≤ 57
    · refine Ev.succ ?_
      simp only [spec_l11Value.j0]
      rw [show hexv b = b - 48 by unfold hexv; rw [if_pos ⟨c, c2⟩], hw 48 (by omega) (by omega)]
      exact Ev.yes (decide_eq_true c2) (Ev.now _)
    · rw [decide_eq_false c2]; exact tail (by omega)
  · exact Ev.no c (tail (by omega))
theorem index_hex_all : ∀ n : Fin 256, Lib.indexByte [48, 49, 50, 51, 52, 53, 54, 55, 56, 57, 97, 98, 99, 100, 101, 102] ((((impl_lower.one (UInt8.ofNat n.val)).toNat : Nat) : Int).toNat.toUInt8) = hexv ((n.val : Nat) : Int) := by decide +kernel
theorem index_hex (b : UInt8) : Lib.indexByte [48, 49, 50, 51, 52, 53, 54, 55, 56, 57, 97, 98, 99, 100, 101, 102] ((((impl_lower.one b).toNat : Nat) : Int).toNat.toUInt8) = hexv ((b.toNat : Nat) : Int) := by
  have h := index_hex_all ⟨b.toNat, b.toNat_lt⟩
  simp only [UInt8.ofNat_toNat] at h
  exact h
/-- What stands at a place: 0 a line's end, 1 more is wanted, 2 none. -/
def endAt (t : ByteArray) (i : Nat) : Int := if t.size ≤ i then 1 else if bt t i = 13 then (if t.size ≤ i + 1 then 1 else if bt t ((i + 1 : Nat) : Int) = 10 then 0 else 2) else 2
theorem endAt_in (t : ByteArray) (i : Nat) : endAt t i = 0 ∨ endAt t i = 1 ∨ endAt t i = 2 := by
  unfold endAt; split <;> (try split) <;> (try split) <;> (try split) <;> simp
theorem endAt_zero {t : ByteArray} {i : Nat} (h : endAt t i = 0) : i + 2 ≤ t.size := by
  unfold endAt at h
  by_cases c : t.size ≤ i
  · rw [if_pos c] at h; omega
  · rw [if_neg c] at h
    by_cases c2 : bt t i = 13
    · rw [if_pos c2] at h
      by_cases c3 : t.size ≤ i + 1
      · rw [if_pos c3] at h; omega
      · omega
    · rw [if_neg c2] at h; omega
theorem u8n (a : UInt8) (n : Nat) (hn : n < 256) : ((a.toNat : Nat) : Int) = (n : Int) ↔ a = UInt8.ofNat n := by
  constructor
  · intro h
    apply UInt8.toNat_inj.mp
    rw [UInt8.toNat_ofNat_of_lt' hn]; omega
  · rintro rfl; rw [UInt8.toNat_ofNat_of_lt' hn]
theorem hasPrefix_is (a b : ByteArray) : strings_HasPrefix.f a b = some (decide (b.size ≤ a.size) && (a.data.toList.take b.size == b.data.toList)) := by
  simp only [strings_HasPrefix.f, stringslite_HasPrefix.f]
  by_cases c : b.size ≤ a.size
  · rw [if_pos (by omega), if_pos (by omega), if_pos (by omega), decide_eq_true c, Bool.true_and, toL, toL, Lib.extract_data]
    simp only [Int.toNat_natCast, List.drop_zero, Nat.sub_zero, Option.bind_some]
  · rw [if_neg (by omega), decide_eq_false c, Bool.false_and]; rfl
theorem want_at (t : ByteArray) (la : Nat) (h : la ≤ t.size) (hs : t.size ≤ 4611686018427387904) : impl_scanner_want.f t (la : Int) 0 crlf = some (t, if endAt t la = 0 then ((la + 2 : Nat) : Int) else (la : Int), endAt t la) := by
  simp only [impl_scanner_want.f, Int.toNat_natCast]
  rw [if_pos (by omega), if_pos (by omega), if_pos trivial, hasPrefix_is, hasPrefix_is]
  have hR : (t.extract la t.size).data.toList = t.data.toList.drop la := by rw [Lib.extract_data, List.take_of_length_le (by rw [List.length_drop, sizeL]; omega)]
  have hz : (t.extract la t.size).size = t.size - la := by rw [ext_size _ _ _ (by omega)]
  rw [hR, hz, show crlf.size = 2 from rfl, show crlf.data.toList = [13, 10] from rfl]
  simp only [Option.bind_some]
  by_cases c : t.size ≤ la
  · have : t.size - la = 0 := by omega
    rw [this, show endAt t la = 1 from if_pos c]
    rw [List.drop_eq_nil_of_le (by rw [sizeL]; exact c)]
    simp
  · have h1 : la < t.data.toList.length := by rw [sizeL]; omega
    rw [List.drop_eq_getElem_cons h1]
    have b1 := bt_get t la (by omega)
    generalize t.data.toList[la] = a at b1 ⊢
    by_cases c2 : t.size ≤ la + 1
    · have e1 : t.size - la = 1 := by omega
      rw [e1, List.drop_eq_nil_of_le (by rw [sizeL]; exact c2)]
      by_cases c3 : bt t la = 13
      · rw [show endAt t la = 1 by unfold endAt; rw [if_neg c, if_pos c3, if_pos c2]]
        have q1 : a = 13 := (u8n _ 13 (by omega)).mp (by rw [← b1]; exact c3)
        subst q1; simp
      · rw [show endAt t la = 2 by unfold endAt; rw [if_neg c, if_neg c3]]
        have q1 : a ≠ 13 := fun e => c3 (by rw [b1]; exact (u8n _ 13 (by omega)).mpr e)
        have q1' : ¬ (13 = a) := fun e => q1 e.symm
        simp [q1']
    · have h2 : la + 1 < t.data.toList.length := by rw [sizeL]; omega
      rw [List.drop_eq_getElem_cons h2]
      have b2 := bt_get t (la + 1) (by omega)
      generalize t.data.toList[la + 1] = b at b2 ⊢
      have e2 : 2 ≤ t.size - la := by omega
      have e3 : List.take (t.size - la) ([13, 10] : List UInt8) = [13, 10] := List.take_of_length_le (by simpa using e2)
      by_cases c3 : bt t la = 13
      · have q1 : a = 13 := (u8n _ 13 (by omega)).mp (by rw [← b1]; exact c3)
        subst q1
        by_cases c4 : bt t ((la + 1 : Nat) : Int) = 10
        · have q2 : b = 10 := (u8n _ 10 (by omega)).mp (by rw [← b2]; exact c4)
          subst q2
          rw [show endAt t la = 0 by unfold endAt; rw [if_neg c, if_pos c3, if_neg c2, if_pos c4], w64 (by show _ ≤ (la : Int) + ((2 : Nat) : Int); omega) (by show (la : Int) + ((2 : Nat) : Int) < _; omega)]
          simp [e2]
        · have q2 : b ≠ 10 := fun e => c4 (by rw [b2]; exact (u8n _ 10 (by omega)).mpr e)
          have q2' : ¬ (10 = b) := fun e => q2 e.symm
          rw [show endAt t la = 2 by unfold endAt; rw [if_neg c, if_pos c3, if_neg c2, if_neg c4], e3]
          simp [q2, q2']
      · have q1 : a ≠ 13 := fun e => c3 (by rw [b1]; exact (u8n _ 13 (by omega)).mpr e)
        have q1' : ¬ (13 = a) := fun e => q1 e.symm
        rw [show endAt t la = 2 by unfold endAt; rw [if_neg c, if_neg c3], e3]
        simp [q1, q1']
theorem want_off (t : ByteArray) (la : Nat) (code : Int) (hc : code ≠ 0) (h : la ≤ t.size) : impl_scanner_want.f t (la : Int) code crlf = some (t, (la : Int), code) := by
  simp only [impl_scanner_want.f]
  rw [if_pos (by omega), if_pos (by omega), if_neg hc]
/-- The reference's way to tell it. -/
def endS (t : ByteArray) (i : Nat) : Int := if endAt t i = 0 then ((i + 2 : Nat) : Int) else if endAt t i = 1 then 0 else -1
theorem end_spec (t : ByteArray) (i : Nat) (h : i ≤ t.size) (hs : t.size ≤ 4611686018427387904) : Ev (fun k => spec_l11End.f k t (i : Int)) (endS t i) := by
  simp only [spec_l11End.f]
  refine Ev.succ ?_
  simp only [spec_l11End.l0, Int.add_zero]
  rw [w64 (n := (i : Int)) (by omega) (by omega)]
  refine Ev.yes (by omega) ?_
  unfold endS endAt
  by_cases c : t.size ≤ i
  · rw [if_pos c]; exact Ev.yes (by omega) (Ev.now _)
  · rw [if_neg c]
    refine Ev.no (by omega) (Ev.yes (by omega) (Ev.yes (by omega) (Ev.yes (by omega) (Ev.yes (by decide) ?_))))
    rw [show bt (⟨#[13, 10]⟩ : ByteArray) 0 = 13 from rfl]
    by_cases c2 : bt t i = 13
    · rw [if_pos c2]
      refine Ev.yes c2 (Ev.succ ?_)
      simp only [spec_l11End.l0]
      rw [w64 (n := (0 : Int) + 1) (by omega) (by omega), w64 (n := (i : Int) + (0 + 1)) (by omega) (by omega), show (i : Int) + (0 + 1) = ((i + 1 : Nat) : Int) by omega]
      refine Ev.yes (by omega) ?_
      by_cases c3 : t.size ≤ i + 1
      · rw [if_pos c3]; exact Ev.yes (by omega) (Ev.now _)
      · rw [if_neg c3]
        refine Ev.no (by omega) (Ev.yes (by omega) (Ev.yes (by omega) (Ev.yes (by omega) (Ev.yes (by decide) ?_))))
        rw [show bt (⟨#[13, 10]⟩ : ByteArray) (0 + 1) = 10 from rfl]
        by_cases c4 : bt t ((i + 1 : Nat) : Int) = 10
        · rw [if_pos c4]
          refine Ev.yes c4 (Ev.succ ?_)
          simp only [spec_l11End.l0]
          rw [w64 (n := (0 : Int) + 1 + 1) (by omega) (by omega), w64 (n := (i : Int) + 2) (by omega) (by omega)]
          exact Ev.no (by omega) (Ev.now _)
        · rw [if_neg c4]; exact Ev.no c4 (Ev.now _)
    · rw [if_neg c2]; exact Ev.no c2 (Ev.now _)
def D1 (t : ByteArray) (i : Nat) : Prop := i < t.size ∧ 0 ≤ hexv (bt t i)
instance (t : ByteArray) (i : Nat) : Decidable (D1 t i) := by unfold D1; exact inferInstance
def cntD (t : ByteArray) (i : Nat) : Nat := if D1 t i then (if D1 t (i + 1) then 2 else 1) else 0
def numD (t : ByteArray) (i : Nat) : Int := if D1 t i then (if D1 t (i + 1) then 16 * hexv (bt t i) + hexv (bt t ((i + 1 : Nat) : Int)) else hexv (bt t i)) else 0
theorem cntD_le (t : ByteArray) (i : Nat) (h : i ≤ t.size) : i + cntD t i ≤ t.size := by
  unfold cntD
  by_cases c : D1 t i
  · rw [if_pos c]; have := c.1
    by_cases d : D1 t (i + 1)
    · rw [if_pos d]; have := d.1; omega
    · rw [if_neg d]; omega
  · rw [if_neg c]; omega
theorem numD_rng (t : ByteArray) (i : Nat) : 0 ≤ numD t i ∧ numD t i ≤ 255 := by
  have h1 := hexv_rng (bt t i)
  have h2 := hexv_rng (bt t ((i + 1 : Nat) : Int))
  unfold numD
  by_cases c : D1 t i
  · rw [if_pos c]
    by_cases c2 : D1 t (i + 1)
    · rw [if_pos c2]; have := c.2; have := c2.2; omega
    · rw [if_neg c2]; have := c.2; omega
  · rw [if_neg c]; omega
def tailS (t : ByteArray) (at_ c : Nat) (n : Int) : Int × Int := if at_ + c = t.size then (0, 0) else if c = 0 then (0, -1) else if endAt t (at_ + c) = 0 then (n, ((at_ + c + 2 : Nat) : Int)) else if endAt t (at_ + c) = 1 then (0, 0) else (0, -1)
theorem tail_spec (t : ByteArray) (at_ c : Nat) (n : Int) (h : at_ + c ≤ t.size) (hs : t.size ≤ 4611686018427387904) : Ev (fun k => spec_l11Size.j1 k t (at_ : Int) n ((at_ + c : Nat) : Int)) (tailS t at_ c n) := by
  refine Ev.succ ?_
  simp only [spec_l11Size.j1]
  unfold tailS
  by_cases c1 : at_ + c = t.size
  · rw [if_pos c1]; exact Ev.yes (by omega) (Ev.now _)
  · rw [if_neg c1]
    refine Ev.no (by omega) ?_
    by_cases c2 : c = 0
    · rw [if_pos c2]
      refine Ev.yes (by omega) (Ev.succ ?_)
      simp only [spec_l11Size.j2]
      exact Ev.yes trivial (Ev.now _)
    · rw [if_neg c2]
      refine Ev.no (by omega) (Ev.yes (by omega) (Ev.yes (by omega) (Ev.succ ?_)))
      simp only [spec_l11Size.j2]
      unfold endAt
      rw [if_neg (show ¬ t.size ≤ at_ + c by omega)]
      rw [w64 (n := ((at_ + c : Nat) : Int) + 1) (by omega) (by omega), w64 (n := ((at_ + c : Nat) : Int) + 2) (by omega) (by omega)]
      by_cases c3 : bt t ((at_ + c : Nat) : Int) = 13
      · rw [if_pos c3]
        refine Ev.no (by rw [c3]; decide) ?_
        by_cases c4 : t.size ≤ at_ + c + 1
        · rw [if_pos c4]; exact Ev.yes (by omega) (Ev.now _)
        · rw [if_neg c4]
          refine Ev.no (by omega) (Ev.yes (by omega) (Ev.yes (by omega) ?_))
          by_cases c5 : bt t ((at_ + c + 1 : Nat) : Int) = 10
          · rw [if_pos c5]; exact Ev.yes c5 (Ev.now _)
          · rw [if_neg c5]; exact Ev.no c5 (Ev.now _)
      · rw [if_neg c3]
        exact Ev.yes (by simpa using c3) (Ev.now _)
def sizeS (t : ByteArray) (at_ : Nat) : Int × Int := tailS t at_ (cntD t at_) (numD t at_)
theorem size_spec (t : ByteArray) (at_ : Nat) (h : at_ ≤ t.size) (hs : t.size ≤ 4611686018427387904) : Ev (fun k => spec_l11Size.f k t (at_ : Int)) (sizeS t at_) := by
  simp only [spec_l11Size.f]
  unfold sizeS cntD numD
  refine Ev.succ ?_
  simp only [spec_l11Size.l0]
  rw [w64 (n := (at_ : Int) - at_) (by omega) (by omega)]
  have r1 := bt_rng t at_
  have v1 := value_spec (bt t at_) r1.1 r1.2
  have q1 := hexv_rng (bt t at_)
  by_cases c : D1 t at_
  · rw [if_pos c, if_pos c]
    have c' := c.1
    rw [wnat at_ t.size (by omega) (by omega)]
    refine Ev.yes (by omega) (Ev.yes (by omega) (Ev.yes (by omega) (Ev.bind v1 (Ev.yes c.2 (Ev.bind v1 ?_)))))
    rw [w64 (n := (16 : Int) * 0) (by omega) (by omega), w64 (n := (16 : Int) * 0 + hexv (bt t at_)) (by omega) (by omega), show (16 : Int) * 0 + hexv (bt t at_) = hexv (bt t at_) by omega]
    refine Ev.succ ?_
    simp only [spec_l11Size.l0]
    rw [w64 (n := ((at_ + 1 : Nat) : Int) - at_) (by omega) (by omega)]
    have r2 := bt_rng t ((at_ + 1 : Nat) : Int)
    have v2 := value_spec (bt t ((at_ + 1 : Nat) : Int)) r2.1 r2.2
    have q2 := hexv_rng (bt t ((at_ + 1 : Nat) : Int))
    by_cases d : D1 t (at_ + 1)
    · rw [if_pos d, if_pos d]
      have d' := d.1
      rw [wnat (at_ + 1) t.size (by omega) (by omega)]
      refine Ev.yes (by omega) (Ev.yes (by omega) (Ev.yes (by omega) (Ev.bind v2 (Ev.yes d.2 (Ev.bind v2 ?_)))))
      rw [w64 (n := (16 : Int) * hexv (bt t at_)) (by omega) (by omega), w64 (n := (16 : Int) * hexv (bt t at_) + hexv (bt t ((at_ + 1 : Nat) : Int))) (by omega) (by omega)]
      refine Ev.succ ?_
      simp only [spec_l11Size.l0]
      rw [w64 (n := ((at_ + 1 + 1 : Nat) : Int) - at_) (by omega) (by omega)]
      have ht := tail_spec t at_ 2 (16 * hexv (bt t at_) + hexv (bt t ((at_ + 1 : Nat) : Int))) (by omega) hs
      by_cases e : at_ + 2 < t.size
      · exact Ev.yes (by omega) (Ev.no (by omega) ht)
      · exact Ev.no (by omega) ht
    · rw [if_neg d, if_neg d]
      have ht := tail_spec t at_ 1 (hexv (bt t at_)) (by omega) hs
      by_cases e : at_ + 1 < t.size
      · refine Ev.yes (by omega) (Ev.yes (by omega) (Ev.yes (by omega) (Ev.bind v2 (Ev.no ?_ ht))))
        intro h0; exact d ⟨e, h0⟩
      · exact Ev.no (by omega) ht
  · rw [if_neg c, if_neg c]
    have ht := tail_spec t at_ 0 0 (by omega) hs
    by_cases e : at_ < t.size
    · refine Ev.yes (by omega) (Ev.yes (by omega) (Ev.yes (by omega) (Ev.bind v1 (Ev.no ?_ ht))))
      intro h0; exact c ⟨e, h0⟩
    · exact Ev.no (by omega) ht
def lenI (t : ByteArray) (at_ : Nat) (c : Nat) (n : Int) : Int × ByteArray × Int × Int := (n, t, ((at_ + c : Nat) : Int), if c = 0 then (if at_ + c = t.size then 1 else 2) else 0)
theorem len_tail (t : ByteArray) (at_ c : Nat) (n : Int) : Ev (fun k => impl_scanner_length.j2 k n (c : Int) t ((at_ + c : Nat) : Int) 0) (lenI t at_ c n) := by
  refine Ev.succ ?_
  simp only [impl_scanner_length.j2]
  unfold lenI
  by_cases c1 : c = 0
  · rw [if_pos c1]
    refine Ev.yes (by omega) (Ev.succ ?_)
    simp only [impl_scanner_length.j3]
    by_cases c2 : at_ + c = t.size
    · rw [if_pos c2]; exact Ev.yes (by simp; omega) (Ev.now _)
    · rw [if_neg c2]; exact Ev.no (by simp; omega) (Ev.yes (by omega) (Ev.now _))
  · rw [if_neg c1]
    refine Ev.no (by omega) (Ev.succ ?_)
    simp only [impl_scanner_length.j3]
    exact Ev.no (by simp) (Ev.no (by omega) (Ev.now _))
theorem lower_one (t : ByteArray) (i : Nat) (h : i < t.size) : ∃ b : UInt8, bt t (i : Int) = ((b.toNat : Nat) : Int) ∧ impl_lower.f (t.extract i (i + 1)) = some (impl_lower.all (t.extract i (i + 1))) ∧ (impl_lower.all (t.extract i (i + 1))).size = 1 ∧ bt (impl_lower.all (t.extract i (i + 1))) 0 = (((impl_lower.one b).toNat : Nat) : Int) := by
  have hz : (t.extract i (i + 1)).size = 1 := by rw [ext_size _ _ _ (by omega)]; omega
  have hd : (t.extract i (i + 1)).data.toList = [t.data.toList[i]'(by rw [sizeL]; exact h)] := by
    rw [Lib.extract_data, List.drop_eq_getElem_cons (by rw [sizeL]; exact h), show i + 1 - i = 1 by omega]; simp
  refine ⟨t.data.toList[i]'(by rw [sizeL]; exact h), bt_get t i h, ?_, by rw [impl_lower.all_size]; exact hz, ?_⟩
  · unfold impl_lower.f; rw [if_pos (by omega)]
  · have e : (impl_lower.all (t.extract i (i + 1))).data.toList = [impl_lower.one (t.data.toList[i]'(by rw [sizeL]; exact h))] := by
      show ((t.extract i (i + 1)).data.map impl_lower.one).toList = _
      rw [Array.toList_map, hd]; rfl
    have h0 : 0 < (impl_lower.all (t.extract i (i + 1))).size := by rw [impl_lower.all_size, hz]; omega
    have := bt_get (impl_lower.all (t.extract i (i + 1))) 0 h0
    rw [show ((0 : Nat) : Int) = 0 from rfl] at this
    rw [this]
    simp only [e, List.getElem_cons_zero]
theorem len_step (t : ByteArray) (i : Nat) (n : Int) (c : Nat) (hc : c < 2) (h : i < t.size) (hs : t.size ≤ 4611686018427387904) (hn : 0 ≤ n ∧ n ≤ 15) (r : Int × ByteArray × Int × Int)
    (hy : 0 ≤ hexv (bt t i) → Ev (fun k => impl_scanner_length.l0 k (16 * n + hexv (bt t i)) ((c + 1 : Nat) : Int) t ((i + 1 : Nat) : Int) 0) r) (hx : ¬ 0 ≤ hexv (bt t i) → Ev (fun k => impl_scanner_length.j2 k n (c : Int) t (i : Int) 0) r) :
    Ev (fun k => impl_scanner_length.l0 k n (c : Int) t (i : Int) 0) r := by
  obtain ⟨b, e1, e2, e3, e4⟩ := lower_one t i h
  have q := hexv_rng (bt t i)
  refine Ev.succ ?_
  simp only [impl_scanner_length.l0]
  refine Ev.yes (by omega) (Ev.succ ?_)
  simp only [impl_scanner_length.j1]
  rw [wnat i t.size h (by omega)]
  simp only [Int.toNat_natCast, e2, Option.bind_some, e3, e4, strings_IndexByte.f]
  have ih := index_hex b
  rw [Int.toNat_natCast, ← e1] at ih
  rw [ih]
  refine Ev.yes (decide_eq_true (by omega)) (Ev.yes (by omega) (Ev.yes (by omega) (Ev.yes (by omega) (Ev.yes (by omega) ?_))))
  by_cases c2 : 0 ≤ hexv (bt t i)
  · rw [w64 (n := (16 : Int) * n) (by omega) (by omega), w64 (n := (16 : Int) * n + hexv (bt t i)) (by omega) (by omega), w64 (n := (c : Int) + 1) (by omega) (by omega)]
    exact Ev.no (by omega) (hy c2)
  · exact Ev.yes (by omega) (hx c2)
theorem len_stop (t : ByteArray) (i : Nat) (n : Int) (c : Nat) (hc : 2 ≤ c ∨ t.size ≤ i) (r : Int × ByteArray × Int × Int) (h : Ev (fun k => impl_scanner_length.j2 k n (c : Int) t (i : Int) 0) r) : Ev (fun k => impl_scanner_length.l0 k n (c : Int) t (i : Int) 0) r := by
  refine Ev.succ ?_
  simp only [impl_scanner_length.l0]
  by_cases c1 : i < t.size
  · refine Ev.yes (by omega) (Ev.succ ?_)
    simp only [impl_scanner_length.j1]
    exact Ev.no (by simp; omega) h
  · refine Ev.no (by omega) (Ev.succ ?_)
    simp only [impl_scanner_length.j1]
    exact Ev.no (by simp) h
theorem len_impl (t : ByteArray) (at_ : Nat) (h : at_ ≤ t.size) (hs : t.size ≤ 4611686018427387904) : Ev (fun k => impl_scanner_length.f k t (at_ : Int) 0) (lenI t at_ (cntD t at_) (numD t at_)) := by
  simp only [impl_scanner_length.f]
  unfold cntD numD
  have q1 := hexv_rng (bt t at_)
  have q2 := hexv_rng (bt t ((at_ + 1 : Nat) : Int))
  by_cases c : D1 t at_
  · rw [if_pos c, if_pos c]
    have c' := c.1
    refine len_step t at_ 0 0 (by omega) c' hs (by omega) _ (fun _ => ?_) (fun hn => absurd c.2 hn)
    rw [show (16 : Int) * 0 + hexv (bt t at_) = hexv (bt t at_) by omega]
    by_cases d : D1 t (at_ + 1)
    · rw [if_pos d, if_pos d]
      have d' := d.1
      refine len_step t (at_ + 1) _ 1 (by omega) d' hs (by have := c.2; omega) _ (fun _ => ?_) (fun hn => absurd d.2 hn)
      exact len_stop t (at_ + 2) _ 2 (.inl (by omega)) _ (len_tail t at_ 2 _)
    · rw [if_neg d, if_neg d]
      by_cases e : at_ + 1 < t.size
      · exact len_step t (at_ + 1) _ 1 (by omega) e hs (by have := c.2; omega) _ (fun h0 => absurd ⟨e, h0⟩ d) (fun _ => len_tail t at_ 1 _)
      · exact len_stop t (at_ + 1) _ 1 (.inr (by omega)) _ (len_tail t at_ 1 _)
  · rw [if_neg c, if_neg c]
    by_cases e : at_ < t.size
    · exact len_step t at_ 0 0 (by omega) e hs (by omega) _ (fun h0 => absurd ⟨e, h0⟩ c) (fun _ => len_tail t at_ 0 0)
    · exact len_stop t at_ 0 0 (.inr (by omega)) _ (len_tail t at_ 0 0)
def badR (code : Int) : ByteArray × Int × Int := (⟨#[]⟩, 0, code)
theorem badR_small (c : Int) : (badR c).1.size ≤ 400 := by show 0 ≤ 400; omega
theorem stop_l0 (t out s : ByteArray) (a code : Int) (hc : code ≠ 0) : Ev (fun k => impl_ReadChunks.l0 k t out s a code) (badR code) := by
  refine Ev.succ ?_
  simp only [impl_ReadChunks.l0]
  exact Ev.no hc (Ev.now _)
theorem stop_j3 (t out s : ByteArray) (n a code : Int) (hc : code ≠ 0) : Ev (fun k => impl_ReadChunks.j3 k t out n s a code) (badR code) := by
  refine Ev.succ ?_
  simp only [impl_ReadChunks.j3]
  refine Ev.no hc (Ev.succ ?_)
  simp only [impl_ReadChunks.j4]
  exact Ev.no (by simp) (Ev.no hc (stop_l0 t out s a code hc))
theorem stop_j1 (t out s : ByteArray) (n a code : Int) (hc : code ≠ 0) : Ev (fun k => impl_ReadChunks.j1 k t out n false s a code) (badR code) := by
  refine Ev.succ ?_
  simp only [impl_ReadChunks.j1]
  refine Ev.no (by simp) (Ev.no hc (Ev.succ ?_))
  simp only [impl_ReadChunks.j2]
  exact Ev.no (by simp) (stop_j3 t out s n a code hc)
theorem ext_none (t : ByteArray) (i : Nat) : t.extract i i = (⟨#[]⟩ : ByteArray) := ba_ext (by rw [Lib.extract_data, Nat.sub_self, List.take_zero])
theorem app_none (t : ByteArray) : t ++ (⟨#[]⟩ : ByteArray) = t := ByteArray.append_empty
theorem endS_neg {t : ByteArray} {i : Nat} (h : endAt t i = 2) : endS t i = -1 := by unfold endS; rw [h]; rfl
theorem endS_more {t : ByteArray} {i : Nat} (h : endAt t i = 1) : endS t i = 0 := by unfold endS; rw [h]; rfl
theorem endS_ok {t : ByteArray} {i : Nat} (h : endAt t i = 0) : endS t i = ((i + 2 : Nat) : Int) := by unfold endS; rw [if_pos h]
theorem reads (t : ByteArray) (hs : t.size ≤ 4611686018427387904) (d : Nat) : ∀ (at_ : Nat) (out : ByteArray), at_ ≤ t.size → t.size - at_ ≤ d → out.size ≤ 400 → ∃ r : ByteArray × Int × Int, r.1.size ≤ 400 ∧ Ev (fun k => spec_ReadChunks.l0 k t out (at_ : Int)) r ∧ Ev (fun k => impl_ReadChunks.l0 k t out t (at_ : Int) 0) r := by
  induction d with
  | zero =>
    intro at_ out ha hd ho
    obtain rfl : at_ = t.size := by omega
    have hz := size_spec t t.size (by omega) hs
    have hl := len_impl t t.size (by omega) hs
    have hc : cntD t t.size = 0 := by have := cntD_le t t.size (by omega); omega
    unfold sizeS tailS at hz
    rw [hc, if_pos (by omega)] at hz
    unfold lenI at hl
    rw [hc, if_pos rfl, if_pos (by omega)] at hl
    refine ⟨badR 1, badR_small 1, Ev.succ ?_, Ev.succ ?_⟩
    · simp only [spec_ReadChunks.l0]
      exact Ev.bind hz (Ev.no (by decide) (Ev.yes rfl (Ev.now _)))
    · simp only [impl_ReadChunks.l0]
      exact Ev.yes trivial (Ev.bind hl (Ev.via (want_off t _ 1 (by omega) (by omega)) (Ev.no (by simp) (stop_j1 t out t _ _ 1 (by omega)))))
  | succ d ih =>
    intro at_ out ha hd ho
    have hz := size_spec t at_ ha hs
    have hl := len_impl t at_ ha hs
    have hcl := cntD_le t at_ ha
    have hn := numD_rng t at_
    unfold sizeS tailS at hz
    unfold lenI at hl
    by_cases c0 : cntD t at_ = 0
    · rw [c0] at hz
      rw [if_pos c0, c0] at hl
      by_cases c1 : at_ + 0 = t.size
      · rw [if_pos c1] at hz
        rw [if_pos c1] at hl
        refine ⟨badR 1, badR_small 1, Ev.succ ?_, Ev.succ ?_⟩
        · simp only [spec_ReadChunks.l0]
          exact Ev.bind hz (Ev.no (by decide) (Ev.yes rfl (Ev.now _)))
        · simp only [impl_ReadChunks.l0]
          exact Ev.yes trivial (Ev.bind hl (Ev.via (want_off t _ 1 (by omega) (by omega)) (Ev.no (by simp) (stop_j1 t out t _ _ 1 (by omega)))))
      · rw [if_neg c1, if_pos rfl] at hz
        rw [if_neg c1] at hl
        refine ⟨badR 2, badR_small 2, Ev.succ ?_, Ev.succ ?_⟩
        · simp only [spec_ReadChunks.l0]
          exact Ev.bind hz (Ev.yes (by decide) (Ev.now _))
        · simp only [impl_ReadChunks.l0]
          exact Ev.yes trivial (Ev.bind hl (Ev.via (want_off t _ 2 (by omega) (by omega)) (Ev.no (by simp) (stop_j1 t out t _ _ 2 (by omega)))))
    · rw [if_neg c0] at hl
      have hw := want_at t (at_ + cntD t at_) (by omega) hs
      rcases endAt_in t (at_ + cntD t at_) with h | h | h
      · -- the line is right
        have hb := endAt_zero h
        rw [if_neg (by omega), if_neg c0, if_pos h] at hz
        rw [if_pos h, h] at hw
        generalize hi : at_ + cntD t at_ + 2 = nx at hz hw hb
        generalize numD t at_ = n at hz hl hn
        obtain ⟨m, rfl⟩ : ∃ m : Nat, n = (m : Int) := ⟨n.toNat, by omega⟩
        by_cases c2 : m = 0
        · subst c2
          have he := end_spec t nx hb hs
          have hw2 := want_at t nx hb hs
          have hx0 : t.extract nx nx = (⟨#[]⟩ : ByteArray) := ext_none t nx
          have start : ∀ r, Ev (fun k => (spec_l11End.f k t (nx : Int)).bind fun t152 => (if t152 < 0 then (some (badR 2)) else (if t152 = 0 then (some (badR 1)) else some (out, t152, 0)))) r → Ev (fun k => spec_ReadChunks.l0 k t out (at_ : Int)) r := by
            intro r hr
            refine Ev.succ ?_
            simp only [spec_ReadChunks.l0]
            refine Ev.bind hz (Ev.no (by show ¬ ((nx : Nat) : Int) < 0; omega) (Ev.no (by show ¬ ((nx : Nat) : Int) = 0; omega) ?_))
            dsimp only
            rw [w64 (n := (out.size : Int) + ((0 : Nat) : Int)) (by omega) (by omega), w64 (n := (t.size : Int) - (nx : Int)) (by omega) (by omega), w64 (n := (nx : Int) + ((0 : Nat) : Int)) (by omega) (by omega), show (nx : Int) + ((0 : Nat) : Int) = (nx : Int) by omega]
            simp only [Int.toNat_natCast, hx0, app_none]
            refine Ev.no (by omega) (Ev.no (by omega) (Ev.yes (by omega) (Ev.yes (by omega) (Ev.yes (by omega) (Ev.yes (by show out.size + 0 ≤ _; omega) ?_)))))
            refine Ev.congr (fun k => ?_) hr
            congr 1
          have startI : ∀ r, Ev (fun k => (impl_scanner_want.f t (nx : Int) 0 crlf).bind fun bt166 => (if bt166.2.2 = 0 then (some (out, bt166.2.1, 0)) else (some (badR bt166.2.2)))) r → Ev (fun k => impl_ReadChunks.l0 k t out t (at_ : Int) 0) r := by
            intro r hr
            refine Ev.succ ?_
            simp only [impl_ReadChunks.l0]
            refine Ev.yes trivial (Ev.bind hl (Ev.via hw (Ev.yes rfl (Ev.succ ?_))))
            simp only [impl_ReadChunks.j1]
            exact Ev.yes rfl hr
          rcases endAt_in t nx with h2 | h2 | h2
          · rw [endS_ok h2] at he
            rw [if_pos h2, h2] at hw2
            exact ⟨(out, ((nx + 2 : Nat) : Int), 0), ho, start _ (Ev.bind he (Ev.no (by omega) (Ev.no (by omega) (Ev.now _)))), startI _ (Ev.via hw2 (Ev.yes rfl (Ev.now _)))⟩
          · rw [endS_more h2] at he
            rw [if_neg (by omega), h2] at hw2
            exact ⟨badR 1, badR_small 1, start _ (Ev.bind he (Ev.no (by omega) (Ev.yes rfl (Ev.now _)))), startI _ (Ev.via hw2 (Ev.no (by simp) (Ev.now _)))⟩
          · rw [endS_neg h2] at he
            rw [if_neg (by omega), h2] at hw2
            exact ⟨badR 2, badR_small 2, start _ (Ev.bind he (Ev.yes (by omega) (Ev.now _))), startI _ (Ev.via hw2 (Ev.no (by simp) (Ev.now _)))⟩
        · have startI : ∀ r, Ev (fun k => impl_ReadChunks.j2 k t out (m : Int) (decide ((wrap64 ((out.size : Int) + (m : Int))) > 400)) t (nx : Int) 0) r → Ev (fun k => impl_ReadChunks.l0 k t out t (at_ : Int) 0) r := by
            intro r hr
            refine Ev.succ ?_
            simp only [impl_ReadChunks.l0]
            refine Ev.yes trivial (Ev.bind hl (Ev.via hw (Ev.yes rfl (Ev.succ ?_))))
            simp only [impl_ReadChunks.j1]
            exact Ev.no (by simp; omega) (Ev.yes trivial hr)
          rw [w64 (n := (out.size : Int) + (m : Int)) (by omega) (by omega)] at startI
          have start : ∀ r, Ev (fun k => (if (out.size : Int) + (m : Int) > 400 then some (badR 2) else (if (m : Int) > (t.size : Int) - (nx : Int) then some (badR 1) else (if out.size + (t.extract nx (nx + m)).size ≤ 9223372036854775807 then ((spec_l11End.f k t ((nx + m : Nat) : Int)).bind fun t152 => (if t152 < 0 then (some (badR 2)) else (if t152 = 0 then (some (badR 1)) else (spec_ReadChunks.l0 k t (out ++ (t.extract nx (nx + m))) t152)))) else none)))) r → Ev (fun k => spec_ReadChunks.l0 k t out (at_ : Int)) r := by
            intro r hr
            refine Ev.succ ?_
            simp only [spec_ReadChunks.l0]
            refine Ev.bind hz (Ev.no (by show ¬ ((nx : Nat) : Int) < 0; omega) (Ev.no (by show ¬ ((nx : Nat) : Int) = 0; omega) ?_))
            dsimp only
            rw [w64 (n := (out.size : Int) + (m : Int)) (by omega) (by omega), w64 (n := (t.size : Int) - (nx : Int)) (by omega) (by omega), w64 (n := (nx : Int) + (m : Int)) (by omega) (by omega), show (nx : Int) + (m : Int) = ((nx + m : Nat) : Int) by omega]
            simp only [Int.toNat_natCast]
            refine Ev.congr (fun k => ?_) hr
            by_cases b1 : (out.size : Int) + (m : Int) > 400
            · rw [if_pos b1, if_pos b1]; rfl
            · rw [if_neg b1, if_neg b1]
              by_cases b2 : (m : Int) > (t.size : Int) - (nx : Int)
              · rw [if_pos b2, if_pos b2]; rfl
              · rw [if_neg b2, if_neg b2, if_pos (by omega), if_pos (by omega), if_pos (by omega)]
                by_cases b3 : out.size + (t.extract nx (nx + m)).size ≤ 9223372036854775807
                · rw [if_pos b3, if_pos b3]
                  congr 1
                  funext x
                  rw [if_neg (show ¬ ((m : Nat) : Int) = 0 by omega)]; rfl
                · rw [if_neg b3, if_neg b3]
          by_cases b1 : (out.size : Int) + (m : Int) > 400
          · refine ⟨badR 2, badR_small 2, start _ (Ev.yes b1 (Ev.now _)), startI _ (Ev.succ ?_)⟩
            simp only [impl_ReadChunks.j2]
            exact Ev.yes (decide_eq_true b1) (stop_j3 t out t _ _ 2 (by omega))
          · have startJ : ∀ r, Ev (fun k => impl_ReadChunks.j4 k t out (m : Int) (decide ((m : Int) > (t.size : Int) - (nx : Int))) t (nx : Int) 0) r → Ev (fun k => impl_ReadChunks.l0 k t out t (at_ : Int) 0) r := by
              intro r hr
              refine startI r (Ev.succ ?_)
              simp only [impl_ReadChunks.j2]
              refine Ev.no (by simpa using b1) (Ev.succ ?_)
              simp only [impl_ReadChunks.j3]
              rw [w64 (n := (t.size : Int) - (nx : Int)) (by omega) (by omega)]
              exact Ev.yes trivial hr
            by_cases b2 : (m : Int) > (t.size : Int) - (nx : Int)
            · refine ⟨badR 1, badR_small 1, start _ (Ev.no b1 (Ev.yes b2 (Ev.now _))), startJ _ (Ev.succ ?_)⟩
              simp only [impl_ReadChunks.j4]
              exact Ev.yes (decide_eq_true b2) (stop_l0 t out t _ 1 (by omega))
            · have he := end_spec t (nx + m) (by omega) hs
              have hw2 := want_at t (nx + m) (by omega) hs
              have hxz : (t.extract nx (nx + m)).size = m := by rw [ext_size _ _ _ (by omega)]; omega
              have goI : ∀ r, Ev (fun k => (impl_scanner_want.f t ((nx + m : Nat) : Int) 0 crlf).bind fun bt169 => (impl_ReadChunks.l0 k t (out ++ (t.extract nx (nx + m))) bt169.1 bt169.2.1 bt169.2.2)) r → Ev (fun k => impl_ReadChunks.l0 k t out t (at_ : Int) 0) r := by
                intro r hr
                refine startJ r (Ev.succ ?_)
                simp only [impl_ReadChunks.j4]
                rw [w64 (n := (nx : Int) + (m : Int)) (by omega) (by omega), show (nx : Int) + (m : Int) = ((nx + m : Nat) : Int) by omega]
                simp only [Int.toNat_natCast]
                exact Ev.no (by simpa using b2) (Ev.yes trivial (Ev.yes (by omega) (Ev.yes (by omega) (Ev.yes (by omega) (Ev.yes (by rw [hxz]; omega) hr)))))
              have goS : ∀ r, Ev (fun k => (spec_l11End.f k t ((nx + m : Nat) : Int)).bind fun t152 => (if t152 < 0 then (some (badR 2)) else (if t152 = 0 then (some (badR 1)) else (spec_ReadChunks.l0 k t (out ++ (t.extract nx (nx + m))) t152)))) r → Ev (fun k => spec_ReadChunks.l0 k t out (at_ : Int)) r := fun r hr => start r (Ev.no b1 (Ev.no b2 (Ev.yes (by rw [hxz]; omega) hr)))
              rcases endAt_in t (nx + m) with h2 | h2 | h2
              · have hb2 := endAt_zero h2
                rw [endS_ok h2] at he
                rw [if_pos h2, h2] at hw2
                obtain ⟨r, e0, e1, e2⟩ := ih (nx + m + 2) (out ++ (t.extract nx (nx + m))) (by omega) (by omega) (by rw [ByteArray.size_append, hxz]; omega)
                exact ⟨r, e0, goS r (Ev.bind he (Ev.no (by omega) (Ev.no (by omega) e1))), goI r (Ev.via hw2 e2)⟩
              · rw [endS_more h2] at he
                rw [if_neg (by omega), h2] at hw2
                exact ⟨badR 1, badR_small 1, goS _ (Ev.bind he (Ev.no (by omega) (Ev.yes rfl (Ev.now _)))), goI _ (Ev.via hw2 (stop_l0 _ _ _ _ 1 (by omega)))⟩
              · rw [endS_neg h2] at he
                rw [if_neg (by omega), h2] at hw2
                exact ⟨badR 2, badR_small 2, goS _ (Ev.bind he (Ev.yes (by omega) (Ev.now _))), goI _ (Ev.via hw2 (stop_l0 _ _ _ _ 2 (by omega)))⟩
      · rw [if_neg (by omega), h] at hw
        have hz2 : Ev (fun k => spec_l11Size.f k t (at_ : Int)) (0, 0) := by
          by_cases c1 : at_ + cntD t at_ = t.size
          · rwa [if_pos c1] at hz
          · rwa [if_neg c1, if_neg c0, if_neg (by omega), if_pos h] at hz
        refine ⟨badR 1, badR_small 1, Ev.succ ?_, Ev.succ ?_⟩
        · simp only [spec_ReadChunks.l0]
          exact Ev.bind hz2 (Ev.no (by decide) (Ev.yes rfl (Ev.now _)))
        · simp only [impl_ReadChunks.l0]
          exact Ev.yes trivial (Ev.bind hl (Ev.via hw (Ev.no (by simp) (stop_j1 t out t _ _ 1 (by omega)))))
      · rw [if_neg (by omega), h] at hw
        have hz2 : Ev (fun k => spec_l11Size.f k t (at_ : Int)) (0, -1) := by
          have c1 : ¬ at_ + cntD t at_ = t.size := by
            intro e; rw [e] at h; unfold endAt at h; rw [if_pos (by omega)] at h; omega
          rwa [if_neg c1, if_neg c0, if_neg (by omega), if_neg (by omega)] at hz
        refine ⟨badR 2, badR_small 2, Ev.succ ?_, Ev.succ ?_⟩
        · simp only [spec_ReadChunks.l0]
          exact Ev.bind hz2 (Ev.yes (by decide) (Ev.now _))
        · simp only [impl_ReadChunks.l0]
          exact Ev.yes trivial (Ev.bind hl (Ev.via hw (Ev.no (by simp) (stop_j1 t out t _ _ 2 (by omega)))))
theorem reads_both (t : ByteArray) (hs : t.size ≤ 4611686018427387904) : ∃ r : ByteArray × Int × Int, r.1.size ≤ 400 ∧ Ev (fun k => spec_ReadChunks.f k t) r ∧ Ev (fun k => impl_ReadChunks.f k t) r := by
  simp only [spec_ReadChunks.f, impl_ReadChunks.f]
  exact reads t hs t.size 0 ⟨#[]⟩ (by omega) (by omega) (by show 0 ≤ 400; omega)
end Go.Proofs.Ythjigecaojaalaa.Q
