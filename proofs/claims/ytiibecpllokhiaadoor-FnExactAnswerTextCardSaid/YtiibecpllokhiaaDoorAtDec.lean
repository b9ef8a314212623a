import Derived.Test.YtiibecpllokhiaaDoorAtStr
import Derived.Lib.ItoaNum
import Derived.Test.YtiibecpllokhiaaDoorAtG100
import Derived.Test.YtiibecpllokhiaaDoorAtG71
namespace Go.Proofs.YtiibecpllokhiaaDoor.Q
open Go.RowKit Go.Proofs.YtiibecpllokhiaaDoorW.PrintWords Go.Proofs.YtiibecpllokhiaaDoorW.PrintLast Go.Proofs.YtiibecpllokhiaaDoorW.PrintMore
def dd (n : Nat) : List UInt8 := if n = 0 then [] else Lib.decDigits n
theorem dd_pos {n : Nat} (h : n ≠ 0) : dd n = dd (n / 10) ++ [UInt8.ofNat (48 + n % 10)] := by
  unfold dd
  rw [if_neg h]
  by_cases c : n < 10
  · rw [if_pos (by omega), Lib.decDigits_one c, List.nil_append, Nat.mod_eq_of_lt c]
  · rw [if_neg (by omega), Lib.decDigits, dif_neg c]
theorem dd_len (n : Nat) : (dd n).length ≤ n := by
  induction n using Nat.strongRecOn with
  | _ n ih =>
    by_cases h : n = 0
    · subst h; simp [dd]
    · rw [dd_pos h, List.length_append, List.length_singleton]
      have := ih (n / 10) (by omega)
      omega
theorem dd_app (x : List UInt8) (c : UInt8) (acc : ByteArray) : (⟨(x ++ [c]).toArray⟩ : ByteArray) ++ acc = (⟨x.toArray⟩ : ByteArray) ++ ((⟨#[c]⟩ : ByteArray) ++ acc) := by
  apply ba_ext
  simp
theorem figure_eq (d : Int) (h0 : 0 ≤ d) (h1 : d < 10) : spec_l01Figure.f d = some (48 + d) := by
  unfold spec_l01Figure.f
  rw [if_pos h1, w64 (by omega) (by omega), Int.emod_eq_of_lt (by omega) (by omega)]
theorem dec_spec_l (n : Nat) : ∀ (acc : ByteArray), n ≤ 4611686018427387904 → acc.size + n ≤ 4611686018427387904 → Ev (fun k => spec_Decimal.l0 k (n : Int) false acc) ((⟨(dd n).toArray⟩ : ByteArray) ++ acc) := by
  induction n using Nat.strongRecOn with
  | _ n ih =>
    intro acc hn hs
    refine Ev.succ ?_
    simp only [spec_Decimal.l0]
    by_cases h : n = 0
    · subst h
      rw [show (⟨(dd 0).toArray⟩ : ByteArray) ++ acc = acc from by apply ba_ext; simp [dd]]
      exact Ev.yes rfl (Ev.no (by simp) (Ev.now _))
    · have hm : Int.tmod (n : Int) 10 = ((n % 10 : Nat) : Int) := by rw [Int.tmod_eq_emod_of_nonneg (by omega)]; rfl
      have hd : Int.tdiv (n : Int) 10 = ((n / 10 : Nat) : Int) := by rw [Int.tdiv_eq_ediv_of_nonneg (by omega)]; rfl
      rw [hm, hd, w64 (n := ((n / 10 : Nat) : Int)) (by omega) (by omega)]
      refine Ev.no (by omega) (Ev.no (by omega) (Ev.via (figure_eq _ (by omega) (by omega)) ?_))
      simp only [Option.bind_some]
      have e1 : strOfNums [48 + ((n % 10 : Nat) : Int)] = (⟨#[UInt8.ofNat (48 + n % 10)]⟩ : ByteArray) := by
        unfold strOfNums
        have : (48 + ((n % 10 : Nat) : Int)).toNat = 48 + n % 10 := by omega
        simp only [List.map_cons, List.map_nil, this]
      rw [e1, dd_pos h, dd_app]
      refine Ev.yes (by show 1 + acc.size ≤ _; omega) (ih (n / 10) (by omega) _ (by omega) (by rw [ByteArray.size_append]; show 1 + acc.size + n / 10 ≤ _; omega))
def decB (n : Nat) : ByteArray := ⟨(Lib.decDigits n).toArray⟩
theorem decB_size (n : Nat) : (decB n).size ≤ n + 1 := by
  unfold decB
  show (Lib.decDigits n).toArray.size ≤ n + 1
  rw [List.size_toArray]
  by_cases h : n = 0
  · subst h; rw [Lib.decDigits_one (by omega)]; simp
  · have := dd_len n
    unfold dd at this
    rw [if_neg h] at this
    omega
theorem dec_spec (n : Nat) (hn : n ≤ 4611686018427387904) : Ev (fun k => spec_Decimal.f k (n : Int)) (decB n) := by
  simp only [spec_Decimal.f]
  by_cases h : n = 0
  · subst h
    rw [show decB 0 = (⟨#[48]⟩ : ByteArray) from by unfold decB; rw [Lib.decDigits_one (by omega)]; rfl]
    exact Ev.yes rfl (Ev.now _)
  · refine Ev.no (by omega) ?_
    rw [decide_eq_false (show ¬ ((n : Int) < 0) by omega)]
    have := dec_spec_l n ⟨#[]⟩ hn (by show 0 + n ≤ _; omega)
    rw [show (⟨(dd n).toArray⟩ : ByteArray) ++ (⟨#[]⟩ : ByteArray) = decB n from by apply ba_ext; unfold decB dd; rw [if_neg h]; simp] at this
    exact this
theorem dec_impl (n : Nat) (hn : n ≤ 4611686018427387904) : impl_Decimal.f (n : Int) = some (decB n) := by
  unfold impl_Decimal.f strconv_Itoa.f
  rw [if_pos (by omega)]
  unfold Lib.itoa decB
  rw [if_neg (by omega), Int.toNat_natCast]
  rfl
end Go.Proofs.YtiibecpllokhiaaDoor.Q
