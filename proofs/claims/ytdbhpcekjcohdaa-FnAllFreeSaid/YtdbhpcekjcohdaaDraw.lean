import Derived.Test.YtdbhpcekjcohdaaEpFun
import Derived.Test.YtdbhpcekjcohdaaG58
import Derived.Test.YtdbhpcekjcohdaaG26
namespace Go.Proofs.Ytdbhpcekjcohdaa.Q
open Go.RowKit Go.Proofs.YtdbhpcekjcohdaaW.PrintWords Go.Proofs.YtdbhpcekjcohdaaW.PrintLast Go.Proofs.YtdbhpcekjcohdaaW.PrintMore
/-! ### the draws: always something, within bounds -/
theorem and255v (a : Int) : Go.bits .and .i64 a 255 = a % 256 := by
  unfold Go.bits
  simp only [IntKind.wrap_i64]
  have e1 : (BitVec.ofInt IntKind.i64.bits a).toNat = (a % 18446744073709551616).toNat := by rw [BitVec.toNat_ofInt]; rfl
  have e2 : (BitVec.ofInt IntKind.i64.bits 255).toNat = 2 ^ 8 - 1 := by decide
  rw [BitVec.toNat_and, e1, e2, Nat.and_two_pow_sub_one_eq_mod]
  omega
theorem byte_ok (l : List Int) (i h : Int) (h0 : 0 ≤ i) (h1 : i ≤ l.length) (hl : l.length ≤ 4611686018427387904) :
    ∃ x i' h', spec_l01Byte.f l i h = some (x, i', h') ∧ 0 ≤ x ∧ x ≤ 255 ∧ 0 ≤ i' ∧ i' ≤ l.length := by
  unfold spec_l01Byte.f
  by_cases c : i < (l.length : Int)
  · rw [if_pos c, if_pos h0, w64 (n := i + 1) (by omega) (by omega), and255v]
    exact ⟨_, _, _, rfl, by omega, by omega, by omega, by omega⟩
  · rw [if_neg c, and255v]
    exact ⟨_, _, _, rfl, by omega, by omega, by omega, by omega⟩
theorem below_ok (l : List Int) (i h n : Int) (hn : 1 ≤ n) (h0 : 0 ≤ i) (h1 : i ≤ l.length) (hl : l.length ≤ 4611686018427387904) :
    ∃ x i' h', spec_l01Below.f l i h n = some (x, i', h') ∧ 0 ≤ x ∧ x < n ∧ 0 ≤ i' ∧ i' ≤ l.length := by
  unfold spec_l01Below.f
  obtain ⟨x1, i1, g1, e1, a1, b1, c1, d1⟩ := byte_ok l i h h0 h1 hl
  rw [if_neg (by omega), e1]
  simp only [Option.bind_some]
  by_cases c : n ≤ 256
  · rw [if_pos c, if_neg (by omega), Int.tmod_eq_emod_of_nonneg a1]
    exact ⟨_, _, _, rfl, Int.emod_nonneg _ (by omega), Int.emod_lt_of_pos _ (by omega), c1, d1⟩
  · obtain ⟨x2, i2, g2, e2, a2, b2, c2, d2⟩ := byte_ok l i1 g1 c1 d1 hl
    obtain ⟨x3, i3, g3, e3, a3, b3, c3, d3⟩ := byte_ok l i2 g2 c2 d2 hl
    obtain ⟨x4, i4, g4, e4, a4, b4, c4, d4⟩ := byte_ok l i3 g3 c3 d3 hl
    rw [if_neg c, e2]
    simp only [Option.bind_some]
    rw [e3]
    simp only [Option.bind_some]
    rw [e4]
    simp only [Option.bind_some]
    rw [w64 (n := x1 * 16777216) (by omega) (by omega), w64 (n := x2 * 65536) (by omega) (by omega), w64 (n := x3 * 256) (by omega) (by omega), w64 (n := x1 * 16777216 + x2 * 65536) (by omega) (by omega), w64 (n := x1 * 16777216 + x2 * 65536 + x3 * 256) (by omega) (by omega),
      w64 (n := x1 * 16777216 + x2 * 65536 + x3 * 256 + x4) (by omega) (by omega), if_neg (by omega), Int.tmod_eq_emod_of_nonneg (by omega)]
    exact ⟨_, _, _, rfl, Int.emod_nonneg _ (by omega), Int.emod_lt_of_pos _ (by omega), c4, d4⟩
theorem new_l (l : List Int) (hl : l.length ≤ 4611686018427387904) (d : Nat) : ∀ (h : Int) (i : Nat), i ≤ l.length → l.length - i = d → ∃ h', Ev (fun k => spec_l01New.l0 k l h (i : Int)) (l, 0, h') := by
  induction d with
  | zero => intro h i hi hd; exact ⟨h, Ev.at1 fun k => by simp only [spec_l01New.l0]; rw [if_neg (by omega)]⟩
  | succ d ih =>
    intro h i hi hd
    have hlt : i < l.length := by omega
    by_cases c : (i : Int) < 4000
    · obtain ⟨h', e⟩ := ih (Go.bits .and .i64 (wrap64 ((wrap64 ((wrap64 (h * 131)) + (wrap64 (rd l i)))) + 7)) 1073741823) (i + 1) (by omega) (by omega)
      refine ⟨h', Ev.go (fun k => ?_) e⟩
      simp only [spec_l01New.l0]; rw [if_pos (by omega), if_pos c, if_pos (by omega), wnat i _ hlt (by omega)]
    · exact ⟨h, Ev.at1 fun k => by simp only [spec_l01New.l0]; rw [if_pos (by omega), if_neg c]⟩
theorem new_ok (l : List Int) (hl : l.length ≤ 4611686018427387904) : ∃ h', Ev (fun k => spec_l01New.f k l) (l, 0, h') := by
  obtain ⟨h', e⟩ := new_l l hl l.length (wrap64 (34901 + (l.length : Int))) 0 (by omega) (by omega)
  exact ⟨h', Ev.eq (fun _ => rfl) e⟩

end Go.Proofs.Ytdbhpcekjcohdaa.Q
