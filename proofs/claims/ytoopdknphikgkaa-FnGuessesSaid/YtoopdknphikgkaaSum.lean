import Derived.Test.YtoopdknphikgkaaSm
import Derived.Test.YtoopdknphikgkaaG100
import Derived.Test.YtoopdknphikgkaaG101
namespace Go.Proofs.Ytoopdknphikgkaa.Q
open Go.RowKit Go.Proofs.YtoopdknphikgkaaW.PrintWords Go.Proofs.YtoopdknphikgkaaW.PrintLast Go.Proofs.YtoopdknphikgkaaW.PrintMore
/-! sums: what both texts compute, and that they are one -/
theorem xor32_range (a b : Int) : 0 ≤ Go.bits .xor .u32 a b ∧ Go.bits .xor .u32 a b < 4294967296 := by
  unfold Go.bits; simp only [IntKind.wrap_u32]; omega
theorem and255 (a : Int) : Go.bits .and .i64 a 255 % 256 = a % 256 := by
  unfold Go.bits
  simp only [IntKind.wrap_i64]
  have e1 : (BitVec.ofInt IntKind.i64.bits a).toNat = (a % 18446744073709551616).toNat := by rw [BitVec.toNat_ofInt]; rfl
  have e2 : (BitVec.ofInt IntKind.i64.bits 255).toNat = 2 ^ 8 - 1 := by decide
  rw [BitVec.toNat_and, e1, e2, Nat.and_two_pow_sub_one_eq_mod]
  omega
theorem sum_inner (d : Nat) : ∀ (x i j : Int) (s : ByteArray), 0 ≤ x → x < 4294967296 → 0 ≤ j → j ≤ 8 → 8 - j = d →
    ∃ y, 0 ≤ y ∧ y < 4294967296 ∧ (∀ k, spec_SumMore.l1 (k + d + 1) x s i j = spec_SumMore.l0 k y s (wrap64 (i + 1))) ∧ (∀ k, impl_SumMore.l1 (k + d + 1) x s i j = impl_SumMore.l0 k y s (wrap64 (i + 1))) := by
  induction d with
  | zero =>
    intro x i j s h0 h1 h2 h3 h4
    exact ⟨x, h0, h1, fun k => by simp only [spec_SumMore.l1]; rw [if_neg (by omega)], fun k => by simp only [impl_SumMore.l1]; rw [if_neg (by omega)]⟩
  | succ d ih =>
    intro x i j s h0 h1 h2 h3 h4
    have ht : 0 ≤ (Int.tdiv x 2) % 4294967296 ∧ (Int.tdiv x 2) % 4294967296 < 4294967296 := by omega
    have hx := xor32_range ((Int.tdiv x 2) % 4294967296) 3558460437
    have hw : wrap64 (j + 1) = j + 1 := w64 (by omega) (by omega)
    by_cases c : Int.tmod x 2 = 1
    · obtain ⟨y, a, b, hs, hi⟩ := ih _ i (j + 1) s hx.1 hx.2 (by omega) (by omega) (by omega)
      refine ⟨y, a, b, fun k => ?_, fun k => ?_⟩
      · rw [← hs k, show k + (d + 1) + 1 = (k + d + 1) + 1 by omega]; simp only [spec_SumMore.l1]; rw [if_pos (by omega), if_pos c, hw]
      · rw [← hi k, show k + (d + 1) + 1 = (k + d + 1) + 1 by omega]; simp only [impl_SumMore.l1]; rw [if_pos (by omega), if_pos c, hw]
    · obtain ⟨y, a, b, hs, hi⟩ := ih _ i (j + 1) s ht.1 ht.2 (by omega) (by omega) (by omega)
      refine ⟨y, a, b, fun k => ?_, fun k => ?_⟩
      · rw [← hs k, show k + (d + 1) + 1 = (k + d + 1) + 1 by omega]; simp only [spec_SumMore.l1]; rw [if_pos (by omega), if_neg c, hw]
      · rw [← hi k, show k + (d + 1) + 1 = (k + d + 1) + 1 by omega]; simp only [impl_SumMore.l1]; rw [if_pos (by omega), if_neg c, hw]
theorem sum_outer (s : ByteArray) (hs : s.size ≤ 9223372036854775807) (d : Nat) : ∀ (x i : Int), 0 ≤ x → x < 4294967296 → 0 ≤ i → i ≤ s.size → (s.size : Int) - i = d →
    ∃ r, 0 ≤ r ∧ r < 4294967296 ∧ Ev (fun k => spec_SumMore.l0 k x s i) r ∧ Ev (fun k => impl_SumMore.l0 k x s i) r := by
  induction d with
  | zero =>
    intro x i h0 h1 h2 h3 h4
    refine ⟨x, h0, h1, ⟨1, fun k hk => ?_⟩, ⟨1, fun k hk => ?_⟩⟩
    · obtain ⟨k, rfl⟩ : ∃ m, k = m + 1 := ⟨k - 1, by omega⟩
      simp only [spec_SumMore.l0]; rw [if_neg (by omega)]
    · obtain ⟨k, rfl⟩ : ∃ m, k = m + 1 := ⟨k - 1, by omega⟩
      simp only [impl_SumMore.l0]; rw [if_neg (by omega)]
  | succ d ih =>
    intro x i h0 h1 h2 h3 h4
    have hx := xor32_range x ((bt s i) % 4294967296)
    obtain ⟨y, y0, y1, hi1, hi2⟩ := sum_inner 8 _ i 0 s hx.1 hx.2 (by omega) (by omega) (by omega)
    obtain ⟨r, r0, r1, ⟨K1, e1⟩, ⟨K2, e2⟩⟩ := ih y (i + 1) y0 y1 (by omega) (by omega) (by omega)
    have hw : wrap64 (i + 1) = i + 1 := w64 (by omega) (by omega)
    rw [hw] at hi1 hi2
    refine ⟨r, r0, r1, ⟨K1 + 10, fun k hk => ?_⟩, ⟨K2 + 10, fun k hk => ?_⟩⟩
    · obtain ⟨k, rfl⟩ : ∃ m, k = (m + 8 + 1) + 1 := ⟨k - 10, by omega⟩
      show spec_SumMore.l0 ((k + 8 + 1) + 1) x s i = some r
      simp only [spec_SumMore.l0]; rw [if_pos (by omega), if_pos h2, hi1]; exact e1 k (by omega)
    · obtain ⟨k, rfl⟩ : ∃ m, k = (m + 8 + 1) + 1 := ⟨k - 10, by omega⟩
      show impl_SumMore.l0 ((k + 8 + 1) + 1) x s i = some r
      simp only [impl_SumMore.l0]; rw [if_pos (by omega), if_pos h2, hi2]; exact e2 k (by omega)
/-- The sum of a text: one number, by both texts. -/
theorem sum_of (s : ByteArray) (hs : s.size ≤ 9223372036854775807) : ∃ r, 0 ≤ r ∧ r < 4294967296 ∧ Ev (fun k => spec_SumOf.f k s) r ∧ Ev (fun k => impl_SumOf.f k s) r := by
  obtain ⟨r, r0, r1, ⟨K1, e1⟩, ⟨K2, e2⟩⟩ := sum_outer s hs s.size 4294967295 0 (by omega) (by omega) (by omega) (by omega) (by omega)
  dsimp only at e1 e2
  exact ⟨r, r0, r1, ⟨K1, fun k hk => by simp only [spec_SumOf.f, spec_SumMore.f]; rw [e1 k hk]; rfl⟩, ⟨K2, fun k hk => by simp only [impl_SumOf.f, impl_SumMore.f]; rw [e2 k hk]; rfl⟩⟩
/-- The place of a key: the same by both, 0 to 15. -/
theorem place_of (row : Int) (key : ByteArray) (hk : key.size ≤ 140737488351232) : ∃ p, 0 ≤ p ∧ p < 16 ∧ Ev (fun k => spec_SketchPlace.f k row key) p ∧ Ev (fun k => impl_SketchPlace.f k row key) p := by
  have hz : (strOfNums [row % 256]).size = 1 := by simp [strOfNums]; rfl
  have hl : (key ++ strOfNums [row % 256]).size = key.size + 1 := by rw [ByteArray.size_append, hz]
  obtain ⟨r, r0, r1, ⟨K1, e1⟩, ⟨K2, e2⟩⟩ := sum_of (key ++ strOfNums [row % 256]) (by omega)
  dsimp only at e1 e2
  have hm : Int.tmod r 16 = r % 16 := Int.tmod_eq_emod_of_nonneg r0
  refine ⟨r % 16, by omega, by omega, ⟨K1, fun k hk => ?_⟩, ⟨K2, fun k hk => ?_⟩⟩
  · simp only [spec_SketchPlace.f, Option.bind_some]
    rw [if_pos (by omega), e1 k hk]; simp only [Option.bind_some]; rw [hm, w64 (by omega) (by omega)]
  · simp only [impl_SketchPlace.f, Option.bind_some, and255]
    rw [if_pos (by omega), e2 k hk]; simp only [Option.bind_some]; rw [w64 (by omega) (by omega), hm]

end Go.Proofs.Ytoopdknphikgkaa.Q
