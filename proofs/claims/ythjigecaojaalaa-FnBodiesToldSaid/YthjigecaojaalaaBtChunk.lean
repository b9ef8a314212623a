import Derived.Test.YthjigecaojaalaaBtWithin
import Derived.Test.YthjigecaojaalaaBtStrs
import Derived.Test.YthjigecaojaalaaBtG34
import Derived.Test.YthjigecaojaalaaBtG36
namespace Go.Proofs.Ythjigecaojaalaa.Q
open Go.RowKit Go.Proofs.YthjigecaojaalaaW.PrintWords Go.Proofs.YthjigecaojaalaaW.PrintLast Go.Proofs.YthjigecaojaalaaW.PrintMore
def figs : ByteArray := ⟨#[48, 49, 50, 51, 52, 53, 54, 55, 56, 57, 97, 98, 99, 100, 101, 102]⟩
def fig (n : Nat) : ByteArray := figs.extract n (n + 1)
def nl : ByteArray := ⟨#[13, 10]⟩
/-- A length's figures. -/
def hx (n : Nat) : ByteArray := if n < 16 then fig n else fig (n / 16) ++ fig (n % 16)
theorem fig_size (n : Nat) (h : n < 16) : (fig n).size = 1 := by unfold fig; rw [ext_size _ _ _ (by show n + 1 ≤ 16; omega)]; omega
theorem hx_size (n : Nat) (h : n ≤ 99) : (hx n).size ≤ 2 := by
  unfold hx
  split
  · rw [fig_size n (by assumption)]; omega
  · rw [ByteArray.size_append, fig_size _ (by omega), fig_size _ (by omega)]; omega
theorem figures_spec (n : Nat) (h : n ≤ 99) : spec_l11Figures.f (n : Int) = some (hx n) := by
  have e1 : Int.tdiv (n : Int) 16 = ((n / 16 : Nat) : Int) := by rw [Int.tdiv_eq_ediv_of_nonneg (by omega)]; omega
  have e2 : Int.tmod (n : Int) 16 = ((n % 16 : Nat) : Int) := by rw [Int.tmod_eq_emod_of_nonneg (by omega)]; omega
  simp only [spec_l11Figures.f, e1, e2]
  rw [w64 (n := ((n / 16 : Nat) : Int)) (by omega) (by omega), wnat n 100 (by omega) (by omega), wnat (n / 16) 16 (by omega) (by omega), wnat (n % 16) 16 (by omega) (by omega)]
  simp only [Int.toNat_natCast]
  by_cases c : n < 16
  · rw [if_pos (by omega), if_pos (by omega), if_pos (by omega), if_pos (by omega), hx, if_pos c]; rfl
  · rw [if_neg (by omega), if_pos (by omega), if_pos (by omega), if_pos (by omega), if_pos (by omega), if_pos (by omega), if_pos (by omega), hx, if_neg c]
    have := fig_size (n / 16) (by omega)
    have := fig_size (n % 16) (by omega)
    show (if (fig (n / 16)).size + (fig (n % 16)).size ≤ 9223372036854775807 then some (fig (n / 16) ++ fig (n % 16)) else none) = _
    rw [if_pos (by omega)]
theorem figures_impl (n : Nat) (h : n ≤ 99) : impl_hexLength.f (n : Int) = some (hx n) := by
  have e1 : Int.tdiv (n : Int) 16 = ((n / 16 : Nat) : Int) := by rw [Int.tdiv_eq_ediv_of_nonneg (by omega)]; omega
  have e2 : Int.tmod (n : Int) 16 = ((n % 16 : Nat) : Int) := by rw [Int.tmod_eq_emod_of_nonneg (by omega)]; omega
  simp only [impl_hexLength.f, e1, e2]
  rw [w64 (n := ((n / 16 : Nat) : Int)) (by omega) (by omega), wnat (n / 16) 16 (by omega) (by omega), wnat (n % 16) 16 (by omega) (by omega)]
  simp only [Int.toNat_natCast]
  rw [if_pos (by omega), if_pos (by omega), if_pos (by omega)]
  by_cases c : n < 16
  · rw [if_neg (by omega), hx, if_pos c, show n % 16 = n by omega]; rfl
  · rw [if_pos (by omega), if_pos (by omega), if_pos (by omega), if_pos (by omega), hx, if_neg c]
    have := fig_size (n / 16) (by omega)
    have := fig_size (n % 16) (by omega)
    show (if (fig (n / 16)).size + (fig (n % 16)).size ≤ 9223372036854775807 then some (fig (n / 16) ++ fig (n % 16)) else none) = _
    rw [if_pos (by omega)]
/-- One part's text. -/
def chunk1 (p : ByteArray) : ByteArray := ((hx p.size ++ nl) ++ p) ++ nl
def chunkF : List ByteArray → ByteArray → ByteArray × Bool
  | [], acc => (acc ++ (⟨#[48, 13, 10, 13, 10]⟩ : ByteArray), true)
  | p :: r, acc => if 1 ≤ p.size ∧ p.size ≤ 99 then chunkF r (acc ++ chunk1 p) else ((⟨#[]⟩ : ByteArray), false)
def chunkT (l : List ByteArray) : ByteArray × Bool := if l.length ≤ 10 then chunkF l ⟨#[]⟩ else ((⟨#[]⟩ : ByteArray), false)
theorem apd_assoc (a b c : ByteArray) : (a ++ b) ++ c = a ++ (b ++ c) := ByteArray.append_assoc
theorem nl_size : nl.size = 2 := rfl
theorem chunk1_size (p : ByteArray) (h : p.size ≤ 99) : (chunk1 p).size ≤ 105 := by
  have := hx_size p.size h
  simp only [chunk1, ByteArray.size_append, nl_size]; omega
theorem chunk_spec_l (l : List ByteArray) (d : Nat) : ∀ (i : Nat) (acc : ByteArray), i ≤ 10 → i ≤ l.length → l.length - i = d → acc.size ≤ 105 * i → Ev (fun k => spec_ChunkText.l0 k l acc (i : Int)) (if l.length ≤ 10 then chunkF (l.drop i) acc else ((⟨#[]⟩ : ByteArray), false)) := by
  induction d with
  | zero =>
    intro i acc h10 hi hd ha
    refine Ev.succ ?_
    simp only [spec_ChunkText.l0]
    rw [List.drop_eq_nil_of_le (by omega), if_pos (by omega), chunkF]
    rw [if_pos (by omega)]
    exact Ev.no (by omega) (Ev.now _)
  | succ d ih =>
    intro i acc h10 hi hd ha
    have hlt : i < l.length := by omega
    refine Ev.succ ?_
    simp only [spec_ChunkText.l0]
    rw [rdS_get l i hlt, wnat i 11 (by omega) (by omega), drop_get l i hlt, chunkF]
    simp only [in_spec, Option.bind_some]
    refine Ev.yes (by omega) (Ev.yes (by omega) ?_)
    by_cases c : 1 ≤ l[i].size ∧ l[i].size ≤ 99
    · refine Ev.yes (decide_eq_true ⟨by omega, by omega⟩) ?_
      by_cases c10 : i = 10
      · rw [if_neg (by omega)]; exact Ev.yes (by omega) (Ev.now _)
      · rw [if_pos c, figures_spec _ c.2]
        simp only [Option.bind_some]
        have h2 := hx_size l[i].size c.2
        have h3 := chunk1_size l[i] c.2
        have e : (acc ++ hx l[i].size ++ (⟨#[13, 10]⟩ : ByteArray) ++ l[i] ++ (⟨#[13, 10]⟩ : ByteArray)) = acc ++ chunk1 l[i] := by
          show (((acc ++ hx l[i].size) ++ nl) ++ l[i]) ++ nl = _
          simp only [chunk1, apd_assoc]
        have z1 : (acc ++ hx l[i].size).size = acc.size + (hx l[i].size).size := ByteArray.size_append
        have z2 : (acc ++ hx l[i].size ++ (⟨#[13, 10]⟩ : ByteArray)).size = acc.size + (hx l[i].size).size + 2 := by rw [ByteArray.size_append, z1]; rfl
        have z3 : (acc ++ hx l[i].size ++ (⟨#[13, 10]⟩ : ByteArray) ++ l[i]).size = acc.size + (hx l[i].size).size + 2 + l[i].size := by rw [ByteArray.size_append, z2]
        rw [e]
        refine Ev.no (by omega) (Ev.yes (by omega) (Ev.yes (by omega) (Ev.yes (by omega) (Ev.yes (by omega) ?_))))
        exact ih (i + 1) _ (by omega) (by omega) (by omega) (by rw [ByteArray.size_append]; omega)
    · rw [if_neg c, show (if l.length ≤ 10 then ((⟨#[]⟩ : ByteArray), false) else ((⟨#[]⟩ : ByteArray), false)) = ((⟨#[]⟩ : ByteArray), false) from by split <;> rfl]
      exact Ev.no (by simp; omega) (Ev.now _)
theorem chunk_spec (l : List ByteArray) : Ev (fun k => spec_ChunkText.f k l) (chunkT l) := by
  have := chunk_spec_l l l.length 0 ⟨#[]⟩ (by omega) (by omega) (by omega) (by simp; rfl)
  rw [List.drop_zero] at this
  exact this
theorem chunk_impl_l (l : List ByteArray) (h10 : l.length ≤ 10) (d : Nat) : ∀ (i : Nat) (acc : ByteArray), i ≤ l.length → l.length - i = d → acc.size ≤ 105 * i → Ev (fun k => impl_ChunkText.l0 k acc l (l.length : Int) (i : Int)) (chunkF (l.drop i) acc) := by
  induction d with
  | zero =>
    intro i acc hi hd ha
    refine Ev.succ ?_
    simp only [impl_ChunkText.l0]
    rw [List.drop_eq_nil_of_le (by omega), chunkF]
    have z1 : (acc ++ (⟨#[48]⟩ : ByteArray)).size = acc.size + 1 := by rw [ByteArray.size_append]; rfl
    have z2 : (acc ++ (⟨#[48]⟩ : ByteArray) ++ (⟨#[13, 10]⟩ : ByteArray)).size = acc.size + 1 + 2 := by rw [ByteArray.size_append, z1]; rfl
    have e : acc ++ (⟨#[48]⟩ : ByteArray) ++ (⟨#[13, 10]⟩ : ByteArray) ++ (⟨#[13, 10]⟩ : ByteArray) = acc ++ (⟨#[48, 13, 10, 13, 10]⟩ : ByteArray) := by rw [apd_assoc, apd_assoc]; rfl
    rw [e]
    exact Ev.no (by omega) (Ev.yes (by omega) (Ev.yes (by omega) (Ev.yes (by omega) (Ev.now _))))
  | succ d ih =>
    intro i acc hi hd ha
    have hlt : i < l.length := by omega
    refine Ev.succ ?_
    simp only [impl_ChunkText.l0]
    rw [rdS_get l i hlt, wnat i 11 (by omega) (by omega), drop_get l i hlt, chunkF]
    simp only [in_impl, Option.bind_some]
    refine Ev.yes (by omega) (Ev.yes (by omega) (Ev.yes (by omega) ?_))
    by_cases c : 1 ≤ l[i].size ∧ l[i].size ≤ 99
    · rw [if_pos c, figures_impl _ c.2]
      simp only [Option.bind_some]
      have h2 := hx_size l[i].size c.2
      have h3 := chunk1_size l[i] c.2
      have z2 : (hx l[i].size ++ (⟨#[13, 10]⟩ : ByteArray)).size = (hx l[i].size).size + 2 := by rw [ByteArray.size_append]; rfl
      have z3 : (hx l[i].size ++ (⟨#[13, 10]⟩ : ByteArray) ++ l[i]).size = (hx l[i].size).size + 2 + l[i].size := by rw [ByteArray.size_append, z2]
      rw [show hx l[i].size ++ (⟨#[13, 10]⟩ : ByteArray) ++ l[i] ++ (⟨#[13, 10]⟩ : ByteArray) = chunk1 l[i] from rfl]
      refine Ev.yes (decide_eq_true ⟨by omega, by omega⟩) (Ev.yes (by omega) (Ev.yes (by omega) (Ev.yes (by omega) (Ev.yes (by omega) ?_))))
      exact ih (i + 1) _ (by omega) (by omega) (by rw [ByteArray.size_append]; omega)
    · rw [if_neg c]
      exact Ev.no (by simp; omega) (Ev.now _)
theorem chunk_impl (l : List ByteArray) : Ev (fun k => impl_ChunkText.f k l) (chunkT l) := by
  simp only [impl_ChunkText.f, chunkT]
  by_cases c : l.length ≤ 10
  · rw [if_pos c]
    have := chunk_impl_l l c l.length 0 ⟨#[]⟩ (by omega) (by omega) (by simp; rfl)
    rw [List.drop_zero] at this
    exact Ev.no (by omega) this
  · rw [if_neg c]; exact Ev.yes (by omega) (Ev.now _)
end Go.Proofs.Ythjigecaojaalaa.Q
