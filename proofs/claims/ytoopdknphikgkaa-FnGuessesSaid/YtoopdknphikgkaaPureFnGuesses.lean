import Derived.Test.YtoopdknphikgkaaBump
import Derived.Test.YtoopdknphikgkaaDraw
import Derived.Test.YtoopdknphikgkaaG28
import Derived.Test.YtoopdknphikgkaaG20
namespace Go.Proofs.Ytoopdknphikgkaa.Q
open Go.RowKit Go.Proofs.YtoopdknphikgkaaW.PrintWords Go.Proofs.YtoopdknphikgkaaW.PrintLast Go.Proofs.YtoopdknphikgkaaW.PrintMore
/-! ### keys that are drawn -/
theorem keyP (l : List Int) (i h : Int) (hc : cu l i) : EvP (fun _ => spec_l12Key.f l i h) (fun r => r.1.size ≤ 2 ∧ cu l r.2.1) := by
  simp only [spec_l12Key.f, spec_l01Pick.f]
  obtain ⟨x, i', h', e, a, b, c⟩ := below_ok l i h 8 (by omega) hc
  have hx : ∀ m : Fin 8, (rdOf ByteArray.empty ([(⟨#[47, 97]⟩ : ByteArray), (⟨#[47, 98]⟩ : ByteArray), (⟨#[47, 99]⟩ : ByteArray), (⟨#[47, 100]⟩ : ByteArray), (⟨#[47, 101]⟩ : ByteArray), (⟨#[47, 102]⟩ : ByteArray), (⟨#[47, 103]⟩ : ByteArray), (⟨#[47, 104]⟩ : ByteArray)] : List ByteArray) (m.val : Int)).size ≤ 2 := by decide
  have hm := hx ⟨x.toNat, by omega⟩
  rw [show (((⟨x.toNat, by omega⟩ : Fin 8).val : Nat) : Int) = x from Int.toNat_of_nonneg a] at hm
  refine ⟨_, Ev.const (by
    rw [show ((([(⟨#[47, 97]⟩ : ByteArray), (⟨#[47, 98]⟩ : ByteArray), (⟨#[47, 99]⟩ : ByteArray), (⟨#[47, 100]⟩ : ByteArray), (⟨#[47, 101]⟩ : ByteArray), (⟨#[47, 102]⟩ : ByteArray), (⟨#[47, 103]⟩ : ByteArray), (⟨#[47, 104]⟩ : ByteArray)] : List ByteArray).length : Nat) : Int) = 8 from rfl, e]
    simp only [Option.bind_some]
    rw [if_pos a, if_pos b]
    simp only [Option.bind_some]; rfl), hm, c⟩
theorem keysP_l (l : List Int) (d : Nat) : ∀ (ks : List ByteArray) (i h : Int), ks.length ≤ 42 → 43 - ks.length = d → (∀ b ∈ ks, b.size ≤ 2) → cu l i → EvP (fun k => spec_DrawKeys.l0 k ks (ks.length : Int) l i h) (fun r => r.length ≤ 42 ∧ ∀ b ∈ r, b.size ≤ 2) := by
  induction d with
  | zero => intro ks i h h1 h2; omega
  | succ d ih =>
    intro ks i h h1 h2 h3 hc
    refine EvP.succ ?_
    simp only [spec_DrawKeys.l0]
    refine EvP.bind (belowP l i h 40 (by omega) hc) fun r hr => ?_
    rw [w64 (n := 3 + r.1) (by omega) (by omega)]
    refine EvP.ite (fun c => ?_) (fun c => EvP.ret ⟨h1, h3⟩)
    refine EvP.bind (keyP l r.2.1 r.2.2 hr.2) fun q hq => EvP.yes (by omega) ?_
    rw [w64 (n := (ks.length : Int) + 1) (by omega) (by omega), show (ks.length : Int) + 1 = ((ks ++ [q.1]).length : Int) by simp]
    refine ih _ _ _ (by simp; omega) (by simp; omega) ?_ hq.2
    intro b hb
    rcases List.mem_append.mp hb with hb | hb
    · exact h3 b hb
    · rw [List.mem_singleton.mp hb]; exact hq.1
theorem keysP (l : List Int) (hl : l.length ≤ 4611686018427387904) : EvP (fun k => spec_DrawKeys.f k l) (fun r => r.length ≤ 42 ∧ ∀ b ∈ r, b.size ≤ 2) := by
  simp only [spec_DrawKeys.f]
  refine EvP.bind (newP l hl) fun r hr => ?_
  rw [hr.1]
  exact keysP_l l 43 [] _ _ (by simp) (by simp) (by simp) hr.2
/-! ### how often a key was asked for -/
def cntK (b : ByteArray) (t : List ByteArray) : Nat := t.countP (fun q => decide (q.toList = b.toList))
theorem rdOf_get (l : List ByteArray) (i : Nat) (h : i < l.length) : rdOf ByteArray.empty l i = l[i] := by simp [rdOf, h]
theorem cntK_succ (b : ByteArray) (l : List ByteArray) (i : Nat) (h : i < l.length) : cntK b (l.take (i + 1)) = cntK b (l.take i) + (if l[i].toList = b.toList then 1 else 0) := by
  unfold cntK
  rw [List.take_succ_eq_append_getElem h, List.countP_append]
  by_cases c : l[i].toList = b.toList <;> simp [c]
theorem cntK_le (b : ByteArray) (t : List ByteArray) : cntK b t ≤ t.length := List.countP_le_length
theorem rd_at (r : List Int) (q : Int) (h0 : 0 ≤ q) (h1 : q < (r.length : Int)) : rd r q = r[q.toNat]'(by omega) := by
  have := rd_get r q.toNat (by omega)
  rwa [Int.toNat_of_nonneg h0] at this
theorem bump_self (R : List Int) (hR : rIn R) (p : Int) (p0 : 0 ≤ p) (p1 : p < 16) : rd (bumpRow R p) p = mn (rd R p + 1) 15 := by
  have := hR.1
  rw [rd_at (bumpRow R p) p p0 (by simp [bumpRow]; omega)]
  simp [bumpRow]
theorem bump_ge (R : List Int) (hR : rIn R) (p q : Int) (p0 : 0 ≤ p) (p1 : p < 16) (q0 : 0 ≤ q) (q1 : q < 16) : rd R q ≤ rd (bumpRow R p) q := by
  have := hR.1
  by_cases c : p.toNat = q.toNat
  · obtain rfl : p = q := by omega
    rw [bump_self R hR p p0 p1, mn_if]
    have := hR.2 _ (rd_in (r := R) p0 (by omega))
    split <;> omega
  · rw [rd_at (bumpRow R p) q q0 (by simp [bumpRow]; omega), rd_at R q q0 (by omega)]
    simp only [bumpRow]
    rw [List.getElem_set_ne c]
    exact Int.le_refl _
theorem bumpL_get (pl : Nat → Int) (l : List (List Int)) : ∀ (i r : Nat) (h : r < l.length) (h2 : r < (bumpL pl l i).length), (bumpL pl l i)[r] = bumpRow l[r] (pl (i + r)) := by
  induction l with
  | nil => intro i r h; simp at h
  | cons q t ih =>
    intro i r h h2
    cases r with
    | zero => simp [bumpL]
    | succ r =>
      simp only [bumpL, List.getElem_cons_succ]
      rw [ih (i + 1) r (by simpa using h) (by rw [bumpL_len]; simpa using h), show i + 1 + r = i + (r + 1) by omega]
theorem gs_ge (pl : Nat → Int) (n : Int) (l : List (List Int)) : ∀ (i : Nat) (m : Int), n ≤ m → (∀ (j : Nat) (h : j < l.length), n ≤ rd l[j] (pl (i + j))) → n ≤ gsL pl l i m := by
  induction l with
  | nil => intro i m h _; exact h
  | cons r t ih =>
    intro i m h hj
    refine ih (i + 1) _ ?_ fun j hlt => ?_
    · have := hj 0 (by simp)
      simp only [List.getElem_cons_zero, Nat.add_zero] at this
      rw [mn_if]; split <;> omega
    · have := hj (j + 1) (by simpa using hlt)
      simp only [List.getElem_cons_succ] at this
      rwa [show i + 1 + j = i + (j + 1) by omega]
def Seen (ks : List ByteArray) (i : Nat) (rows : List (List Int)) : Prop := ∀ (b : ByteArray) (hk : b.size ≤ 140737488351232) (r : Nat) (h : r < rows.length), ((min 15 (cntK b (ks.take i)) : Nat) : Int) ≤ rd rows[r] (plOf b hk r)
theorem bytes_same {a b : ByteArray} (h : a.toList = b.toList) : a = b := by
  rw [ByteArray.toList_eq, ByteArray.toList_eq] at h
  cases a; cases b; congr; exact Array.toList_inj.mp h
theorem seen_step (ks : List ByteArray) (i : Nat) (h : i < ks.length) (hk : ks[i].size ≤ 140737488351232) (rows : List (List Int)) (hr : ∀ r ∈ rows, rIn r) (hS : Seen ks i rows) : Seen ks (i + 1) (bumpL (plOf ks[i] hk) rows 0) := by
  intro b hb r hlt
  have hlt' : r < rows.length := by rwa [bumpL_len] at hlt
  have hri := hr _ (List.getElem_mem hlt')
  rw [bumpL_get _ _ 0 r hlt' hlt, Nat.zero_add, cntK_succ b ks i h]
  have hp := plOf_is ks[i] hk r
  have hq := plOf_is b hb r
  have h1 := hS b hb r hlt'
  by_cases c : ks[i].toList = b.toList
  · obtain rfl : ks[i] = b := bytes_same c
    rw [if_pos rfl, bump_self _ hri _ hp.1 hp.2.1, mn_if]
    split <;> omega
  · rw [if_neg c]
    have := bump_ge rows[r] hri _ _ hp.1 hp.2.1 hq.1 hq.2.1
    omega
theorem Ev.of_mono {α : Type} {g : Nat → Option α} {r : α} (hm : ∀ k, LeO (g k) (g (k + 1))) (K : Nat) (h : g K = some r) : Ev g r := by
  refine ⟨K, fun k hk => ?_⟩
  induction k with
  | zero => obtain rfl : K = 0 := by omega
            exact h
  | succ k ih =>
    by_cases c : K = k + 1
    · rw [← c]; exact h
    · exact hm k _ (ih (by omega))
theorem guess_impl (l : List (List Int)) (a : Int) (key : ByteArray) (hk : key.size ≤ 140737488351232) (hl : l.length ≤ 1048576) (c : skOk l a = true) : Ev (fun k => impl_SketchGuess.f k l a key) (gsL (plOf key hk) l 0 15) := by
  simp only [impl_SketchGuess.f]
  have hr := fun r hr => ((skOk_rows c).2.2 r hr).1
  have i := sk_impl l a hl (fun r h => by have := hr r h; omega)
  rw [c] at i
  have h := guess_impl_l l key (plOf key hk) (fun i => ⟨(plOf_is key hk i).1, (plOf_is key hk i).2.1, (plOf_is key hk i).2.2.2⟩) hl hr l.length 0 15 (by omega) (by omega)
  unfold gs at h
  rw [List.drop_zero] at h
  exact Ev.bind i (Ev.yes rfl h)
theorem guesses_in (ks : List ByteArray) (hn : ks.length ≤ 42) (i : Nat) (hi : i < ks.length) (hk : ks[i].size ≤ 140737488351232) (rows : List (List Int)) (hok : skOk rows ((i + 1 : Nat) : Int) = true) (hS : Seen ks (i + 1) rows) (hnext : Ev (fun k => laws_FnGuesses.l0 k ks ((i + 1 : Nat) : Int) rows ((i + 1 : Nat) : Int)) true) (d : Nat) : ∀ j : Nat, j ≤ i + 1 → i + 1 - j = d → Ev (fun k => laws_FnGuesses.l1 k ks (i : Int) ((cntK ks[i] (ks.take j) : Nat) : Int) (j : Int) rows ((i + 1 : Nat) : Int)) true := by
  have hlen : rows.length = 3 := (skOk_rows hok).1
  have hg := guess_impl rows ((i + 1 : Nat) : Int) ks[i] hk (by omega) hok
  induction d with
  | zero =>
    intro j hj hd
    obtain rfl : j = i + 1 := by omega
    have hc : cntK ks[i] (ks.take (i + 1)) ≤ 42 := Nat.le_trans (cntK_le _ _) (by rw [List.length_take]; omega)
    have hge := gs_ge (plOf ks[i] hk) ((min 15 (cntK ks[i] (ks.take (i + 1))) : Nat) : Int) rows 0 15 (by omega) (fun r h => by rw [Nat.zero_add]; exact hS ks[i] hk r h)
    refine Ev.succ ?_
    simp only [laws_FnGuesses.l1]
    rw [rdOf_get ks i hi, wnat i _ hi (by omega)]
    refine Ev.no (by omega) ?_
    by_cases c : ((cntK ks[i] (ks.take (i + 1)) : Nat) : Int) > 15
    · exact Ev.yes c (Ev.yes (by omega) (Ev.yes (by omega) (Ev.bind hg (Ev.no (by omega) hnext))))
    · exact Ev.no c (Ev.yes (by omega) (Ev.yes (by omega) (Ev.bind hg (Ev.no (by omega) hnext))))
  | succ d ih =>
    intro j hj hd
    have hlt : j < ks.length := by omega
    have hc : cntK ks[i] (ks.take j) ≤ 42 := Nat.le_trans (cntK_le _ _) (by rw [List.length_take]; omega)
    have h := ih (j + 1) (by omega) (by omega)
    rw [cntK_succ _ ks j hlt] at h
    refine Ev.succ ?_
    simp only [laws_FnGuesses.l1]
    rw [rdOf_get ks i hi, rdOf_get ks j hlt, wnat j _ hlt (by omega), w64 (n := ((cntK ks[i] (ks.take j) : Nat) : Int) + 1) (by omega) (by omega)]
    refine Ev.yes (by omega) (Ev.yes (by omega) (Ev.yes (by omega) (Ev.yes (by omega) (Ev.yes (by omega) ?_))))
    by_cases c : ks[j].toList = ks[i].toList
    · rw [if_pos c] at h
      exact Ev.yes c h
    · rw [if_neg c] at h
      exact Ev.no c h
theorem skOk_of {l : List (List Int)} {a : Int} (hl : l.length = 3) (ha : 0 ≤ a ∧ a ≤ 63) (hr : ∀ r ∈ l, rIn r) : skOk l a = true := by
  simp only [skOk, Bool.and_eq_true, decide_eq_true_eq, List.all_eq_true, rOk, nOk]
  exact ⟨hl, ha, fun r h => ⟨(hr r h).1, fun n hn => (hr r h).2 n hn⟩⟩
theorem guesses_l (ks : List ByteArray) (hn : ks.length ≤ 42) (hs : ∀ b ∈ ks, b.size ≤ 140737488351232) (d : Nat) : ∀ (i : Nat) (rows : List (List Int)), i ≤ ks.length → ks.length - i = d → skOk rows (i : Int) = true → Seen ks i rows → Ev (fun k => laws_FnGuesses.l0 k ks (i : Int) rows (i : Int)) true := by
  induction d with
  | zero =>
    intro i rows hi hd hok hS
    obtain rfl : i = ks.length := by omega
    refine Ev.succ ?_
    simp only [laws_FnGuesses.l0]
    rw [show decide ((ks.length : Int) < 64) = true from decide_eq_true (by omega)]
    exact Ev.no (by omega) (Ev.yes trivial (Ev.now _))
  | succ d ih =>
    intro i rows hi hd hok hS
    have hlt : i < ks.length := by omega
    have hk := hs _ (List.getElem_mem hlt)
    have hlen : rows.length = 3 := (skOk_rows hok).1
    have hin := skOk_rin hok
    have hb := bump_impl rows (i : Int) ks[i] hk (by omega) (fun r h => by have := (hin r h).1; omega)
    have e : bumped rows (i : Int) ks[i] hk = (bumpL (plOf ks[i] hk) rows 0, ((i + 1 : Nat) : Int)) := by
      unfold bumped fin
      rw [if_pos hok, if_neg (by omega)]; rfl
    rw [e] at hb
    have hin2 := bumpL_in (plOf ks[i] hk) (fun i_ => ⟨(plOf_is ks[i] hk i_).1, (plOf_is ks[i] hk i_).2.1⟩) rows 0 hin
    have hok2 : skOk (bumpL (plOf ks[i] hk) rows 0) ((i + 1 : Nat) : Int) = true := skOk_of (by rw [bumpL_len]; exact hlen) (by omega) hin2
    have hS2 := seen_step ks i hlt hk rows hin hS
    have hsk := sk_impl (bumpL (plOf ks[i] hk) rows 0) ((i + 1 : Nat) : Int) (by rw [bumpL_len]; omega) (fun r h => by have := (hin2 r h).1; omega)
    rw [hok2] at hsk
    refine Ev.succ ?_
    simp only [laws_FnGuesses.l0]
    rw [rdOf_get ks i hlt]
    refine Ev.yes (by omega) (Ev.yes (by omega) (Ev.bind hb (Ev.bind hsk (Ev.yes rfl ?_))))
    have h := guesses_in ks hn i hlt hk _ hok2 hS2 (ih (i + 1) _ (by omega) (by omega) hok2 hS2) (i + 1) 0 (by omega) (by omega)
    rw [List.take_zero] at h
    exact h
theorem new_impl : Ev (fun k => impl_SketchNew.f k) (List.replicate 3 (List.replicate 16 0), 0) := Ev.of_mono impl_SketchNew.mono 60 (by decide +kernel)
theorem new_rin : ∀ r ∈ List.replicate 3 (List.replicate 16 (0 : Int)), rIn r := fun r hr => by
  obtain rfl := (List.mem_replicate.mp hr).2
  exact ⟨by simp, fun n hn => by obtain rfl := (List.mem_replicate.mp hn).2; omega⟩
theorem pureFnGuesses (l0 : List Int) (_ : l0.length ≤ maxLen) (_ : ∀ x ∈ l0, (Lit.int .u8 x).wf = true) : ∃ k, laws_FnGuesses.f k l0 = some true := by
  refine Ev.rounds (g := fun k => laws_FnGuesses.f k l0) ?_
  simp only [laws_FnGuesses.f, laws_big.f, Option.bind_some]
  by_cases c : (l0.length : Int) > 1048576
  · exact Ev.yes (decide_eq_true c) (Ev.now _)
  · refine Ev.no (by simpa using c) ?_
    obtain ⟨ks, ek, hn, hs⟩ := keysP l0 (by omega)
    refine Ev.bind ek (Ev.bind new_impl ?_)
    refine guesses_l ks hn (fun b hb => by have := hs b hb; omega) ks.length 0 _ (by omega) (by omega) (skOk_of (by simp) (by omega) new_rin) ?_
    intro b hk r h
    have hr := new_rin _ (List.getElem_mem h)
    have hp := plOf_is b hk r
    have := (hr.2 _ (rd_in (r := _) hp.1 (by have := hr.1; omega))).1
    simpa [cntK] using this

end Go.Proofs.Ytoopdknphikgkaa.Q
