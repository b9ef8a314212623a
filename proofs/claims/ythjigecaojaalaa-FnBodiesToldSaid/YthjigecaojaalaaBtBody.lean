import Derived.Test.YthjigecaojaalaaBtReads
import Derived.Test.YthjigecaojaalaaBtFieldOf
import Derived.Test.YthjigecaojaalaaBtBytesIn
import Derived.Test.YthjigecaojaalaaBtG63
import Derived.Test.YthjigecaojaalaaBtG46
namespace Go.Proofs.Ythjigecaojaalaa.Q
open Go.RowKit Go.Proofs.YthjigecaojaalaaW.PrintWords Go.Proofs.YthjigecaojaalaaW.PrintLast Go.Proofs.YthjigecaojaalaaW.PrintMore
def numL : Int → List UInt8 → Int
  | acc, [] => acc
  | acc, b :: r => numL (10 * acc + ((b.toNat : Int) - 48)) r
theorem inB_cons (lo hi : Int) (b : UInt8) (r : List UInt8) : inB lo hi (b :: r) = (decide (lo ≤ (b.toNat : Int) ∧ (b.toNat : Int) ≤ hi) && inB lo hi r) := by simp [inB]
theorem numL_nonneg (l : List UInt8) : ∀ acc : Int, 0 ≤ acc → inB 48 57 l = true → 0 ≤ numL acc l := by
  induction l with
  | nil => intro acc h _; exact h
  | cons b r ih =>
    intro acc h hb
    rw [inB_cons, Bool.and_eq_true, decide_eq_true_eq] at hb
    exact ih _ (by omega) hb.2
theorem pow_le6 (i : Nat) (h : i ≤ 6) : 10 ^ i ≤ 1000000 := Nat.pow_le_pow_right (by omega) h
theorem number_spec_l (s : ByteArray) (hs : s.size ≤ 6) (d : Nat) : ∀ (i : Nat) (acc : Int), i ≤ s.size → s.size - i = d → 0 ≤ acc → acc < ((10 ^ i : Nat) : Int) → Ev (fun k => spec_l10Number.l0 k s acc (i : Int)) (if inB 48 57 (s.data.toList.drop i) = true then (numL acc (s.data.toList.drop i), true) else (0, false)) := by
  induction d with
  | zero =>
    intro i acc hi hd h0 h1
    refine Ev.succ ?_
    simp only [spec_l10Number.l0]
    rw [List.drop_eq_nil_of_le (by rw [sizeL]; omega)]
    exact Ev.no (by omega) (Ev.now _)
  | succ d ih =>
    intro i acc hi hd h0 h1
    have hlt : i < s.size := by omega
    have hp := pow_le6 i (by omega)
    have hl : i < s.data.toList.length := by rw [sizeL]; exact hlt
    refine Ev.succ ?_
    simp only [spec_l10Number.l0]
    rw [bt_get s i hlt, wnat i _ hlt (by omega), drop_get _ i hl, inB_cons, numL]
    have hb := (s.data.toList[i]'hl).toNat_lt
    generalize s.data.toList[i]'hl = b at hb ⊢
    refine Ev.yes (by omega) (Ev.yes (by omega) ?_)
    by_cases c1 : ((b.toNat : Nat) : Int) < 48
    · rw [decide_eq_false (by omega), Bool.false_and]
      exact Ev.yes c1 (Ev.now _)
    · refine Ev.no c1 ?_
      by_cases c2 : ((b.toNat : Nat) : Int) > 57
      · rw [decide_eq_false (by omega), Bool.false_and]
        exact Ev.yes c2 (Ev.now _)
      · rw [decide_eq_true (by omega), Bool.true_and]
        refine Ev.no c2 ?_
        rw [w64 (n := (10 : Int) * acc) (by omega) (by omega), w64 (n := ((b.toNat : Nat) : Int)) (by omega) (by omega), w64 (n := (10 : Int) * acc + ((b.toNat : Nat) : Int)) (by omega) (by omega), w64 (n := (10 : Int) * acc + ((b.toNat : Nat) : Int) - 48) (by omega) (by omega), show (10 : Int) * acc + ((b.toNat : Nat) : Int) - 48 = 10 * acc + (((b.toNat : Nat) : Int) - 48) by omega]
        exact ih (i + 1) _ (by omega) (by omega) (by omega) (by rw [Nat.pow_succ]; omega)
theorem number_spec (s : ByteArray) : Ev (fun k => spec_l10Number.f k s) (if 1 ≤ s.size ∧ s.size ≤ 6 ∧ inB 48 57 s.data.toList = true then (numL 0 s.data.toList, true) else (0, false)) := by
  simp only [spec_l10Number.f, in_spec, Option.bind_some]
  by_cases c : 1 ≤ s.size ∧ s.size ≤ 6
  · refine Ev.yes (decide_eq_true (by omega)) ?_
    have h := number_spec_l s c.2 s.size 0 0 (by omega) (by omega) (by omega) (by decide)
    rw [List.drop_zero] at h
    by_cases c2 : inB 48 57 s.data.toList = true
    · rw [if_pos c2] at h; rw [if_pos ⟨c.1, c.2, c2⟩]; exact h
    · rw [if_neg c2] at h; rw [if_neg (fun q => c2 q.2.2)]; exact h
  · rw [if_neg (fun q => c ⟨q.1, q.2.1⟩)]
    exact Ev.no (by simp; omega) (Ev.now _)
theorem figures_l (s : ByteArray) (hs : s.size ≤ 3) (d : Nat) : ∀ (i : Nat) (acc : Int), i ≤ s.size → s.size - i = d → inB 48 57 (s.data.toList.drop i) = true → 0 ≤ acc → acc < ((10 ^ i : Nat) : Int) → Ev (fun k => impl_figuresOf.l0 k s acc (s.size : Int) (i : Int)) (numL acc (s.data.toList.drop i), true) := by
  induction d with
  | zero =>
    intro i acc hi hd hb h0 h1
    refine Ev.succ ?_
    simp only [impl_figuresOf.l0]
    rw [List.drop_eq_nil_of_le (by rw [sizeL]; omega)]
    exact Ev.no (by omega) (Ev.now _)
  | succ d ih =>
    intro i acc hi hd hb h0 h1
    have hlt : i < s.size := by omega
    have hp := pow_le6 i (by omega)
    have hl : i < s.data.toList.length := by rw [sizeL]; exact hlt
    refine Ev.succ ?_
    simp only [impl_figuresOf.l0]
    rw [bt_get s i hlt, wnat i _ hlt (by omega), drop_get _ i hl, numL]
    rw [drop_get _ i hl, inB_cons, Bool.and_eq_true, decide_eq_true_eq] at hb
    generalize s.data.toList[i]'hl = b at hb ⊢
    rw [show (((b.toNat : Nat) : Int) - 48) % 256 = ((b.toNat : Nat) : Int) - 48 by omega, w64 (n := (10 : Int) * acc) (by omega) (by omega), w64 (n := (10 : Int) * acc + (((b.toNat : Nat) : Int) - 48)) (by omega) (by omega)]
    refine Ev.yes (by omega) (Ev.yes (by omega) (Ev.yes (by omega) ?_))
    exact ih (i + 1) _ (by omega) (by omega) hb.2 (by omega) (by rw [Nat.pow_succ]; omega)
theorem figures_ev (s : ByteArray) (hs : s.size ≤ 9223372036854775807) : Ev (fun k => impl_figuresOf.f k s 3) (if 1 ≤ s.size ∧ s.size ≤ 3 ∧ inB 48 57 s.data.toList = true then (numL 0 s.data.toList, true) else (0, false)) := by
  simp only [impl_figuresOf.f, in_impl, Option.bind_some]
  by_cases c : 1 ≤ s.size ∧ s.size ≤ 3
  · refine Ev.yes (decide_eq_true (by omega)) (Ev.bind (bytesIn_ev s 48 57 hs) (Ev.succ ?_))
    simp only [impl_figuresOf.j0]
    by_cases c2 : inB 48 57 s.data.toList = true
    · rw [if_pos ⟨c.1, c.2, c2⟩, c2]
      have h := figures_l s c.2 s.size 0 0 (by omega) (by omega) (by rw [List.drop_zero]; exact c2) (by omega) (by decide)
      rw [List.drop_zero] at h
      exact Ev.no (by decide) h
    · rw [if_neg (fun q => c2 q.2.2)]
      exact Ev.yes (by simpa using c2) (Ev.now _)
  · rw [if_neg (fun q => c ⟨q.1, q.2.1⟩)]
    refine Ev.no (by simp; omega) (Ev.succ ?_)
    simp only [impl_figuresOf.j0]
    exact Ev.yes trivial (Ev.now _)
def nameL : ByteArray := ⟨#[99, 111, 110, 116, 101, 110, 116, 45, 108, 101, 110, 103, 116, 104]⟩
def nameC : ByteArray := ⟨#[116, 114, 97, 110, 115, 102, 101, 114, 45, 101, 110, 99, 111, 100, 105, 110, 103]⟩
theorem nameL_list : nameL.toList = ([99, 111, 110, 116, 101, 110, 116, 45, 108, 101, 110, 103, 116, 104] : List UInt8) := by rw [toL]; rfl
def isL (f : S45) : Prop := f.f0.toList = ([99, 111, 110, 116, 101, 110, 116, 45, 108, 101, 110, 103, 116, 104] : List UInt8)
instance (f : S45) : Decidable (isL f) := by unfold isL; exact inferInstance
def okN (s : ByteArray) : Prop := 1 ≤ s.size ∧ s.size ≤ 3 ∧ inB 48 57 s.data.toList = true
instance (s : ByteArray) : Decidable (okN s) := by unfold okN; exact inferInstance
def nm (s : ByteArray) : Int := numL 0 s.data.toList
theorem nm_nonneg {s : ByteArray} (h : okN s) : 0 ≤ nm s := numL_nonneg _ 0 (by omega) h.2.2
def lenS : Int → Nat → List S45 → Int × Int × Bool
  | n, m, [] => (n, (m : Int), true)
  | n, m, f :: r => if isL f then (if okN f.f1 then (if 0 < m then (if nm f.f1 = n then lenS (nm f.f1) (m + 1) r else (0, ((m + 1 : Nat) : Int), false)) else lenS (nm f.f1) (m + 1) r) else (0, ((m + 1 : Nat) : Int), false)) else lenS n m r
def lenP : Int → List S45 → Int × Bool
  | x, [] => (x, decide (0 ≤ x ∧ x ≤ 400))
  | x, f :: r => if isL f then (if okN f.f1 then (if 0 ≤ x then (if nm f.f1 = x then lenP (nm f.f1) r else (0, false)) else lenP (nm f.f1) r) else (0, false)) else lenP x r
theorem length_spec_l (a : ByteArray) (l : List S45) (hl : l.length ≤ 4611686018427387904) (d : Nat) : ∀ (i m : Nat) (n : Int), i ≤ l.length → l.length - i = d → m ≤ i → Ev (fun k => spec_l11Length.l0 k n (m : Int) (i : Int) a l) (lenS n m (l.drop i)) := by
  induction d with
  | zero =>
    intro i m n hi hd hm
    refine Ev.succ ?_
    simp only [spec_l11Length.l0]
    rw [List.drop_eq_nil_of_le (by omega), lenS]
    exact Ev.no (by omega) (Ev.now _)
  | succ d ih =>
    intro i m n hi hd hm
    have hlt : i < l.length := by omega
    refine Ev.succ ?_
    simp only [spec_l11Length.l0]
    rw [rdF_get l i hlt, wnat i _ hlt (by omega), drop_get l i hlt, lenS, w64 (n := (m : Int) + 1) (by omega) (by omega), show (m : Int) + 1 = ((m + 1 : Nat) : Int) by omega]
    refine Ev.yes (by omega) (Ev.yes (by omega) ?_)
    by_cases c : isL l[i]
    · rw [if_pos c]
      have h := number_spec l[i].f1
      refine Ev.yes c (Ev.bind h ?_)
      by_cases c2 : 1 ≤ l[i].f1.size ∧ l[i].f1.size ≤ 6 ∧ inB 48 57 l[i].f1.data.toList = true
      · rw [if_pos c2]
        refine Ev.yes rfl ?_
        by_cases c3 : l[i].f1.size ≤ 3
        · rw [if_pos (show okN l[i].f1 from ⟨c2.1, c3, c2.2.2⟩)]
          refine Ev.no (by omega) ?_
          by_cases c4 : 0 < m
          · rw [if_pos c4]
            refine Ev.yes (by omega) ?_
            by_cases c5 : nm l[i].f1 = n
            · rw [if_pos c5]; exact Ev.yes c5 (ih (i + 1) (m + 1) _ (by omega) (by omega) (by omega))
            · rw [if_neg c5]; exact Ev.no c5 (Ev.now _)
          · rw [if_neg c4]; exact Ev.no (by omega) (ih (i + 1) (m + 1) _ (by omega) (by omega) (by omega))
        · rw [if_neg (fun q : okN l[i].f1 => c3 q.2.1)]
          exact Ev.yes (by omega) (Ev.now _)
      · rw [if_neg c2, if_neg (fun q : okN l[i].f1 => c2 ⟨q.1, by have := q.2.1; omega, q.2.2⟩)]
        exact Ev.no (by simp) (Ev.now _)
    · rw [if_neg c]; exact Ev.no c (ih (i + 1) m n (by omega) (by omega) (by omega))
theorem length_impl_l (l : List S45) (hg : ∀ f ∈ l, f.f1.size ≤ 9223372036854775807) (hl : l.length ≤ 4611686018427387904) (d : Nat) : ∀ (i : Nat) (x : Int), i ≤ l.length → l.length - i = d → Ev (fun k => impl_lengthOf.l0 k x l (l.length : Int) (i : Int)) (lenP x (l.drop i)) := by
  induction d with
  | zero =>
    intro i x hi hd
    refine Ev.succ ?_
    simp only [impl_lengthOf.l0, in_impl, Option.bind_some]
    rw [List.drop_eq_nil_of_le (by omega), lenP]
    exact Ev.no (by omega) (Ev.now _)
  | succ d ih =>
    intro i x hi hd
    have hlt : i < l.length := by omega
    refine Ev.succ ?_
    simp only [impl_lengthOf.l0]
    rw [rdF_get l i hlt, wnat i _ hlt (by omega), drop_get l i hlt, lenP]
    refine Ev.yes (by omega) (Ev.yes (by omega) (Ev.yes (by omega) ?_))
    by_cases c : isL l[i]
    · rw [if_pos c]
      have h := figures_ev l[i].f1 (hg _ (List.getElem_mem hlt))
      refine Ev.yes c (Ev.bind h ?_)
      by_cases c2 : okN l[i].f1
      · rw [if_pos c2, if_pos (show 1 ≤ l[i].f1.size ∧ l[i].f1.size ≤ 3 ∧ inB 48 57 l[i].f1.data.toList = true from c2)]
        refine Ev.yes rfl ?_
        by_cases c4 : 0 ≤ x
        · rw [if_pos c4]
          refine Ev.yes c4 ?_
          by_cases c5 : nm l[i].f1 = x
          · rw [if_pos c5]; exact Ev.yes c5 (ih (i + 1) _ (by omega) (by omega))
          · rw [if_neg c5]; exact Ev.no c5 (Ev.now _)
        · rw [if_neg c4]; exact Ev.no c4 (ih (i + 1) _ (by omega) (by omega))
      · rw [if_neg c2, if_neg (show ¬ (1 ≤ l[i].f1.size ∧ l[i].f1.size ≤ 3 ∧ inB 48 57 l[i].f1.data.toList = true) from c2)]
        exact Ev.no (by simp) (Ev.now _)
    · rw [if_neg c]; exact Ev.no c (ih (i + 1) x (by omega) (by omega))
theorem lens (l : List S45) : ∀ (n x : Int) (m : Nat), (m = 0 ∧ x = -1) ∨ (0 < m ∧ x = n ∧ 0 ≤ n) →
    (0 < (lenS n m l).2.1 ↔ (0 < m ∨ (fieldF nameL l).2 = true)) ∧ 0 ≤ (lenS n m l).2.1 ∧ (0 < (lenS n m l).2.1 → ((lenS n m l).2.2 = true ∧ (lenS n m l).1 ≤ 400 → (lenP x l).2 = true ∧ (lenP x l).1 = (lenS n m l).1 ∧ 0 ≤ (lenS n m l).1) ∧ (¬ ((lenS n m l).2.2 = true ∧ (lenS n m l).1 ≤ 400) → (lenP x l).2 = false)) := by
  induction l with
  | nil =>
    intro n x m h
    simp only [lenS, lenP, fieldF]
    refine ⟨by simp, by omega, fun h2 => ⟨fun h3 => ?_, fun h3 => ?_⟩⟩
    · rcases h with h | h
      · omega
      · exact ⟨decide_eq_true (by omega), h.2.1, h.2.2⟩
    · rcases h with h | h
      · omega
      · exact decide_eq_false (fun q => h3 ⟨trivial, by omega⟩)
  | cons f r ih =>
    intro n x m h
    by_cases c : isL f
    · have hf : (fieldF nameL (f :: r)).2 = true := by
        rw [fieldF, if_pos (show f.f0.toList = nameL.toList from by rw [nameL_list]; exact c)]
      by_cases c2 : okN f.f1
      · have hn := nm_nonneg c2
        have step := ih (nm f.f1) (nm f.f1) (m + 1) (.inr ⟨by omega, rfl, hn⟩)
        have fin_ : ∀ X : Int × Int × Bool, X = lenS (nm f.f1) (m + 1) r → ((0 < X.2.1 ↔ (0 < m ∨ (fieldF nameL (f :: r)).2 = true)) ∧ 0 ≤ X.2.1) := by
          rintro X rfl
          refine ⟨⟨fun _ => .inr hf, fun _ => step.1.mpr (.inl (by omega))⟩, step.2.1⟩
        have hx : lenP x (f :: r) = (if 0 ≤ x then (if nm f.f1 = x then lenP (nm f.f1) r else (0, false)) else lenP (nm f.f1) r) := by rw [lenP, if_pos c, if_pos c2]
        have hs : lenS n m (f :: r) = (if 0 < m then (if nm f.f1 = n then lenS (nm f.f1) (m + 1) r else (0, ((m + 1 : Nat) : Int), false)) else lenS (nm f.f1) (m + 1) r) := by rw [lenS, if_pos c, if_pos c2]
        rcases h with h | h
        · rw [if_neg (by omega)] at hx
          rw [if_neg (by omega)] at hs
          rw [hx, hs]
          exact ⟨(fin_ _ rfl).1, (fin_ _ rfl).2, step.2.2⟩
        · rw [if_pos (by omega)] at hx
          rw [if_pos (by omega)] at hs
          by_cases c5 : nm f.f1 = n
          · rw [if_pos (by omega)] at hx
            rw [if_pos c5] at hs
            rw [hx, hs]
            exact ⟨(fin_ _ rfl).1, (fin_ _ rfl).2, step.2.2⟩
          · rw [if_neg (by omega)] at hx
            rw [if_neg c5] at hs
            rw [hx, hs]
            exact ⟨⟨fun _ => .inr hf, fun _ => by show 0 < ((m + 1 : Nat) : Int); omega⟩, by show 0 ≤ ((m + 1 : Nat) : Int); omega, fun _ => ⟨fun q => absurd q.1 (by simp), fun _ => rfl⟩⟩
      · have hx : lenP x (f :: r) = (0, false) := by rw [lenP, if_pos c, if_neg c2]
        have hs : lenS n m (f :: r) = (0, ((m + 1 : Nat) : Int), false) := by rw [lenS, if_pos c, if_neg c2]
        rw [hx, hs]
        exact ⟨⟨fun _ => .inr hf, fun _ => by show 0 < ((m + 1 : Nat) : Int); omega⟩, by show 0 ≤ ((m + 1 : Nat) : Int); omega, fun _ => ⟨fun q => absurd q.1 (by simp), fun _ => rfl⟩⟩
    · have hx : lenP x (f :: r) = lenP x r := by rw [lenP, if_neg c]
      have hs : lenS n m (f :: r) = lenS n m r := by rw [lenS, if_neg c]
      have hf : fieldF nameL (f :: r) = fieldF nameL r := by rw [fieldF, if_neg (show ¬ f.f0.toList = nameL.toList from by rw [nameL_list]; exact c)]
      rw [hx, hs, hf]
      exact ih n x m h
theorem body_both (a : ByteArray) (l : List S45) (t : ByteArray) (hl : l.length ≤ 4611686018427387904) (hg : ∀ f ∈ l, f.f1.size ≤ 9223372036854775807) (ht : t.size ≤ 4611686018427387904) : ∃ r, Ev (fun k => spec_BodyOf.f k a l t) r ∧ Ev (fun k => impl_BodyOf.f k a l t) r := by
  have hS := length_spec_l a l hl l.length 0 0 0 (by omega) (by omega) (by omega)
  have hP := length_impl_l l hg hl l.length 0 (-1) (by omega) (by omega)
  rw [List.drop_zero] at hS hP
  have rel := lens l 0 (-1) 0 (.inl ⟨rfl, rfl⟩)
  have f1 := fieldOf_spec a l nameC (by omega)
  have f2 := fieldOf_impl a l nameC (by omega)
  have f3 := fieldOf_impl a l nameL (by omega)
  have hP' : Ev (fun k => impl_lengthOf.f k a l) (lenP (-1) l) := hP
  have hS' : Ev (fun k => spec_l11Length.f k a l) (lenS 0 0 l) := hS
  obtain ⟨r, _, e1, e2⟩ := reads_both t ht
  generalize lenS 0 0 l = X at rel hS'
  generalize lenP (-1) l = Y at rel hP'
  generalize fieldF nameC l = C at f1 f2
  generalize fieldF nameL l = L at rel f3
  obtain ⟨x1, x2, x3⟩ := X
  obtain ⟨y1, y2⟩ := Y
  obtain ⟨c1, c2⟩ := C
  obtain ⟨l1, l2⟩ := L
  obtain ⟨r1, r2, r3⟩ := rel
  dsimp only at r1 r2 r3
  simp only [Nat.lt_irrefl, false_or] at r1
  simp only [spec_BodyOf.f, impl_BodyOf.f]
  have S0 : ∀ r, Ev (fun k => if c2 = true then (if x2 > 0 then (some ((⟨#[]⟩ : ByteArray), 0, 2)) else (if c1.toList = ([99, 104, 117, 110, 107, 101, 100] : List UInt8) then ((spec_ReadChunks.f k t).bind fun bt344 => (some (bt344.1, bt344.2.1, bt344.2.2))) else (some ((⟨#[]⟩ : ByteArray), 0, 2)))) else (if x2 = 0 then (some ((⟨#[]⟩ : ByteArray), 0, 0)) else (if x3 = true then (spec_BodyOf.j0 k t x1 (decide (x1 > 400))) else (spec_BodyOf.j0 k t x1 true)))) r → Ev (fun k => (spec_l11Length.f k a l).bind fun bt339 => ((spec_FieldOf.f k a l nameC).bind fun bt342 => (if bt342.2 = true then (if bt339.2.1 > 0 then (some ((⟨#[]⟩ : ByteArray), 0, 2)) else (if bt342.1.toList = ([99, 104, 117, 110, 107, 101, 100] : List UInt8) then ((spec_ReadChunks.f k t).bind fun bt344 => (some (bt344.1, bt344.2.1, bt344.2.2))) else (some ((⟨#[]⟩ : ByteArray), 0, 2)))) else (if bt339.2.1 = 0 then (some ((⟨#[]⟩ : ByteArray), 0, 0)) else (if bt339.2.2 = true then (spec_BodyOf.j0 k t bt339.1 (decide (bt339.1 > 400))) else (spec_BodyOf.j0 k t bt339.1 true)))))) r := fun r h => Ev.bind hS' (Ev.bind f1 h)
  have jb : ∀ n, Ev (fun k => spec_BodyOf.j0 k t n true) ((⟨#[]⟩ : ByteArray), 0, 2) := by
    intro n
    refine Ev.succ ?_
    simp only [spec_BodyOf.j0]
    exact Ev.yes trivial (Ev.now _)
  cases c2 with
  | true =>
    by_cases hx : x2 > 0
    · have : l2 = true := r1.mp hx
      subst this
      refine ⟨((⟨#[]⟩ : ByteArray), 0, 2), S0 _ (Ev.yes rfl (Ev.yes hx (Ev.now _))), Ev.bind f2 (Ev.bind f3 (Ev.yes rfl (Ev.yes rfl (Ev.succ ?_))))⟩
      simp only [impl_BodyOf.j0]
      exact Ev.no (by simp) (Ev.yes trivial (Ev.now _))
    · have : l2 = false := by
        cases l2 with
        | false => rfl
        | true => exact absurd (r1.mpr rfl) (by omega)
      subst this
      by_cases hc : c1.toList = ([99, 104, 117, 110, 107, 101, 100] : List UInt8)
      · refine ⟨r, S0 _ (Ev.yes rfl (Ev.no hx (Ev.yes hc (Ev.bind e1 (Ev.now _))))), Ev.bind f2 (Ev.bind f3 (Ev.yes rfl (Ev.no (by simp) (Ev.succ ?_))))⟩
        simp only [impl_BodyOf.j0]
        exact Ev.yes (by simpa using hc) (Ev.bind e2 (Ev.now _))
      · refine ⟨((⟨#[]⟩ : ByteArray), 0, 2), S0 _ (Ev.yes rfl (Ev.no hx (Ev.no hc (Ev.now _)))), Ev.bind f2 (Ev.bind f3 (Ev.yes rfl (Ev.no (by simp) (Ev.succ ?_))))⟩
        simp only [impl_BodyOf.j0]
        exact Ev.no (by simpa using hc) (Ev.yes trivial (Ev.now _))
  | false =>
    by_cases hx : x2 > 0
    · have : l2 = true := r1.mp hx
      subst this
      have im : ∀ r, Ev (fun k => (impl_lengthOf.f k a l).bind fun bt294 => (if bt294.2 = true then (if bt294.1 > (t.size : Int) then (some ((⟨#[]⟩ : ByteArray), 0, 1)) else (if 0 ≤ bt294.1 then (if bt294.1 ≤ (t.size : Int) then (some (t.extract 0 (bt294.1 : Int).toNat, bt294.1, 0)) else (none)) else (none))) else (some ((⟨#[]⟩ : ByteArray), 0, 2)))) r → Ev (fun k => (impl_FieldOf.f k a l nameC).bind fun bt287 => ((impl_FieldOf.f k a l nameL).bind fun bt289 => (if bt287.2 = true then (if bt289.2 = true then (impl_BodyOf.j0 k t bt287.2 bt289.2 false a l) else (impl_BodyOf.j0 k t bt287.2 bt289.2 (bt287.1.toList == ([99, 104, 117, 110, 107, 101, 100] : List UInt8)) a l)) else (impl_BodyOf.j0 k t bt287.2 bt289.2 false a l)))) r := by
        intro r h
        refine Ev.bind f2 (Ev.bind f3 (Ev.no (by simp) (Ev.succ ?_)))
        simp only [impl_BodyOf.j0]
        exact Ev.no (by simp) (Ev.no (by simp) (Ev.yes trivial h))
      by_cases hq : x3 = true ∧ x1 ≤ 400
      · obtain ⟨q1, q2, q3⟩ := (r3 hx).1 hq
        subst q1
        subst q2
        have start : ∀ r, Ev (fun k => (if y1 > (t.size : Int) then (some ((⟨#[]⟩ : ByteArray), 0, 1)) else (if 0 ≤ y1 then (if y1 ≤ (t.size : Int) then (some (t.extract 0 (y1 : Int).toNat, y1, 0)) else (none)) else (none)))) r → Ev (fun k => spec_BodyOf.j0 k t y1 (decide (y1 > 400))) r := by
          intro r h
          refine Ev.succ ?_
          simp only [spec_BodyOf.j0]
          exact Ev.no (by simpa using hq.2) h
        by_cases hz : y1 > (t.size : Int)
        · exact ⟨((⟨#[]⟩ : ByteArray), 0, 1), S0 _ (Ev.no (by simp) (Ev.no (by omega) (Ev.yes hq.1 (start _ (Ev.yes hz (Ev.now _)))))), im _ (Ev.bind hP' (Ev.yes rfl (Ev.yes hz (Ev.now _))))⟩
        · exact ⟨(t.extract 0 y1.toNat, y1, 0), S0 _ (Ev.no (by simp) (Ev.no (by omega) (Ev.yes hq.1 (start _ (Ev.no hz (Ev.yes q3 (Ev.yes (by omega) (Ev.now _)))))))), im _ (Ev.bind hP' (Ev.yes rfl (Ev.no hz (Ev.yes q3 (Ev.yes (by omega) (Ev.now _))))))⟩
      · have q1 := (r3 hx).2 hq
        subst q1
        refine ⟨((⟨#[]⟩ : ByteArray), 0, 2), S0 _ (Ev.no (by simp) (Ev.no (by omega) ?_)), im _ (Ev.bind hP' (Ev.no (by simp) (Ev.now _)))⟩
        by_cases h3 : x3 = true
        · refine Ev.yes h3 ?_
          rw [decide_eq_true (show x1 > 400 by have : ¬ x1 ≤ 400 := fun q => hq ⟨h3, q⟩; omega)]
          exact jb x1
        · exact Ev.no h3 (jb x1)
    · have : l2 = false := by
        cases l2 with
        | false => rfl
        | true => exact absurd (r1.mpr rfl) (by omega)
      subst this
      refine ⟨((⟨#[]⟩ : ByteArray), 0, 0), S0 _ (Ev.no (by simp) (Ev.yes (by omega) (Ev.now _))), Ev.bind f2 (Ev.bind f3 (Ev.no (by simp) (Ev.succ ?_)))⟩
      simp only [impl_BodyOf.j0]
      exact Ev.no (by simp) (Ev.no (by simp) (Ev.no (by simp) (Ev.now _)))
end Go.Proofs.Ythjigecaojaalaa.Q
