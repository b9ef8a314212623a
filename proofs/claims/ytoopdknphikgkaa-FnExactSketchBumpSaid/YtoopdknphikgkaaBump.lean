import Derived.Test.YtoopdknphikgkaaGuess
import Derived.Test.YtoopdknphikgkaaG82
import Derived.Test.YtoopdknphikgkaaG107
namespace Go.Proofs.Ytoopdknphikgkaa.Q
open Go.RowKit Go.Proofs.YtoopdknphikgkaaW.PrintWords Go.Proofs.YtoopdknphikgkaaW.PrintLast Go.Proofs.YtoopdknphikgkaaW.PrintMore
/-! ### a sketch that is bumped -/
def half (n : Int) : Int := wrap64 (Int.tdiv n 2)
def halfFrom (j : Nat) (r : List Int) : List Int := r.take j ++ (r.drop j).map half
theorem halfFrom_set (r : List Int) (j : Nat) (h : j < r.length) : halfFrom (j + 1) (r.set j (half r[j])) = halfFrom j r := by
  unfold halfFrom
  rw [take_set r j _ h, List.drop_set_of_lt (by omega), drop_get r j h, List.map_cons, List.append_assoc, List.singleton_append]
theorem halfFrom_all (r : List Int) (j : Nat) (h : r.length ≤ j) : halfFrom j r = r := by
  unfold halfFrom
  rw [List.take_of_length_le h, List.drop_eq_nil_of_le h]; simp
theorem halfFrom_zero (r : List Int) : halfFrom 0 r = r.map half := by unfold halfFrom; simp
theorem rdL_set (l : List (List Int)) (i : Nat) (v : List Int) (h : i < l.length) : rd_L2 (l.set i v) i = v := by
  rw [rdL_get _ i (by rw [List.length_set]; exact h), List.getElem_set_self]
theorem half_row_spec (i : Nat) (g : List (List Int) × Int) (d : Nat) : ∀ (j : Nat) (cur : List (List Int)), i < cur.length → cur.length ≤ 1048576 → (rd_L2 cur i).length ≤ 1048576 → j ≤ (rd_L2 cur i).length → (rd_L2 cur i).length - j = d → Ev (fun k => spec_SketchBump.l1 k ((i + 1 : Nat) : Int) (cur.set i (halfFrom j (rd_L2 cur i))) 0) g → Ev (fun k => spec_SketchBump.l2 k (i : Int) (j : Int) cur 0) g := by
  induction d with
  | zero =>
    intro j cur hi hl hr hj hd hg
    refine Ev.succ ?_
    simp only [spec_SketchBump.l2]
    rw [wnat i _ hi (by omega)]
    rw [halfFrom_all _ j (by omega), rdL_get cur i hi, List.set_getElem_self] at hg
    exact Ev.yes (by omega) (Ev.yes (by omega) (Ev.no (by omega) hg))
  | succ d ih =>
    intro j cur hi hl hr hj hd hg
    have hlt : j < (rd_L2 cur i).length := by omega
    refine Ev.succ ?_
    simp only [spec_SketchBump.l2, Int.toNat_natCast]
    rw [wnat j _ hlt (by omega), rd_get _ j hlt]
    refine Ev.yes (by omega) (Ev.yes (by omega) (Ev.yes (by omega) (Ev.yes (by omega) ?_)))
    have e := rdL_set cur i ((rd_L2 cur i).set j (wrap64 (Int.tdiv (rd_L2 cur i)[j] 2))) hi
    refine ih (j + 1) _ (by simpa using hi) (by simpa using hl) ?_ ?_ ?_ ?_
    · rw [e]; simpa using hr
    · rw [e]; simp only [List.length_set]; omega
    · rw [e]; simp only [List.length_set]; omega
    · rw [e, List.set_set, show (rd_L2 cur i).set j (wrap64 (Int.tdiv (rd_L2 cur i)[j] 2)) = (rd_L2 cur i).set j (half (rd_L2 cur i)[j]) from rfl, halfFrom_set _ j hlt]
      exact hg
theorem take_cons_drop (l : List (List Int)) (i : Nat) (v : List Int) (h : i < l.length) (f : List Int → List Int) (hv : v = f l[i]) : (l.set i v).take (i + 1) ++ ((l.set i v).drop (i + 1)).map f = l.take i ++ (l.drop i).map f := by
  rw [take_set l i _ h, List.drop_set_of_lt (by omega), drop_get l i h, hv, List.map_cons, List.append_assoc, List.singleton_append]
theorem half_rows_spec (d : Nat) : ∀ (i : Nat) (cur : List (List Int)), cur.length ≤ 1048576 → (∀ r ∈ cur, r.length ≤ 1048576) → i ≤ cur.length → cur.length - i = d → Ev (fun k => spec_SketchBump.l1 k (i : Int) cur 0) (cur.take i ++ (cur.drop i).map (·.map half), 0) := by
  induction d with
  | zero =>
    intro i cur hl hr hi hd
    refine Ev.succ ?_
    simp only [spec_SketchBump.l1]
    rw [List.drop_eq_nil_of_le (by omega), List.take_of_length_le (by omega)]
    simp only [List.map_nil, List.append_nil]
    exact Ev.no (by omega) (Ev.now _)
  | succ d ih =>
    intro i cur hl hr hi hd
    have hlt : i < cur.length := by omega
    refine Ev.succ ?_
    simp only [spec_SketchBump.l1]
    refine Ev.yes (by omega) ?_
    have hri := hr _ (List.getElem_mem hlt)
    refine half_row_spec i _ _ 0 cur hlt hl (by rw [rdL_get cur i hlt]; exact hri) (by omega) rfl ?_
    rw [halfFrom_zero, rdL_get cur i hlt, ← take_cons_drop cur i (cur[i].map half) hlt (·.map half) rfl]
    refine ih (i + 1) _ (by simpa using hl) ?_ (by simp; omega) (by simp; omega)
    intro r hm
    rcases List.mem_or_eq_of_mem_set hm with hm | rfl
    · exact hr r hm
    · simpa using hri
theorem half_row_impl (n : Int) (i : Nat) (m : Nat) (rows : List (List Int)) (hi : i < rows.length) (hl : rows.length ≤ 1048576) (hm : m ≤ 1048576) (g : List (List Int) × Int) (d : Nat) : ∀ (j : Nat) (ys : List Int), ys.length = m → j ≤ m → m - j = d → Ev (fun k => impl_SketchBump.l1 k n ((i + 1 : Nat) : Int) (rows.set i (halfFrom j ys))) g → Ev (fun k => impl_SketchBump.l2 k n (i : Int) (m : Int) (j : Int) ys rows) g := by
  induction d with
  | zero =>
    intro j ys hy hj hd hg
    refine Ev.succ ?_
    simp only [impl_SketchBump.l2, Int.toNat_natCast]
    rw [wnat i _ hi (by omega)]
    rw [halfFrom_all _ j (by omega)] at hg
    exact Ev.no (by omega) hg
  | succ d ih =>
    intro j ys hy hj hd hg
    have hlt : j < ys.length := by omega
    refine Ev.succ ?_
    simp only [impl_SketchBump.l2, Int.toNat_natCast]
    rw [wnat j _ hlt (by omega), rd_get _ j hlt]
    refine Ev.yes (by omega) (Ev.yes (by omega) (Ev.yes (by omega) ?_))
    refine ih (j + 1) _ (by simpa using hy) (by omega) (by omega) ?_
    rw [show ys.set j (wrap64 (Int.tdiv ys[j] 2)) = ys.set j (half ys[j]) from rfl, halfFrom_set _ j hlt]
    exact hg
theorem half_rows_impl (n : Nat) (d : Nat) : ∀ (i : Nat) (cur : List (List Int)), cur.length = n → n ≤ 1048576 → (∀ r ∈ cur, r.length ≤ 1048576) → i ≤ n → n - i = d → Ev (fun k => impl_SketchBump.l1 k (n : Int) (i : Int) cur) (cur.take i ++ (cur.drop i).map (·.map half), 0) := by
  induction d with
  | zero =>
    intro i cur hn hl hr hi hd
    refine Ev.succ ?_
    simp only [impl_SketchBump.l1]
    rw [List.drop_eq_nil_of_le (by omega), List.take_of_length_le (by omega)]
    simp only [List.map_nil, List.append_nil]
    exact Ev.no (by omega) (Ev.now _)
  | succ d ih =>
    intro i cur hn hl hr hi hd
    have hlt : i < cur.length := by omega
    refine Ev.succ ?_
    simp only [impl_SketchBump.l1]
    have hri := hr _ (List.getElem_mem hlt)
    refine Ev.yes (by omega) (Ev.yes (by omega) (Ev.yes (by omega) ?_))
    refine half_row_impl (n : Int) i _ cur hlt (by omega) (by rw [rdL_get cur i hlt]; exact hri) _ _ 0 _ rfl (by omega) rfl ?_
    rw [halfFrom_zero, rdL_get cur i hlt, ← take_cons_drop cur i (cur[i].map half) hlt (·.map half) rfl]
    refine ih (i + 1) _ (by simpa using hn) hl ?_ (by omega) (by omega)
    intro r hm
    rcases List.mem_or_eq_of_mem_set hm with hm | rfl
    · exact hr r hm
    · simpa using hri
def bumpRow (r : List Int) (p : Int) : List Int := r.set p.toNat (mn (rd r p + 1) 15)
def bumpL (pl : Nat → Int) : List (List Int) → Nat → List (List Int)
  | [], _ => []
  | r :: t, i => bumpRow r (pl i) :: bumpL pl t (i + 1)
def fin (rows : List (List Int)) (a : Int) : List (List Int) × Int := if a + 1 = 64 then (rows.map (·.map half), 0) else (rows, a + 1)
theorem set_rd (r : List Int) (p : Int) (h0 : 0 ≤ p) (h1 : p < (r.length : Int)) : r.set p.toNat (rd r p) = r := by
  have h : p.toNat < r.length := by omega
  have e : rd r p = r[p.toNat] := by
    have := rd_get r p.toNat h
    rwa [Int.toNat_of_nonneg h0] at this
  rw [e, List.set_getElem_self]
theorem rd_in {r : List Int} {p : Int} (h0 : 0 ≤ p) (h1 : p < (r.length : Int)) : rd r p ∈ r := by
  have h : p.toNat < r.length := by omega
  have e : rd r p = r[p.toNat] := by
    have := rd_get r p.toNat h
    rwa [Int.toNat_of_nonneg h0] at this
  rw [e]; exact List.getElem_mem h
theorem bump_set (pl : Nat → Int) (cur : List (List Int)) (i : Nat) (h : i < cur.length) : (cur.set i (bumpRow cur[i] (pl i))).take (i + 1) ++ bumpL pl ((cur.set i (bumpRow cur[i] (pl i))).drop (i + 1)) (i + 1) = cur.take i ++ bumpL pl (cur.drop i) i := by
  rw [take_set cur i _ h, List.drop_set_of_lt (by omega), drop_get cur i h, bumpL]
  simp
def rIn (r : List Int) : Prop := r.length = 16 ∧ ∀ n ∈ r, 0 ≤ n ∧ n ≤ 15
theorem bumpRow_in {r : List Int} {p : Int} (h0 : 0 ≤ p) (h1 : p < 16) (h : rIn r) : rIn (bumpRow r p) := by
  refine ⟨by simpa [bumpRow] using h.1, fun n hn => ?_⟩
  rcases List.mem_or_eq_of_mem_set hn with hn | rfl
  · exact h.2 n hn
  · have := h.2 _ (rd_in h0 (by have := h.1; omega))
    unfold mn; split <;> omega
theorem bump_spec_l (key : ByteArray) (a : Int) (ha : 0 ≤ a ∧ a ≤ 63) (pl : Nat → Int) (hp : ∀ i, 0 ≤ pl i ∧ pl i < 16 ∧ Ev (fun k => spec_SketchPlace.f k (i : Int) key) (pl i)) (d : Nat) : ∀ (i : Nat) (cur : List (List Int)), cur.length ≤ 1048576 → (∀ r ∈ cur, rIn r) → i ≤ cur.length → cur.length - i = d → Ev (fun k => spec_SketchBump.l0 k key (i : Int) cur a) (fin (cur.take i ++ bumpL pl (cur.drop i) i) a) := by
  induction d with
  | zero =>
    intro i cur hl hr hi hd
    refine Ev.succ ?_
    simp only [spec_SketchBump.l0]
    rw [List.drop_eq_nil_of_le (by omega), List.take_of_length_le (by omega), w64 (n := a + 1) (by omega) (by omega)]
    simp only [bumpL, List.append_nil]
    refine Ev.no (by omega) ?_
    unfold fin
    by_cases c : a + 1 = 64
    · rw [if_pos c]
      have := half_rows_spec cur.length 0 cur hl (fun r hm => by have := (hr r hm).1; omega) (by omega) (by omega)
      simp only [List.take_zero, List.drop_zero, List.nil_append] at this
      exact Ev.yes c this
    · rw [if_neg c]; exact Ev.no c (Ev.now _)
  | succ d ih =>
    intro i cur hl hr hi hd
    have hlt : i < cur.length := by omega
    have hri := hr _ (List.getElem_mem hlt)
    obtain ⟨p0, p1, pe⟩ := hp i
    refine Ev.succ ?_
    simp only [spec_SketchBump.l0, Int.toNat_natCast]
    rw [rdL_get cur i hlt, wnat i _ hlt (by omega)]
    have hb := hri.2 _ (rd_in p0 (by have := hri.1; omega))
    rw [← bump_set pl cur i hlt]
    have hnext : Ev (fun k => spec_SketchBump.l0 k key ((i + 1 : Nat) : Int) (cur.set i (bumpRow cur[i] (pl i))) a) (fin ((cur.set i (bumpRow cur[i] (pl i))).take (i + 1) ++ bumpL pl ((cur.set i (bumpRow cur[i] (pl i))).drop (i + 1)) (i + 1)) a) := by
      refine ih (i + 1) _ (by simpa using hl) ?_ (by simp; omega) (by simp; omega)
      intro r hm
      rcases List.mem_or_eq_of_mem_set hm with hm | rfl
      · exact hr r hm
      · exact bumpRow_in p0 p1 hri
    refine Ev.yes (by omega) (Ev.bind pe (Ev.yes (by omega) (Ev.yes p0 (Ev.yes (by have := hri.1; omega) ?_))))
    by_cases c : rd cur[i] (pl i) < 15
    · refine Ev.yes c ?_
      have e : bumpRow cur[i] (pl i) = cur[i].set (pl i).toNat (wrap64 (rd cur[i] (pl i) + 1)) := by
        rw [bumpRow, w64 (by omega) (by omega), mn_if, if_neg (by omega)]
      rw [e] at hnext ⊢
      exact hnext
    · refine Ev.no c ?_
      have e : bumpRow cur[i] (pl i) = cur[i] := by
        rw [bumpRow, mn_if, if_pos (by omega)]
        have h15 : rd cur[i] (pl i) = 15 := by omega
        rw [← h15]; exact set_rd _ _ p0 (by have := hri.1; omega)
      rw [e, List.set_getElem_self] at hnext
      rw [e, List.set_getElem_self]
      exact hnext
theorem bump_impl_l (key : ByteArray) (a : Int) (ha : 0 ≤ a ∧ a ≤ 63) (n : Nat) (hn : n ≤ 1048576) (pl : Nat → Int) (hp : ∀ i, 0 ≤ pl i ∧ pl i < 16 ∧ Ev (fun k => impl_SketchPlace.f k (i : Int) key) (pl i)) (d : Nat) : ∀ (i : Nat) (cur : List (List Int)), cur.length = n → (∀ r ∈ cur, rIn r) → i ≤ n → n - i = d → Ev (fun k => impl_SketchBump.l0 k key (n : Int) (i : Int) cur a) (fin (cur.take i ++ bumpL pl (cur.drop i) i) a) := by
  induction d with
  | zero =>
    intro i cur hl hr hi hd
    refine Ev.succ ?_
    simp only [impl_SketchBump.l0]
    rw [List.drop_eq_nil_of_le (by omega), List.take_of_length_le (by omega), w64 (n := a + 1) (by omega) (by omega)]
    simp only [bumpL, List.append_nil]
    refine Ev.no (by omega) ?_
    unfold fin
    by_cases c : a + 1 = 64
    · rw [if_pos c]
      have := half_rows_impl n n 0 cur hl hn (fun r hm => by have := (hr r hm).1; omega) (by omega) (by omega)
      simp only [List.take_zero, List.drop_zero, List.nil_append] at this
      exact Ev.no (by omega) this
    · rw [if_neg c]; exact Ev.yes (by omega) (Ev.now _)
  | succ d ih =>
    intro i cur hl hr hi hd
    have hlt : i < cur.length := by omega
    have hri := hr _ (List.getElem_mem hlt)
    obtain ⟨p0, p1, pe⟩ := hp i
    refine Ev.succ ?_
    simp only [impl_SketchBump.l0, Int.toNat_natCast]
    rw [rdL_get cur i hlt, wnat i _ hlt (by omega)]
    have hb := hri.2 _ (rd_in p0 (by have := hri.1; omega))
    rw [← bump_set pl cur i hlt]
    refine Ev.yes (by omega) (Ev.yes (by omega) (Ev.yes (by omega) (Ev.bind pe (Ev.yes p0 (Ev.yes (by have := hri.1; omega) ?_)))))
    rw [w64 (n := rd cur[i] (pl i) + 1) (by omega) (by omega)]
    refine ih (i + 1) _ (by simpa using hl) ?_ (by omega) (by omega)
    intro r hm
    rcases List.mem_or_eq_of_mem_set hm with hm | rfl
    · exact hr r hm
    · exact bumpRow_in p0 p1 hri
theorem copy_spec_l (l : List (List Int)) (a b : Int) (hl : l.length ≤ 1048576) (hg : ∀ r ∈ l, r.length ≤ 1048576) (d : Nat) : ∀ i : Nat, i ≤ l.length → l.length - i = d → Ev (fun k => spec_l12Copy.l0 k (i : Int) l b (l.take i) a) (l, a) := by
  induction d with
  | zero =>
    intro i hi hd
    refine Ev.succ ?_
    simp only [spec_l12Copy.l0]
    rw [List.take_of_length_le (by omega)]
    exact Ev.no (by omega) (Ev.now _)
  | succ d ih =>
    intro i hi hd
    have hlt : i < l.length := by omega
    have hr := hg _ (List.getElem_mem hlt)
    refine Ev.succ ?_
    simp only [spec_l12Copy.l0, Option.bind_some]
    rw [rdL_get l i hlt, wnat i _ hlt (by omega)]
    have h := ih (i + 1) (by omega) (by omega)
    rw [List.take_succ_eq_append_getElem hlt] at h
    exact Ev.yes (by omega) (Ev.yes (by omega) (Ev.yes (by simp only [List.length_nil]; omega) (Ev.yes (by rw [List.length_take]; omega) h)))
theorem copy_spec (l : List (List Int)) (a : Int) (hl : l.length ≤ 1048576) (hg : ∀ r ∈ l, r.length ≤ 1048576) : Ev (fun k => spec_l12Copy.f k l a) (l, a) := by
  simp only [spec_l12Copy.f]
  have h := copy_spec_l l a a hl hg l.length 0 (by omega) (by omega)
  rw [List.take_zero] at h
  exact h
theorem copy_impl_l (l : List (List Int)) (a : Int) (hl : l.length ≤ 1048576) (hg : ∀ r ∈ l, r.length ≤ 1048576) (d : Nat) : ∀ i : Nat, i ≤ l.length → l.length - i = d → Ev (fun k => impl_copySketch.l0 k l (l.length : Int) (i : Int) (l.take i) a) (l, a) := by
  induction d with
  | zero =>
    intro i hi hd
    refine Ev.succ ?_
    simp only [impl_copySketch.l0]
    rw [List.take_of_length_le (by omega)]
    exact Ev.no (by omega) (Ev.now _)
  | succ d ih =>
    intro i hi hd
    have hlt : i < l.length := by omega
    have hr := hg _ (List.getElem_mem hlt)
    refine Ev.succ ?_
    simp only [impl_copySketch.l0, impl_copyInts.f, Option.bind_some]
    rw [rdL_get l i hlt, wnat i _ hlt (by omega), if_pos (by simp only [List.length_nil]; omega)]
    simp only [Option.bind_some]
    have h := ih (i + 1) (by omega) (by omega)
    rw [List.take_succ_eq_append_getElem hlt] at h
    exact Ev.yes (by omega) (Ev.yes (by omega) (Ev.yes (by omega) (Ev.yes (by rw [List.length_take]; omega) h)))
theorem copy_impl (l : List (List Int)) (a : Int) (hl : l.length ≤ 1048576) (hg : ∀ r ∈ l, r.length ≤ 1048576) : Ev (fun k => impl_copySketch.f k l a) (l, a) := by
  simp only [impl_copySketch.f]
  have h := copy_impl_l l a hl hg l.length 0 (by omega) (by omega)
  rw [List.take_zero] at h
  exact h
/-- The place of a key in row i, by both. -/
noncomputable def plOf (key : ByteArray) (hk : key.size ≤ 140737488351232) (i : Nat) : Int := Classical.choose (place_of (i : Int) key hk)
theorem plOf_is (key : ByteArray) (hk : key.size ≤ 140737488351232) (i : Nat) : 0 ≤ plOf key hk i ∧ plOf key hk i < 16 ∧ Ev (fun k => spec_SketchPlace.f k (i : Int) key) (plOf key hk i) ∧ Ev (fun k => impl_SketchPlace.f k (i : Int) key) (plOf key hk i) := Classical.choose_spec (place_of (i : Int) key hk)
noncomputable def bumped (l : List (List Int)) (a : Int) (key : ByteArray) (hk : key.size ≤ 140737488351232) : List (List Int) × Int := if skOk l a = true then fin (bumpL (plOf key hk) l 0) a else (l, a)
theorem skOk_rin {l : List (List Int)} {a : Int} (h : skOk l a = true) : ∀ r ∈ l, rIn r := fun r hr => ⟨((skOk_rows h).2.2 r hr).1, ((skOk_rows h).2.2 r hr).2⟩
theorem bump_spec (l : List (List Int)) (a : Int) (key : ByteArray) (hk : key.size ≤ 140737488351232) (hl : l.length ≤ 1048576) (hg : ∀ r ∈ l, r.length ≤ 1048576) : Ev (fun k => spec_SketchBump.f k l a key) (bumped l a key hk) := by
  simp only [spec_SketchBump.f]
  refine Ev.bind (copy_spec l a hl hg) (Ev.bind (sk_spec l a hl) ?_)
  unfold bumped
  by_cases c : skOk l a = true
  · rw [if_pos c]
    have h := bump_spec_l key a (skOk_rows c).2.1 (plOf key hk) (fun i => ⟨(plOf_is key hk i).1, (plOf_is key hk i).2.1, (plOf_is key hk i).2.2.1⟩) l.length 0 l hl (skOk_rin c) (by omega) (by omega)
    simp only [List.take_zero, List.drop_zero, List.nil_append] at h
    exact Ev.yes c h
  · rw [if_neg c]; exact Ev.no c (Ev.now _)
theorem bump_impl (l : List (List Int)) (a : Int) (key : ByteArray) (hk : key.size ≤ 140737488351232) (hl : l.length ≤ 1048576) (hg : ∀ r ∈ l, r.length ≤ 1048576) : Ev (fun k => impl_SketchBump.f k l a key) (bumped l a key hk) := by
  simp only [impl_SketchBump.f]
  refine Ev.bind (copy_impl l a hl hg) (Ev.bind (sk_impl l a hl hg) ?_)
  unfold bumped
  by_cases c : skOk l a = true
  · rw [if_pos c]
    have h := bump_impl_l key a (skOk_rows c).2.1 l.length hl (plOf key hk) (fun i => ⟨(plOf_is key hk i).1, (plOf_is key hk i).2.1, (plOf_is key hk i).2.2.2⟩) l.length 0 l rfl (skOk_rin c) (by omega) (by omega)
    simp only [List.take_zero, List.drop_zero, List.nil_append] at h
    exact Ev.yes c h
  · rw [if_neg c]; exact Ev.no c (Ev.now _)
theorem bumpL_len (pl : Nat → Int) (l : List (List Int)) : ∀ i, (bumpL pl l i).length = l.length := by
  induction l with
  | nil => intro i; rfl
  | cons r t ih => intro i; simp [bumpL, ih]
theorem bumpL_in (pl : Nat → Int) (hp : ∀ i, 0 ≤ pl i ∧ pl i < 16) (l : List (List Int)) : ∀ i, (∀ r ∈ l, rIn r) → ∀ r ∈ bumpL pl l i, rIn r := by
  induction l with
  | nil => intro i _ r hr; simp [bumpL] at hr
  | cons q t ih =>
    intro i h r hr
    rcases List.mem_cons.mp hr with rfl | hr
    · exact bumpRow_in (hp i).1 (hp i).2 (h q (List.mem_cons_self ..))
    · exact ih (i + 1) (fun z hz => h z (List.mem_cons_of_mem _ hz)) r hr

end Go.Proofs.Ytoopdknphikgkaa.Q
