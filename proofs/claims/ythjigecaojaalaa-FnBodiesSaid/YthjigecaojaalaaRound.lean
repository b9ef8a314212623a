import Derived.Test.YthjigecaojaalaaReads
import Derived.Test.YthjigecaojaalaaChunk
namespace Go.Proofs.Ythjigecaojaalaa.Q
open Go.RowKit Go.Proofs.YthjigecaojaalaaW.PrintWords Go.Proofs.YthjigecaojaalaaW.PrintLast Go.Proofs.YthjigecaojaalaaW.PrintMore
/-! ### one step of the program's reading -/
theorem im_more (t out : ByteArray) (hs : t.size ≤ 4611686018427387904) (hc : cntD t t.size = 0) : Ev (fun k => impl_ReadChunks.l0 k t out t ((t.size : Nat) : Int) 0) (badR 1) := by
  have hl := len_impl t t.size (by omega) hs
  unfold lenI at hl
  rw [hc, if_pos rfl, if_pos (by omega)] at hl
  refine Ev.succ ?_
  simp only [impl_ReadChunks.l0]
  exact Ev.yes trivial (Ev.bind hl (Ev.via (want_off t _ 1 (by omega) (by omega)) (Ev.no (by simp) (stop_j1 t out t _ _ 1 (by omega)))))
theorem im_end (t out : ByteArray) (a : Nat) (ha : a ≤ t.size) (hs : t.size ≤ 4611686018427387904) (hc : cntD t a ≠ 0) (he : endAt t (a + cntD t a) = 1) : Ev (fun k => impl_ReadChunks.l0 k t out t (a : Int) 0) (badR 1) := by
  have hl := len_impl t a ha hs
  have hcl := cntD_le t a ha
  unfold lenI at hl
  rw [if_neg hc] at hl
  have hw := want_at t (a + cntD t a) hcl hs
  rw [if_neg (by omega), he] at hw
  refine Ev.succ ?_
  simp only [impl_ReadChunks.l0]
  exact Ev.yes trivial (Ev.bind hl (Ev.via hw (Ev.no (by simp) (stop_j1 t out t _ _ 1 (by omega)))))
theorem im_line (t out : ByteArray) (a : Nat) (ha : a ≤ t.size) (hs : t.size ≤ 4611686018427387904) (hc : cntD t a ≠ 0) (he : endAt t (a + cntD t a) = 0) (m : Nat) (hm : numD t a = (m : Int)) (r : ByteArray × Int × Int) (h : Ev (fun k => impl_ReadChunks.j1 k t out (m : Int) ((m : Int) == 0) t ((a + cntD t a + 2 : Nat) : Int) 0) r) : Ev (fun k => impl_ReadChunks.l0 k t out t (a : Int) 0) r := by
  have hl := len_impl t a ha hs
  have hcl := cntD_le t a ha
  unfold lenI at hl
  rw [if_neg hc, hm] at hl
  have hw := want_at t (a + cntD t a) hcl hs
  rw [if_pos he, he] at hw
  refine Ev.succ ?_
  simp only [impl_ReadChunks.l0]
  exact Ev.yes trivial (Ev.bind hl (Ev.via hw (Ev.yes rfl h)))
theorem im_fin (t out : ByteArray) (a : Nat) (ha : a ≤ t.size) (hs : t.size ≤ 4611686018427387904) (hc : cntD t a ≠ 0) (he : endAt t (a + cntD t a) = 0) (hm : numD t a = 0) : Ev (fun k => impl_ReadChunks.l0 k t out t (a : Int) 0) (if endAt t (a + cntD t a + 2) = 0 then (out, ((a + cntD t a + 4 : Nat) : Int), 0) else badR (endAt t (a + cntD t a + 2))) := by
  refine im_line t out a ha hs hc he 0 hm _ (Ev.succ ?_)
  have hb := endAt_zero he
  have hw := want_at t (a + cntD t a + 2) hb hs
  simp only [impl_ReadChunks.j1]
  refine Ev.yes rfl ?_
  by_cases c : endAt t (a + cntD t a + 2) = 0
  · rw [show (if endAt t (a + cntD t a + 2) = 0 then (out, ((a + cntD t a + 4 : Nat) : Int), (0 : Int)) else badR (endAt t (a + cntD t a + 2))) = (out, ((a + cntD t a + 4 : Nat) : Int), 0) from if_pos c]
    rw [if_pos c, c] at hw
    exact Ev.via hw (Ev.yes rfl (Ev.now _))
  · rw [show (if endAt t (a + cntD t a + 2) = 0 then (out, ((a + cntD t a + 4 : Nat) : Int), (0 : Int)) else badR (endAt t (a + cntD t a + 2))) = badR (endAt t (a + cntD t a + 2)) from if_neg c]
    rw [if_neg c] at hw
    exact Ev.via hw (Ev.no c (Ev.now _))
theorem im_big (t out : ByteArray) (a : Nat) (ha : a ≤ t.size) (hs : t.size ≤ 4611686018427387904) (hc : cntD t a ≠ 0) (he : endAt t (a + cntD t a) = 0) (m : Nat) (hm : numD t a = (m : Int)) (h0 : 0 < m) (ho : out.size + m ≤ 400) (hb : t.size < a + cntD t a + 2 + m) : Ev (fun k => impl_ReadChunks.l0 k t out t (a : Int) 0) (badR 1) := by
  refine im_line t out a ha hs hc he m hm _ (Ev.succ ?_)
  have hz := endAt_zero he
  simp only [impl_ReadChunks.j1]
  refine Ev.no (by simp; omega) (Ev.yes trivial (Ev.succ ?_))
  simp only [impl_ReadChunks.j2]
  rw [w64 (n := (out.size : Int) + (m : Int)) (by omega) (by omega)]
  refine Ev.no (by simp; omega) (Ev.succ ?_)
  simp only [impl_ReadChunks.j3]
  rw [w64 (n := (t.size : Int) - ((a + cntD t a + 2 : Nat) : Int)) (by omega) (by omega)]
  refine Ev.yes trivial (Ev.succ ?_)
  simp only [impl_ReadChunks.j4]
  exact Ev.yes (decide_eq_true (by omega)) (stop_l0 t out t _ 1 (by omega))
theorem im_go (t out : ByteArray) (a : Nat) (ha : a ≤ t.size) (hs : t.size ≤ 4611686018427387904) (hc : cntD t a ≠ 0) (he : endAt t (a + cntD t a) = 0) (m : Nat) (hm : numD t a = (m : Int)) (h0 : 0 < m) (ho : out.size + m ≤ 400) (hb : a + cntD t a + 2 + m ≤ t.size) (r : ByteArray × Int × Int)
    (h : Ev (fun k => impl_ReadChunks.l0 k t (out ++ t.extract (a + cntD t a + 2) (a + cntD t a + 2 + m)) t (if endAt t (a + cntD t a + 2 + m) = 0 then ((a + cntD t a + 2 + m + 2 : Nat) : Int) else ((a + cntD t a + 2 + m : Nat) : Int)) (endAt t (a + cntD t a + 2 + m))) r) : Ev (fun k => impl_ReadChunks.l0 k t out t (a : Int) 0) r := by
  refine im_line t out a ha hs hc he m hm _ (Ev.succ ?_)
  generalize a + cntD t a + 2 = nx at hb h ⊢
  have hw := want_at t (nx + m) hb hs
  simp only [impl_ReadChunks.j1]
  refine Ev.no (by simp; omega) (Ev.yes trivial (Ev.succ ?_))
  simp only [impl_ReadChunks.j2]
  rw [w64 (n := (out.size : Int) + (m : Int)) (by omega) (by omega)]
  refine Ev.no (by simp; omega) (Ev.succ ?_)
  simp only [impl_ReadChunks.j3]
  rw [w64 (n := (t.size : Int) - (nx : Int)) (by omega) (by omega)]
  refine Ev.yes trivial (Ev.succ ?_)
  simp only [impl_ReadChunks.j4]
  have hxz : (t.extract nx (nx + m)).size = m := by rw [ext_size _ _ _ (by omega)]; omega
  rw [w64 (n := (nx : Int) + (m : Int)) (by omega) (by omega), show (nx : Int) + (m : Int) = ((nx + m : Nat) : Int) by omega]
  simp only [Int.toNat_natCast]
  exact Ev.no (by simp; omega) (Ev.yes trivial (Ev.yes (by omega) (Ev.yes (by omega) (Ev.yes (by omega) (Ev.yes (by rw [hxz]; omega) (Ev.via hw h))))))
/-! ### texts put together: what stands at a place -/
theorem bt_left (X Y : ByteArray) (i : Nat) (h : i < X.size) : bt (X ++ Y) (i : Int) = bt X (i : Int) := by
  rw [bt_get (X ++ Y) i (by rw [ByteArray.size_append]; omega), bt_get X i h]
  simp only [ByteArray.data_append, Array.toList_append]
  rw [List.getElem_append_left (by rw [sizeL]; exact h)]
theorem bt_right (X Y : ByteArray) (i : Nat) (h : i < Y.size) : bt (X ++ Y) ((X.size + i : Nat) : Int) = bt Y (i : Int) := by
  rw [bt_get (X ++ Y) (X.size + i) (by rw [ByteArray.size_append]; omega), bt_get Y i h]
  simp only [ByteArray.data_append, Array.toList_append]
  rw [List.getElem_append_right (by rw [sizeL]; omega)]
  simp only [sizeL, Nat.add_sub_cancel_left]
theorem D1_left (X Y : ByteArray) (i : Nat) (h : i < X.size) : D1 (X ++ Y) i ↔ D1 X i := by
  unfold D1; rw [bt_left X Y i h, ByteArray.size_append]
  constructor <;> rintro ⟨a, b⟩ <;> exact ⟨by omega, b⟩
theorem D1_right (X Y : ByteArray) (i : Nat) : D1 (X ++ Y) (X.size + i) ↔ D1 Y i := by
  unfold D1; rw [ByteArray.size_append]
  constructor
  · rintro ⟨a, b⟩
    rw [bt_right X Y i (by omega)] at b
    exact ⟨by omega, b⟩
  · rintro ⟨a, b⟩
    rw [bt_right X Y i a]
    exact ⟨by omega, b⟩
theorem cnt_left (X Y : ByteArray) (h : 2 ≤ X.size) : cntD (X ++ Y) 0 = cntD X 0 := by
  unfold cntD
  simp only [D1_left X Y 0 (by omega), D1_left X Y (0 + 1) (by omega)]
theorem num_left (X Y : ByteArray) (h : 2 ≤ X.size) : numD (X ++ Y) 0 = numD X 0 := by
  unfold numD
  simp only [D1_left X Y 0 (by omega), D1_left X Y (0 + 1) (by omega), bt_left X Y 0 (by omega), bt_left X Y (0 + 1) (by omega)]
theorem end_left (X Y : ByteArray) (i : Nat) (h : i + 2 ≤ X.size) : endAt (X ++ Y) i = endAt X i := by
  unfold endAt
  rw [bt_left X Y i (by omega), bt_left X Y (i + 1) (by omega), ByteArray.size_append]
  simp only [show ¬ (X.size + Y.size ≤ i) by omega, show ¬ (X.size ≤ i) by omega, show ¬ (X.size + Y.size ≤ i + 1) by omega, show ¬ (X.size ≤ i + 1) by omega, if_false]
theorem cnt_right (X Y : ByteArray) : cntD (X ++ Y) X.size = cntD Y 0 := by
  unfold cntD
  have h0 := D1_right X Y 0
  have h1 := D1_right X Y (0 + 1)
  rw [Nat.add_zero] at h0
  simp only [h0, show X.size + 1 = X.size + (0 + 1) from rfl, h1]
theorem num_right (X Y : ByteArray) : numD (X ++ Y) X.size = numD Y 0 := by
  unfold numD
  have h0 := D1_right X Y 0
  have h1 := D1_right X Y (0 + 1)
  rw [Nat.add_zero] at h0
  simp only [h0, show X.size + 1 = X.size + (0 + 1) from rfl, h1]
  by_cases c : D1 Y 0
  · have b0 := bt_right X Y 0 c.1
    rw [Nat.add_zero] at b0
    rw [if_pos c, if_pos c, b0]
    by_cases c2 : D1 Y (0 + 1)
    · rw [if_pos c2, if_pos c2, bt_right X Y (0 + 1) c2.1]
    · rw [if_neg c2, if_neg c2]
  · rw [if_neg c, if_neg c]
theorem end_right (X Y : ByteArray) (i : Nat) : endAt (X ++ Y) (X.size + i) = endAt Y i := by
  unfold endAt
  rw [ByteArray.size_append]
  by_cases c : Y.size ≤ i
  · rw [if_pos (by omega), if_pos c]
  · rw [if_neg (by omega), if_neg c, bt_right X Y i (by omega)]
    by_cases c2 : bt Y (i : Int) = 13
    · rw [if_pos c2, if_pos c2]
      by_cases c3 : Y.size ≤ i + 1
      · rw [if_pos (by omega), if_pos c3]
      · rw [if_neg (by omega), if_neg c3, show X.size + i + 1 = X.size + (i + 1) from rfl, bt_right X Y (i + 1) (by omega)]
    · rw [if_neg c2, if_neg c2]
theorem ext_app (U V : ByteArray) (k : Nat) (h : U.size ≤ k) : (U ++ V).extract 0 k = U ++ V.extract 0 (k - U.size) := by
  refine ba_ext ?_
  simp only [Lib.extract_data, ByteArray.data_append, Array.toList_append, List.drop_zero, Nat.sub_zero]
  rw [List.take_append, List.take_of_length_le (by rw [sizeL]; exact h), sizeL]
theorem ext_app_le (U V : ByteArray) (k : Nat) (h : k ≤ U.size) : (U ++ V).extract 0 k = U.extract 0 k := by
  refine ba_ext ?_
  simp only [Lib.extract_data, ByteArray.data_append, Array.toList_append, List.drop_zero, Nat.sub_zero]
  rw [List.take_append_of_le_length (by rw [sizeL]; exact h)]
theorem ext_mid (A P B : ByteArray) : (A ++ (P ++ B)).extract A.size (A.size + P.size) = P := by
  refine ba_ext ?_
  simp only [Lib.extract_data, ByteArray.data_append, Array.toList_append]
  rw [List.drop_append, sizeL, List.drop_of_length_le (by rw [sizeL]; omega), Nat.sub_self, List.drop_zero, List.nil_append, Nat.add_sub_cancel_left, List.take_append_of_le_length (by rw [sizeL]; omega), List.take_of_length_le (by rw [sizeL]; omega)]
theorem app_assoc (a b c : ByteArray) : (a ++ b) ++ c = a ++ (b ++ c) := ByteArray.append_assoc
/-- A length's line. -/
theorem line_all : ∀ m : Fin 100, 1 ≤ m.val → (cntD (hx m.val ++ nl) 0 = (hx m.val).size ∧ (hx m.val).size ≠ 0 ∧ numD (hx m.val ++ nl) 0 = ((m.val : Nat) : Int) ∧ endAt (hx m.val ++ nl) (hx m.val).size = 0 ∧ (hx m.val ++ nl).size = (hx m.val).size + 2) := by decide +kernel
theorem line_cut : ∀ m : Fin 100, 1 ≤ m.val → ∀ k : Fin 4, k.val < (hx m.val).size + 2 → ((k.val = 0 ∧ cntD ((hx m.val ++ nl).extract 0 k.val) 0 = 0) ∨ (cntD ((hx m.val ++ nl).extract 0 k.val) 0 ≠ 0 ∧ endAt ((hx m.val ++ nl).extract 0 k.val) (cntD ((hx m.val ++ nl).extract 0 k.val) 0) = 1)) := by decide +kernel
def lastT : ByteArray := ⟨#[48, 13, 10, 13, 10]⟩
def ctext : List ByteArray → ByteArray
  | [] => lastT
  | p :: r => ((hx p.size ++ nl) ++ (p ++ nl)) ++ ctext r
def ctot : List ByteArray → Nat
  | [] => 0
  | p :: r => p.size + ctot r
def call : List ByteArray → ByteArray
  | [] => ⟨#[]⟩
  | p :: r => p ++ call r
def okP (l : List ByteArray) : Prop := ∀ p ∈ l, 1 ≤ p.size ∧ p.size ≤ 99
theorem chunkF_text (l : List ByteArray) (h : okP l) : ∀ acc, chunkF l acc = (acc ++ ctext l, true) := by
  induction l with
  | nil => intro acc; rfl
  | cons p r ih =>
    intro acc
    rw [chunkF, if_pos (h p (List.mem_cons_self ..)), ih (fun q hq => h q (List.mem_cons_of_mem _ hq)), ctext, chunk1, app_assoc, app_assoc (hx p.size ++ nl) p nl]
theorem read_all (tail : ByteArray) (ps : List ByteArray) : ∀ (A out : ByteArray), okP ps → out.size + ctot ps ≤ 400 → (A ++ (ctext ps ++ tail)).size ≤ 4611686018427387904 → Ev (fun k => impl_ReadChunks.l0 k (A ++ (ctext ps ++ tail)) out (A ++ (ctext ps ++ tail)) ((A.size : Nat) : Int) 0) (out ++ call ps, ((A.size + (ctext ps).size : Nat) : Int), 0) := by
  induction ps with
  | nil =>
    intro A out hp ho hs
    have hz : (ctext [] ++ tail).size = 5 + tail.size := by rw [ByteArray.size_append]; rfl
    have k1 : cntD (A ++ (ctext [] ++ tail)) A.size = 1 := by rw [cnt_right, cnt_left _ _ (by decide)]; decide +kernel
    have k2 : numD (A ++ (ctext [] ++ tail)) A.size = 0 := by rw [num_right, num_left _ _ (by decide)]; decide +kernel
    have k3 : endAt (A ++ (ctext [] ++ tail)) (A.size + 1) = 0 := by rw [end_right, end_left _ _ _ (by decide)]; decide +kernel
    have k4 : endAt (A ++ (ctext [] ++ tail)) (A.size + 1 + 2) = 0 := by rw [show A.size + 1 + 2 = A.size + 3 from rfl, end_right, end_left _ _ _ (by decide)]; decide +kernel
    have h := im_fin (A ++ (ctext [] ++ tail)) out A.size (by rw [ByteArray.size_append]; omega) hs (by rw [k1]; omega) (by rw [k1]; exact k3) k2
    rw [k1, if_pos k4] at h
    rw [show call [] = (⟨#[]⟩ : ByteArray) from rfl, app_none]
    exact h
  | cons p r ih =>
    intro A out hp ho hs
    have hpp := hp p (List.mem_cons_self ..)
    obtain ⟨l1, l2, l3, l4, l5⟩ := line_all ⟨p.size, by omega⟩ hpp.1
    dsimp only at l1 l2 l3 l4 l5
    have hn : nl.size = 2 := rfl
    have e0 : A ++ (ctext (p :: r) ++ tail) = A ++ ((hx p.size ++ nl) ++ ((p ++ nl) ++ (ctext r ++ tail))) := by simp only [ctext, app_assoc]
    have e1 : A ++ (ctext (p :: r) ++ tail) = (A ++ (hx p.size ++ nl)) ++ (p ++ (nl ++ (ctext r ++ tail))) := by simp only [ctext, app_assoc]
    have e2 : A ++ (ctext (p :: r) ++ tail) = (A ++ ((hx p.size ++ nl) ++ (p ++ nl))) ++ (ctext r ++ tail) := by simp only [ctext, app_assoc]
    have e3 : A ++ (ctext (p :: r) ++ tail) = ((A ++ (hx p.size ++ nl)) ++ p) ++ (nl ++ (ctext r ++ tail)) := by simp only [ctext, app_assoc]
    have z1 : (A ++ (hx p.size ++ nl)).size = A.size + (hx p.size).size + 2 := by simp only [ByteArray.size_append, hn]; omega
    have z2 : (A ++ ((hx p.size ++ nl) ++ (p ++ nl))).size = A.size + (hx p.size).size + 2 + p.size + 2 := by simp only [ByteArray.size_append, hn]; omega
    have z3 : ((A ++ (hx p.size ++ nl)) ++ p).size = A.size + (hx p.size).size + 2 + p.size := by simp only [ByteArray.size_append, hn]; omega
    have zt : (A ++ (ctext (p :: r) ++ tail)).size = A.size + (hx p.size).size + 2 + p.size + 2 + (ctext r ++ tail).size := by rw [e2, ByteArray.size_append, z2]
    have k1 : cntD (A ++ (ctext (p :: r) ++ tail)) A.size = (hx p.size).size := by rw [e0, cnt_right, cnt_left _ _ (by omega)]; exact l1
    have k2 : numD (A ++ (ctext (p :: r) ++ tail)) A.size = (p.size : Int) := by rw [e0, num_right, num_left _ _ (by omega)]; exact l3
    have k3 : endAt (A ++ (ctext (p :: r) ++ tail)) (A.size + (hx p.size).size) = 0 := by rw [e0, end_right, end_left _ _ _ (by omega)]; exact l4
    have k4 : endAt (A ++ (ctext (p :: r) ++ tail)) (A.size + (hx p.size).size + 2 + p.size) = 0 := by
      rw [e3, show A.size + (hx p.size).size + 2 + p.size = ((A ++ (hx p.size ++ nl)) ++ p).size + 0 by omega, end_right, end_left _ _ _ (by decide)]; decide +kernel
    have k5 : (A ++ (ctext (p :: r) ++ tail)).extract (A.size + (hx p.size).size + 2) (A.size + (hx p.size).size + 2 + p.size) = p := by
      rw [e1, ← z1]; exact ext_mid _ p _
    have ih' := ih (A ++ ((hx p.size ++ nl) ++ (p ++ nl))) (out ++ p) (fun q hq => hp q (List.mem_cons_of_mem _ hq)) (by rw [ByteArray.size_append]; simp only [ctot] at ho; omega) (by rw [← e2]; exact hs)
    rw [← e2, z2] at ih'
    refine im_go _ out A.size (by omega) hs (by rw [k1]; exact l2) (by rw [k1]; exact k3) p.size k2 (by omega) (by simp only [ctot] at ho; omega) (by rw [k1]; omega) _ ?_
    rw [k1, k4, if_pos rfl, k5]
    have ec : (out ++ p) ++ call r = out ++ call (p :: r) := by rw [app_assoc]; rfl
    have ez : A.size + (hx p.size).size + 2 + p.size + 2 + (ctext r).size = A.size + (ctext (p :: r)).size := by simp only [ctext, ByteArray.size_append, hn]; omega
    rw [ec, ez] at ih'
    exact ih'
theorem last_cut : ∀ k : Fin 5, (k.val = 0 ∧ cntD (lastT.extract 0 k.val) 0 = 0) ∨ (cntD (lastT.extract 0 k.val) 0 ≠ 0 ∧ endAt (lastT.extract 0 k.val) (cntD (lastT.extract 0 k.val) 0) = 1) ∨ (cntD (lastT.extract 0 k.val) 0 = 1 ∧ endAt (lastT.extract 0 k.val) 1 = 0 ∧ numD (lastT.extract 0 k.val) 0 = 0 ∧ endAt (lastT.extract 0 k.val) 3 = 1) := by decide +kernel
theorem cut_head (A X out : ByteArray) (hs : (A ++ X).size ≤ 4611686018427387904) (h : (X.size = 0 ∧ cntD X 0 = 0) ∨ (cntD X 0 ≠ 0 ∧ endAt X (cntD X 0) = 1)) : Ev (fun k => impl_ReadChunks.l0 k (A ++ X) out (A ++ X) ((A.size : Nat) : Int) 0) (badR 1) := by
  rcases h with ⟨h1, h2⟩ | ⟨h1, h2⟩
  · have e : A.size = (A ++ X).size := by rw [ByteArray.size_append]; omega
    have hc : cntD (A ++ X) (A ++ X).size = 0 := by rw [← e, cnt_right]; exact h2
    have := im_more (A ++ X) out hs hc
    rwa [← e] at this
  · exact im_end (A ++ X) out A.size (by rw [ByteArray.size_append]; omega) hs (by rw [cnt_right]; exact h1) (by rw [cnt_right, end_right]; exact h2)
theorem nl_cut : ∀ k : Fin 2, endAt (nl.extract 0 k.val) 0 = 1 := by decide +kernel
theorem read_cut (ps : List ByteArray) : ∀ (A out : ByteArray) (k : Nat), okP ps → out.size + ctot ps ≤ 400 → k < (ctext ps).size → (A ++ (ctext ps).extract 0 k).size ≤ 4611686018427387904 → Ev (fun q => impl_ReadChunks.l0 q (A ++ (ctext ps).extract 0 k) out (A ++ (ctext ps).extract 0 k) ((A.size : Nat) : Int) 0) (badR 1) := by
  induction ps with
  | nil =>
    intro A out k hp ho hk hs
    have hk5 : k < 5 := hk
    have z : (lastT.extract 0 k).size = k := by rw [ext_size _ _ _ (show k ≤ 5 by omega)]; omega
    rw [show ctext [] = lastT from rfl] at hs ⊢
    rcases last_cut ⟨k, hk5⟩ with h | h | ⟨h1, h2, h3, h4⟩
    · exact cut_head A _ out hs (.inl ⟨by rw [z]; exact h.1, h.2⟩)
    · exact cut_head A _ out hs (.inr h)
    · dsimp only at h1 h2 h3 h4
      have q := im_fin (A ++ lastT.extract 0 k) out A.size (by rw [ByteArray.size_append]; omega) hs (by rw [cnt_right, h1]; omega) (by rw [cnt_right, h1, end_right]; exact h2) (by rw [num_right]; exact h3)
      rw [cnt_right, h1, show A.size + 1 + 2 = A.size + 3 from rfl, end_right, h4, if_neg (by omega)] at q
      exact q
  | cons p r ih =>
    intro A out k hp ho hk hs
    have hpp := hp p (List.mem_cons_self ..)
    obtain ⟨l1, l2, l3, l4, l5⟩ := line_all ⟨p.size, by omega⟩ hpp.1
    dsimp only at l1 l2 l3 l4 l5
    have hn : nl.size = 2 := rfl
    have zc : ((hx p.size ++ nl) ++ (p ++ nl)).size = (hx p.size).size + 2 + (p.size + 2) := by simp only [ByteArray.size_append, hn]
    rw [ctext] at hk hs ⊢
    rw [ByteArray.size_append, zc] at hk
    simp only [ctot] at ho
    by_cases c1 : k < (hx p.size).size + 2
    · have e : (((hx p.size ++ nl) ++ (p ++ nl)) ++ ctext r).extract 0 k = (hx p.size ++ nl).extract 0 k := by rw [ext_app_le _ _ _ (by omega), ext_app_le _ _ _ (by omega)]
      rw [e] at hs ⊢
      have h2 := hx_size p.size hpp.2
      have z : ((hx p.size ++ nl).extract 0 k).size = k := by rw [ext_size _ _ _ (by omega)]; omega
      have := line_cut ⟨p.size, by omega⟩ hpp.1 ⟨k, by omega⟩ c1
      dsimp only at this
      refine cut_head A _ out hs ?_
      rcases this with h | h
      · exact .inl ⟨by rw [z]; exact h.1, h.2⟩
      · exact .inr h
    · by_cases c2 : k < (hx p.size).size + 2 + (p.size + 2)
      · have e : (((hx p.size ++ nl) ++ (p ++ nl)) ++ ctext r).extract 0 k = (hx p.size ++ nl) ++ (p ++ nl).extract 0 (k - ((hx p.size).size + 2)) := by rw [ext_app_le _ _ _ (by omega), ext_app _ _ _ (by omega), l5]
        rw [e] at hs ⊢
        generalize hy : k - ((hx p.size).size + 2) = y
        rw [hy] at hs
        have zy : ((p ++ nl).extract 0 y).size = y := by rw [ext_size _ _ _ (by rw [ByteArray.size_append, hn]; omega)]; omega
        have zt : (A ++ ((hx p.size ++ nl) ++ (p ++ nl).extract 0 y)).size = A.size + (hx p.size).size + 2 + y := by rw [ByteArray.size_append, ByteArray.size_append, zy, l5]; omega
        have k1 : cntD (A ++ ((hx p.size ++ nl) ++ (p ++ nl).extract 0 y)) A.size = (hx p.size).size := by rw [cnt_right, cnt_left _ _ (by omega)]; exact l1
        have k2 : numD (A ++ ((hx p.size ++ nl) ++ (p ++ nl).extract 0 y)) A.size = (p.size : Int) := by rw [num_right, num_left _ _ (by omega)]; exact l3
        have k3 : endAt (A ++ ((hx p.size ++ nl) ++ (p ++ nl).extract 0 y)) (A.size + (hx p.size).size) = 0 := by rw [end_right, end_left _ _ _ (by omega)]; exact l4
        by_cases c3 : y < p.size
        · exact im_big _ out A.size (by omega) hs (by rw [k1]; exact l2) (by rw [k1]; exact k3) p.size k2 (by omega) (by omega) (by rw [k1]; omega)
        · have e2 : (p ++ nl).extract 0 y = p ++ nl.extract 0 (y - p.size) := ext_app _ _ _ (by omega)
          have k4 : endAt (A ++ ((hx p.size ++ nl) ++ (p ++ nl).extract 0 y)) (A.size + (hx p.size).size + 2 + p.size) = 1 := by
            rw [e2, show A ++ ((hx p.size ++ nl) ++ (p ++ nl.extract 0 (y - p.size))) = ((A ++ (hx p.size ++ nl)) ++ p) ++ nl.extract 0 (y - p.size) by simp only [app_assoc], show A.size + (hx p.size).size + 2 + p.size = ((A ++ (hx p.size ++ nl)) ++ p).size + 0 by simp only [ByteArray.size_append, hn]; omega, end_right]
            exact nl_cut ⟨y - p.size, by omega⟩
          refine im_go _ out A.size (by omega) hs (by rw [k1]; exact l2) (by rw [k1]; exact k3) p.size k2 (by omega) (by omega) (by rw [k1]; omega) _ ?_
          rw [k1, k4]
          exact stop_l0 _ _ _ _ 1 (by omega)
      · have e : (((hx p.size ++ nl) ++ (p ++ nl)) ++ ctext r).extract 0 k = ((hx p.size ++ nl) ++ (p ++ nl)) ++ (ctext r).extract 0 (k - ((hx p.size).size + 2 + (p.size + 2))) := by rw [ext_app _ _ _ (by omega), zc]
        rw [e] at hs ⊢
        generalize hy : k - ((hx p.size).size + 2 + (p.size + 2)) = y
        rw [hy] at hs
        have hy2 : y < (ctext r).size := by omega
        have zy : ((ctext r).extract 0 y).size = y := by rw [ext_size _ _ _ (by omega)]; omega
        have ea : A ++ (((hx p.size ++ nl) ++ (p ++ nl)) ++ (ctext r).extract 0 y) = (A ++ ((hx p.size ++ nl) ++ (p ++ nl))) ++ (ctext r).extract 0 y := by simp only [app_assoc]
        have eb : A ++ (((hx p.size ++ nl) ++ (p ++ nl)) ++ (ctext r).extract 0 y) = A ++ ((hx p.size ++ nl) ++ ((p ++ nl) ++ (ctext r).extract 0 y)) := by simp only [app_assoc]
        have e1 : A ++ (((hx p.size ++ nl) ++ (p ++ nl)) ++ (ctext r).extract 0 y) = (A ++ (hx p.size ++ nl)) ++ (p ++ (nl ++ (ctext r).extract 0 y)) := by simp only [app_assoc]
        have e3 : A ++ (((hx p.size ++ nl) ++ (p ++ nl)) ++ (ctext r).extract 0 y) = ((A ++ (hx p.size ++ nl)) ++ p) ++ (nl ++ (ctext r).extract 0 y) := by simp only [app_assoc]
        have z1 : (A ++ (hx p.size ++ nl)).size = A.size + (hx p.size).size + 2 := by simp only [ByteArray.size_append, hn]; omega
        have z3 : ((A ++ (hx p.size ++ nl)) ++ p).size = A.size + (hx p.size).size + 2 + p.size := by simp only [ByteArray.size_append, hn]; omega
        have z2 : (A ++ ((hx p.size ++ nl) ++ (p ++ nl))).size = A.size + (hx p.size).size + 2 + p.size + 2 := by simp only [ByteArray.size_append, hn]; omega
        have zt : (A ++ (((hx p.size ++ nl) ++ (p ++ nl)) ++ (ctext r).extract 0 y)).size = A.size + (hx p.size).size + 2 + p.size + 2 + y := by rw [ea, ByteArray.size_append, z2, zy]
        have k1 : cntD (A ++ (((hx p.size ++ nl) ++ (p ++ nl)) ++ (ctext r).extract 0 y)) A.size = (hx p.size).size := by rw [eb, cnt_right, cnt_left _ _ (by omega)]; exact l1
        have k2 : numD (A ++ (((hx p.size ++ nl) ++ (p ++ nl)) ++ (ctext r).extract 0 y)) A.size = (p.size : Int) := by rw [eb, num_right, num_left _ _ (by omega)]; exact l3
        have k3 : endAt (A ++ (((hx p.size ++ nl) ++ (p ++ nl)) ++ (ctext r).extract 0 y)) (A.size + (hx p.size).size) = 0 := by rw [eb, end_right, end_left _ _ _ (by omega)]; exact l4
        have k4 : endAt (A ++ (((hx p.size ++ nl) ++ (p ++ nl)) ++ (ctext r).extract 0 y)) (A.size + (hx p.size).size + 2 + p.size) = 0 := by
          rw [e3, show A.size + (hx p.size).size + 2 + p.size = ((A ++ (hx p.size ++ nl)) ++ p).size + 0 by omega, end_right, end_left _ _ _ (by decide)]; decide +kernel
        have k5 : (A ++ (((hx p.size ++ nl) ++ (p ++ nl)) ++ (ctext r).extract 0 y)).extract (A.size + (hx p.size).size + 2) (A.size + (hx p.size).size + 2 + p.size) = p := by
          rw [e1, ← z1]; exact ext_mid _ p _
        have ih' := ih (A ++ ((hx p.size ++ nl) ++ (p ++ nl))) (out ++ p) y (fun q hq => hp q (List.mem_cons_of_mem _ hq)) (by rw [ByteArray.size_append]; omega) hy2 (by rw [← ea]; exact hs)
        rw [← ea, z2] at ih'
        refine im_go _ out A.size (by omega) hs (by rw [k1]; exact l2) (by rw [k1]; exact k3) p.size k2 (by omega) (by omega) (by rw [k1]; omega) _ ?_
        rw [k1, k4, if_pos rfl, k5]
        exact ih'

end Go.Proofs.Ythjigecaojaalaa.Q
