import Derived.Test.YthjigecaojaalaaBtPlaces
import Derived.Test.YthjigecaojaalaaBtG60
import Derived.Test.YthjigecaojaalaaBtG21
import Derived.Test.YthjigecaojaalaaBtG54
namespace Go.Proofs.Ythjigecaojaalaa.Q
open Go.RowKit Go.Proofs.YthjigecaojaalaaW.PrintWords Go.Proofs.YthjigecaojaalaaW.PrintLast Go.Proofs.YthjigecaojaalaaW.PrintMore
theorem son_size (x : List Int) : (strOfNums x).size = x.length := by
  show ((List.map (fun n : Int => UInt8.ofNat n.toNat) x).toArray).size = x.length
  simp
theorem textP_l (l : List Int) (n : Int) (hn : n ≤ 5000) (d : Nat) : ∀ (x : List Int) (ci ch : Int), n - (x.length : Int) ≤ (d : Int) → x.length ≤ 5000 → cu l ci → EvP (fun k => spec_l01Text.l0 k n x (x.length : Int) l ci ch) (fun r => ((r.1.size : Int) = n ∨ (n ≤ (x.length : Int) ∧ r.1.size = x.length)) ∧ cu l r.2.1) := by
  induction d with
  | zero =>
    intro x ci ch hd hx hc
    refine EvP.succ ?_
    simp only [spec_l01Text.l0]
    refine EvP.no (by omega) (EvP.ret ⟨.inr ⟨by omega, son_size x⟩, hc⟩)
  | succ d ih =>
    intro x ci ch hd hx hc
    refine EvP.succ ?_
    simp only [spec_l01Text.l0]
    refine EvP.ite (fun c => ?_) (fun c => EvP.ret ⟨.inr ⟨by omega, son_size x⟩, hc⟩)
    refine EvP.bind (byteP l _ _ hc) fun y hy => EvP.yes (by omega) ?_
    rw [wnat x.length 5001 (by omega) (by omega), show ((x.length + 1 : Nat) : Int) = ((x ++ [y.1 % 256]).length : Int) by simp]
    refine (ih (x ++ [y.1 % 256]) _ _ (by simp; omega) (by simp; omega) hy.2).imp fun r hr => ⟨?_, hr.2⟩
    rcases hr.1 with h | ⟨h1, h2⟩
    · exact .inl h
    · simp at h1 h2
      exact .inl (by omega)
theorem textP (l : List Int) (i h n : Int) (hc : cu l i) : EvP (fun k => spec_l01Text.f k l i h n) (fun r => (r.1.size : Int) ≤ 5000 ∧ (0 ≤ n → n ≤ 5000 → (r.1.size : Int) = n) ∧ cu l r.2.1) := by
  simp only [spec_l01Text.f]
  have go : ∀ m : Int, m ≤ 5000 → EvP (fun k => spec_l01Text.j0 k m l i h) (fun r => (r.1.size : Int) ≤ 5000 ∧ (0 ≤ m → (r.1.size : Int) = m) ∧ cu l r.2.1) := by
    intro m hm
    refine EvP.succ ?_
    simp only [spec_l01Text.j0]
    have h := textP_l l m hm 5000 [] i h (by simp; omega) (by simp) hc
    simp only [List.length_nil] at h
    refine h.imp fun r hr => ⟨?_, fun h0 => ?_, hr.2⟩
    · rcases hr.1 with q | ⟨q1, q2⟩ <;> omega
    · rcases hr.1 with q | ⟨q1, q2⟩ <;> omega
  refine EvP.ite (fun c => (go 5000 (by omega)).imp fun r hr => ⟨hr.1, fun _ q => absurd q (by omega), hr.2.2⟩) (fun c => (go n (by omega)).imp fun r hr => ⟨hr.1, fun h0 _ => hr.2.1 h0, hr.2.2⟩)
def partsOk (x : List ByteArray) : Prop := ∀ b ∈ x, 1 ≤ b.size ∧ b.size ≤ 20
theorem partsP_l (l : List Int) (d : Nat) : ∀ (x : List ByteArray) (ci ch : Int), x.length ≤ 3 → 4 - x.length = d → partsOk x → cu l ci → EvP (fun k => spec_l11Parts.l0 k x (x.length : Int) l ci ch) (fun r => (r.1.length ≤ 3 ∧ partsOk r.1) ∧ cu l r.2.1) := by
  induction d with
  | zero => intro x ci ch h1 h2; omega
  | succ d ih =>
    intro x ci ch h1 h2 hp hc
    refine EvP.succ ?_
    simp only [spec_l11Parts.l0]
    refine EvP.bind (belowP l _ _ 4 (by omega) hc) fun y hy => EvP.ite (fun c => ?_) (fun c => EvP.ret ⟨⟨h1, hp⟩, hy.2⟩)
    refine EvP.bind (belowP l _ _ 20 (by omega) hy.2) fun z hz => ?_
    rw [w64 (n := 1 + z.1) (by omega) (by omega)]
    refine EvP.bind (textP l _ _ (1 + z.1) hz.2) fun q hq => EvP.yes (by omega) ?_
    rw [wnat x.length 4 (by omega) (by omega), show ((x.length + 1 : Nat) : Int) = ((x ++ [q.1]).length : Int) by simp]
    have hs := hq.2.1 (by omega) (by omega)
    refine ih _ _ _ (by simp; omega) (by simp; omega) ?_ hq.2.2
    intro b hb
    rcases List.mem_append.mp hb with hb | hb
    · exact hp b hb
    · rw [List.mem_singleton.mp hb]; omega
theorem partsP (l : List Int) (i h : Int) (hc : cu l i) : EvP (fun k => spec_l11Parts.f k l i h) (fun r => (r.1.length ≤ 3 ∧ partsOk r.1) ∧ cu l r.2.1) := by
  simp only [spec_l11Parts.f]
  exact partsP_l l 4 [] i h (by simp) (by simp) (fun b hb => absurd hb (by simp)) hc
theorem longP_l (n : Nat) (b : Int) (d : Nat) : ∀ (x : List Int) (i : Nat), x.length = n → n ≤ 1000 → i ≤ n → n - i = d → EvP (fun k => spec_l01Long.l0 k (n : Int) b x (i : Int)) (fun r => r.size = n) := by
  induction d with
  | zero =>
    intro x i hx hn hi hd
    refine EvP.succ ?_
    simp only [spec_l01Long.l0]
    refine EvP.no (by omega) (EvP.ret ?_)
    show (strOfNums x).size = n
    rw [← hx]; exact son_size x
  | succ d ih =>
    intro x i hx hn hi hd
    refine EvP.succ ?_
    simp only [spec_l01Long.l0]
    rw [wnat i n (by omega) (by omega)]
    exact EvP.yes (by omega) (EvP.yes (by omega) (EvP.yes (by omega) (ih _ (i + 1) (by simpa using hx) hn (by omega) (by omega))))
theorem longP (n : Int) (b : Int) (h0 : 0 ≤ n) (h1 : n ≤ 1000) : EvP (fun k => spec_l01Long.f k n b) (fun r => (r.size : Int) = n) := by
  obtain ⟨m, rfl⟩ : ∃ m : Nat, n = (m : Int) := ⟨n.toNat, by omega⟩
  simp only [spec_l01Long.f, Int.toNat_natCast]
  exact EvP.yes (by omega) (EvP.yes (by omega) ((longP_l m b m _ 0 (by simp) (by omega) (by omega) (by omega)).imp fun r hr => by omega))
theorem pickP (l : List Int) (i h : Int) (x : List ByteArray) (hx : 1 ≤ x.length) (hm : x.length ≤ 1000) (hs : ∀ b ∈ x, b.size ≤ 100) (hc : cu l i) : EvP (fun _ => spec_l01Pick.f l i h x) (fun r => r.1.size ≤ 100 ∧ cu l r.2.1) := by
  simp only [spec_l01Pick.f]
  obtain ⟨y, i', h', e, a, b, c⟩ := below_ok l i h (x.length : Int) (by omega) hc
  have hlt : y.toNat < x.length := by omega
  refine EvP.const (a := (rdOf ByteArray.empty x y, i', h')) (by rw [e]; simp only [Option.bind_some]; rw [if_pos a, if_pos b]) ⟨?_, c⟩
  show (rdOf ByteArray.empty x y).size ≤ 100
  rw [show rdOf ByteArray.empty x y = x[y.toNat] by simp [rdOf, hlt]]
  exact hs _ (List.getElem_mem hlt)
end Go.Proofs.Ythjigecaojaalaa.Q
