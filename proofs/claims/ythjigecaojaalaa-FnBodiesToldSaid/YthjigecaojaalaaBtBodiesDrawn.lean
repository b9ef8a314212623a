import Derived.Test.YthjigecaojaalaaBtBodyV
import Derived.Test.YthjigecaojaalaaBtDrawB
import Derived.Test.YthjigecaojaalaaBtChunk
import Derived.Test.YthjigecaojaalaaBtG54
namespace Go.Proofs.Ythjigecaojaalaa.Q
open Go.RowKit Go.Proofs.YthjigecaojaalaaW.PrintWords Go.Proofs.YthjigecaojaalaaW.PrintLast Go.Proofs.YthjigecaojaalaaW.PrintMore
theorem chunkF_size (l : List ByteArray) : ∀ acc : ByteArray, (chunkF l acc).1.size ≤ acc.size + 105 * l.length + 5 := by
  induction l with
  | nil => intro acc; simp only [chunkF, ByteArray.size_append]; show acc.size + 5 ≤ _; simp
  | cons p r ih =>
    intro acc
    rw [chunkF]
    by_cases c : 1 ≤ p.size ∧ p.size ≤ 99
    · rw [if_pos c]
      have h := ih (acc ++ chunk1 p)
      have h2 := chunk1_size p c.2
      rw [ByteArray.size_append] at h
      simp only [List.length_cons]; omega
    · rw [if_neg c]; show 0 ≤ _; omega
theorem chunkT_size (l : List ByteArray) (h : l.length ≤ 3) : (chunkT l).1.size ≤ 400 := by
  unfold chunkT
  rw [if_pos (by omega)]
  have := chunkF_size l ⟨#[]⟩
  have e : (⟨#[]⟩ : ByteArray).size = 0 := rfl
  omega
def tx (l : List Int) (r : ByteArray × Int × Int) : Prop := r.1.size ≤ 20000 ∧ cu l r.2.1
theorem ext_le (s : ByteArray) (a b : Nat) (h : b ≤ s.size) : (s.extract a b).size ≤ s.size := by rw [ext_size s a b h]; omega
theorem spoilt_j (l : List Int) (s : ByteArray) (hs : s.size ≤ 1000) (b : Bool) (i h : Int) (hc : cu l i) : EvP (fun k => spec_l02Spoilt.j0 k s b l i h) (tx l) := by
  refine EvP.succ ?_
  simp only [spec_l02Spoilt.j0]
  have stay : tx l (s, i, h) := ⟨by show s.size ≤ 20000; omega, hc⟩
  refine EvP.ite (fun _ => EvP.ite (fun c => ?_) (fun _ => EvP.ret stay)) (fun _ => EvP.ret stay)
  refine EvP.bind (belowP l _ _ (s.size : Int) (by omega) hc) fun y hy => EvP.yes (by omega) (EvP.yes (by omega) ?_)
  refine EvP.bind (textP l _ _ 1 hy.2) fun q hq => ?_
  have h1 := hq.2.1 (by omega) (by omega)
  rw [w64 (n := y.1 + 1) (by omega) (by omega)]
  have z1 : (s.extract 0 y.1.toNat).size ≤ s.size := ext_le s _ _ (by omega)
  have z2 : (s.extract (y.1 + 1).toNat s.size).size ≤ s.size := ext_le s _ _ (by omega)
  refine EvP.yes (by omega) (EvP.yes (by omega) (EvP.yes (by omega) (EvP.yes (by rw [ByteArray.size_append]; omega) (EvP.ret ⟨?_, hq.2.2⟩))))
  show ((s.extract 0 y.1.toNat ++ q.1) ++ s.extract (y.1 + 1).toNat s.size).size ≤ 20000
  rw [ByteArray.size_append, ByteArray.size_append]; omega
theorem spoiltP (l : List Int) (s : ByteArray) (hs : s.size ≤ 1000) (i h : Int) (hc : cu l i) : EvP (fun k => spec_l02Spoilt.f k l i h s) (tx l) := by
  simp only [spec_l02Spoilt.f]
  refine EvP.bind (belowP l _ _ 12 (by omega) hc) fun y hy => EvP.ite (fun _ => ?_) (fun _ => EvP.ite (fun _ => ?_) (fun _ => EvP.ite (fun _ => spoilt_j l s hs _ _ _ hy.2) (fun _ => spoilt_j l s hs _ _ _ hy.2)))
  · refine EvP.bind (textP l _ _ 1 hy.2) fun q hq => ?_
    have h1 := hq.2.1 (by omega) (by omega)
    exact EvP.yes (by omega) (EvP.ret ⟨by show (s ++ q.1).size ≤ 20000; rw [ByteArray.size_append]; omega, hq.2.2⟩)
  · rw [w64 (n := (s.size : Int) + 1) (by omega) (by omega)]
    refine EvP.bind (belowP l _ _ ((s.size : Int) + 1) (by omega) hy.2) fun z hz => EvP.yes (by omega) (EvP.yes (by omega) (EvP.ret ⟨?_, hz.2⟩))
    have := ext_le s 0 z.1.toNat (by omega)
    show (s.extract 0 z.1.toNat).size ≤ 20000
    omega
theorem body_l (l : List Int) (x4 : Int) (h4 : 0 ≤ x4 ∧ x4 < 200) (i h : Int) (hc : cu l i) (d : Nat) : ∀ (j : Nat) (s : ByteArray), s.size ≤ 1000 + 105 * j → j ≤ 5 → 5 - j = d → EvP (fun k => spec_l11Body.l0 k x4 s (j : Int) l i h) (tx l) := by
  have ht : 0 ≤ Int.tmod x4 2 ∧ Int.tmod x4 2 < 2 := by rw [Int.tmod_eq_emod_of_nonneg h4.1]; omega
  induction d with
  | zero =>
    intro j s hs hj hd
    refine EvP.succ ?_
    simp only [spec_l11Body.l0]
    rw [w64 (n := 4 + Int.tmod x4 2) (by omega) (by omega)]
    exact EvP.no (by omega) (EvP.ret ⟨by show s.size ≤ 20000; omega, hc⟩)
  | succ d ih =>
    intro j s hs hj hd
    refine EvP.succ ?_
    simp only [spec_l11Body.l0]
    rw [w64 (n := 4 + Int.tmod x4 2) (by omega) (by omega)]
    refine EvP.ite (fun c => ?_) (fun c => EvP.ret ⟨by show s.size ≤ 20000; omega, hc⟩)
    refine EvP.bind (longP 99 97 (by omega) (by omega)) fun q hq => ?_
    have z1 : ((⟨#[54, 51, 13, 10]⟩ : ByteArray) ++ q).size = 103 := by rw [ByteArray.size_append]; show 4 + q.size = 103; omega
    have z2 : (((⟨#[54, 51, 13, 10]⟩ : ByteArray) ++ q) ++ (⟨#[13, 10]⟩ : ByteArray)).size = 105 := by rw [ByteArray.size_append, z1]; rfl
    rw [wnat j 6 (by omega) (by omega)]
    exact EvP.yes (by omega) (EvP.yes (by omega) (EvP.yes (by omega) (ih (j + 1) _ (by rw [ByteArray.size_append, z2]; omega) (by omega) (by omega))))
theorem body_j (l : List Int) (x4 : Int) (h4 : 0 ≤ x4 ∧ x4 < 200) (s : ByteArray) (hs : s.size ≤ 1000) (x18 : Int) (b : Bool) (i h : Int) (hc : cu l i) : EvP (fun k => spec_l11Body.j0 k x4 s x18 b l i h) (tx l) := by
  refine EvP.succ ?_
  simp only [spec_l11Body.j0]
  rw [w64 (n := (s.size : Int) + 1) (by omega) (by omega), Int.tmod_eq_emod_of_nonneg h4.1, Int.tmod_eq_emod_of_nonneg h4.1]
  refine EvP.ite (fun _ => ?_) (fun _ => EvP.ite (fun _ => ?_) (fun _ => EvP.ite (fun _ => ?_) (fun _ => EvP.ite (fun _ => ?_) (fun _ => EvP.ite (fun _ => ?_) (fun _ => EvP.ret ⟨by show s.size ≤ 20000; omega, hc⟩)))))
  · have p1 : 0 ≤ x4 % ((s.size : Int) + 1) := Int.emod_nonneg _ (by omega)
    have p2 : x4 % ((s.size : Int) + 1) < (s.size : Int) + 1 := Int.emod_lt_of_pos _ (by omega)
    refine EvP.no (by omega) (EvP.yes p1 (EvP.yes (by omega) (EvP.ret ⟨?_, hc⟩)))
    have := ext_le s 0 (x4 % ((s.size : Int) + 1)).toNat (by omega)
    show (s.extract 0 (x4 % ((s.size : Int) + 1)).toNat).size ≤ 20000
    omega
  · exact EvP.bind (spoiltP l s hs _ _ hc) fun r hr => EvP.ret hr
  · exact EvP.yes (by omega) (EvP.ret ⟨by show (s ++ (⟨#[109, 111, 114, 101]⟩ : ByteArray)).size ≤ 20000; rw [ByteArray.size_append]; show s.size + 4 ≤ 20000; omega, hc⟩)
  · simp only [Option.bind_some]
    have p1 : 0 ≤ x4 % 7 ∧ x4 % 7 < 7 := by omega
    have hall : ∀ m : Fin 7, (rdOf ByteArray.empty ([(⟨#[48, 65, 13, 10, 48, 49, 50, 51, 52, 53, 54, 55, 56, 57, 13, 10, 48, 13, 10, 13, 10]⟩ : ByteArray), (⟨#[103, 13, 10]⟩ : ByteArray), (⟨#[49, 13, 10, 120, 10, 48, 13, 10]⟩ : ByteArray), (⟨#[]⟩ : ByteArray), (⟨#[54, 51, 13, 10]⟩ : ByteArray), (⟨#[49, 48, 48, 13, 10]⟩ : ByteArray), (⟨#[48, 13, 10, 120, 58, 32, 121, 13, 10, 13, 10]⟩ : ByteArray)] : List ByteArray) ((m.val : Nat) : Int)).size ≤ 20000 := by decide
    have hm := hall ⟨(x4 % 7).toNat, by omega⟩
    rw [show ((((⟨(x4 % 7).toNat, by omega⟩ : Fin 7).val : Nat)) : Int) = x4 % 7 from Int.toNat_of_nonneg p1.1] at hm
    exact EvP.yes p1.1 (EvP.yes p1.2 (EvP.ret ⟨hm, hc⟩))
  · exact body_l l x4 h4 i h hc 5 0 s (by omega) (by omega) (by omega)
theorem bodyP (l : List Int) (i h : Int) (hc : cu l i) : EvP (fun k => spec_l11Body.f k l i h) (tx l) := by
  simp only [spec_l11Body.f]
  refine EvP.bind (belowP l _ _ 10 (by omega) hc) fun a ha => EvP.bind (belowP l _ _ 200 (by omega) ha.2) fun b hb => EvP.bind (partsP l _ _ hb.2) fun p hp => EvP.bind (EvP.ev (chunk_spec p.1) (P := fun s => s.1.size ≤ 400) (chunkT_size p.1 hp.1.1)) fun s hs => ?_
  exact EvP.ite (fun _ => body_j l b.1 hb.1 s.1 (by omega) _ _ _ _ hp.2) (fun _ => body_j l b.1 hb.1 s.1 (by omega) _ _ _ _ hp.2)
theorem readP (l : List Int) (hl : l.length ≤ 4611686018427387904) : EvP (fun k => spec_DrawReadChunks.f k l) (fun t => t.size ≤ 20000) := by
  simp only [spec_DrawReadChunks.f]
  refine EvP.bind (newP l hl) fun c hc => ?_
  rw [hc.1]
  exact EvP.bind (bodyP l _ _ hc.2) fun r hr => EvP.ret hr.1
theorem chunks_l (l : List Int) (d : Nat) : ∀ (x : List ByteArray) (i h : Int), x.length ≤ 11 → 12 - x.length = d → cu l i → EvP (fun k => spec_DrawChunkText.l0 k x l i h) (fun _ => True) := by
  induction d with
  | zero => intro x i h h1 h2; omega
  | succ d ih =>
    intro x i h h1 h2 hc
    refine EvP.succ ?_
    simp only [spec_DrawChunkText.l0]
    refine EvP.bind (belowP l _ _ 2 (by omega) hc) fun y hy => ?_
    rw [w64 (n := 10 + y.1) (by omega) (by omega)]
    exact EvP.ite (fun c => EvP.yes (by omega) (ih _ _ _ (by simp; omega) (by simp; omega) hy.2)) (fun _ => EvP.ret trivial)
theorem chunksP (l : List Int) (hl : l.length ≤ 4611686018427387904) : EvP (fun k => spec_DrawChunkText.f k l) (fun _ => True) := by
  simp only [spec_DrawChunkText.f]
  refine EvP.bind (newP l hl) fun c hc => ?_
  rw [hc.1]
  refine EvP.bind (partsP l _ _ hc.2) fun p hp => EvP.bind (belowP l _ _ 8 (by omega) hp.2) fun y hy => EvP.ite (fun _ => EvP.yes (by omega) (EvP.ret trivial)) (fun _ => EvP.ite (fun _ => ?_) (fun _ => EvP.ite (fun _ => ?_) (fun _ => EvP.ret trivial)))
  · refine EvP.bind (belowP l _ _ 2 (by omega) hy.2) fun z hz => ?_
    rw [w64 (n := 99 + z.1) (by omega) (by omega)]
    exact EvP.bind (longP _ 97 (by omega) (by omega)) fun _ _ => EvP.yes (by omega) (EvP.ret trivial)
  · exact chunks_l l _ p.1 _ _ (by omega) rfl hy.2
def fOk (x : List S45) : Prop := x.length ≤ 10 ∧ ∀ f ∈ x, f.f1.size ≤ 9223372036854775807
theorem fieldP (l : List Int) (i h : Int) (hc : cu l i) : EvP (fun _ => spec_l09FieldOf.f l i h) (fun r => r.2.1.size ≤ 100 ∧ cu l r.2.2.1) := by
  simp only [spec_l09FieldOf.f]
  refine EvP.bind (pickP l _ _ _ (by decide) (by decide) (by decide) hc) fun a ha => EvP.bind (pickP l _ _ _ (by decide) (by decide) (by decide) ha.2) fun b hb => EvP.ret ⟨hb.1, hb.2⟩
theorem head_l (l : List Int) (a : ByteArray) (d : Nat) : ∀ (x : List S45) (j : Nat) (i h : Int), x.length = j → j ≤ 3 → 4 - j = d → fOk x → cu l i → EvP (fun k => spec_l09Head.l0 k (j : Int) l i h a x) (fun r => fOk r.2.1 ∧ cu l r.2.2.1) := by
  induction d with
  | zero => intro x j i h h0 h1 h2; omega
  | succ d ih =>
    intro x j i h h0 h1 h2 hf hc
    refine EvP.succ ?_
    simp only [spec_l09Head.l0]
    refine EvP.bind (belowP l _ _ 4 (by omega) hc) fun y hy => EvP.ite (fun c => ?_) (fun _ => EvP.ret ⟨hf, hy.2⟩)
    rw [wnat j 4 (by omega) (by omega)]
    refine EvP.bind (fieldP l _ _ hy.2) fun q hq => EvP.yes (by omega) (ih _ (j + 1) _ _ (by simp; omega) (by omega) (by omega) ⟨by simp; omega, fun f hm => ?_⟩ hq.2)
    rcases List.mem_append.mp hm with hm | hm
    · exact hf.2 f hm
    · rw [List.mem_singleton.mp hm]; have := hq.1; show q.2.1.size ≤ _; omega
theorem headP (l : List Int) (i h : Int) (hc : cu l i) : EvP (fun k => spec_l09Head.f k l i h) (fun r => fOk r.2.1 ∧ cu l r.2.2.1) := by
  simp only [spec_l09Head.f]
  exact EvP.bind (pickP l _ _ _ (by decide) (by decide) (by decide) hc) fun a ha => head_l l a.1 4 [] 0 _ _ rfl (by omega) (by omega) ⟨by simp, fun f hf => absurd hf (by simp)⟩ ha.2
def bo (r : ByteArray × List S45 × ByteArray) : Prop := fOk r.2.1 ∧ r.2.2.size ≤ 20000
theorem drawBody_1 (x6 : Int) (h6 : 0 ≤ x6 ∧ x6 < 60) (t : ByteArray) (ht : t.size ≤ 20000) (x19 : Int) (b : Bool) (a : ByteArray) (x : List S45) (hx : fOk x) : EvP (fun k => spec_DrawBodyOf.j1 k x6 t x19 b a x) bo := by
  refine EvP.succ ?_
  simp only [spec_DrawBodyOf.j1]
  refine EvP.ite (fun _ => ?_) (fun _ => EvP.ite (fun _ => ?_) (fun _ => EvP.ret ⟨hx, ht⟩))
  · obtain ⟨s, es, hs, _⟩ := dec_ev x6 h6.1 (by omega)
    refine EvP.bind (EvP.ev es (P := fun s => s.size ≤ 3) hs.2.1) fun q hq => EvP.ret ⟨⟨by simp, fun f hf => ?_⟩, ht⟩
    rw [List.mem_singleton.mp hf]; show q.size ≤ _; omega
  · simp only [Option.bind_some]
    rw [Int.tmod_eq_emod_of_nonneg h6.1]
    have p1 : 0 ≤ x6 % 4 ∧ x6 % 4 < 4 := by omega
    have hall : ∀ m : Fin 4, (rdOf ByteArray.empty ([(⟨#[53]⟩ : ByteArray), (⟨#[48, 53]⟩ : ByteArray), (⟨#[54]⟩ : ByteArray), (⟨#[120]⟩ : ByteArray)] : List ByteArray) ((m.val : Nat) : Int)).size ≤ 3 := by decide
    have hm := hall ⟨(x6 % 4).toNat, by omega⟩
    rw [show ((((⟨(x6 % 4).toNat, by omega⟩ : Fin 4).val : Nat)) : Int) = x6 % 4 from Int.toNat_of_nonneg p1.1] at hm
    refine EvP.yes p1.1 (EvP.yes p1.2 (EvP.ret ⟨⟨by simp, fun f hf => ?_⟩, ht⟩))
    rcases List.mem_cons.mp hf with rfl | hf
    · show (1 : Nat) ≤ _; omega
    · rw [List.mem_singleton.mp hf]; dsimp only; omega
theorem drawBody_0 (x6 : Int) (h6 : 0 ≤ x6 ∧ x6 < 60) (t : ByteArray) (ht : t.size ≤ 20000) (x19 : Int) (b : Bool) (a : ByteArray) (x : List S45) (hx : fOk x) : EvP (fun k => spec_DrawBodyOf.j0 k x6 t x19 b a x) bo := by
  refine EvP.succ ?_
  simp only [spec_DrawBodyOf.j0]
  refine EvP.ite (fun _ => EvP.ret ⟨⟨by simp, fun f hf => ?_⟩, ht⟩) (fun _ => EvP.ite (fun _ => drawBody_1 x6 h6 t ht _ _ a x hx) (fun _ => drawBody_1 x6 h6 t ht _ _ a x hx))
  rw [List.mem_singleton.mp hf]; show (7 : Nat) ≤ _; omega
theorem drawBodyP (l : List Int) (hl : l.length ≤ 4611686018427387904) : EvP (fun k => spec_DrawBodyOf.f k l) bo := by
  simp only [spec_DrawBodyOf.f]
  refine EvP.bind (newP l hl) fun c hc => ?_
  rw [hc.1]
  refine EvP.bind (belowP l _ _ 10 (by omega) hc.2) fun a ha => EvP.bind (belowP l _ _ 60 (by omega) ha.2) fun b hb => EvP.bind (bodyP l _ _ hb.2) fun t ht => EvP.bind (headP l _ _ ht.2) fun x hx => ?_
  exact EvP.ite (fun _ => drawBody_0 b.1 hb.1 t.1 ht.1 _ _ _ _ hx.1) (fun _ => EvP.ite (fun _ => drawBody_0 b.1 hb.1 t.1 ht.1 _ _ _ _ hx.1) (fun _ => drawBody_0 b.1 hb.1 t.1 ht.1 _ _ _ _ hx.1))
end Go.Proofs.Ythjigecaojaalaa.Q
