import Derived.Test.YtdbhpcekjcohdaaLoDraw
import Derived.Test.YtdbhpcekjcohdaaLoEpPinS
import Derived.Test.YtdbhpcekjcohdaaLoEpUnpS
import Derived.Test.YtdbhpcekjcohdaaLoEpRetS
import Derived.Test.YtdbhpcekjcohdaaLoEpAdvS
import Derived.Test.YtdbhpcekjcohdaaLoEpFreeS
import Derived.Test.YtdbhpcekjcohdaaLoG35
namespace Go.Proofs.Ytdbhpcekjcohdaa.Q
open Go.RowKit Go.Proofs.YtdbhpcekjcohdaaW.PrintWords Go.Proofs.YtdbhpcekjcohdaaW.PrintLast Go.Proofs.YtdbhpcekjcohdaaW.PrintMore
theorem epnew (n : Int) (h0 : 1 ≤ n) (h1 : n ≤ 4) : spec_EpochsNew.f n = some (2, List.replicate n.toNat 0, []) := by
  simp only [spec_EpochsNew.f]; rw [if_neg (by omega), if_neg (by omega), if_pos (by omega), if_pos (by omega)]
theorem rt_len {B a : Int} {l1 : List Int} {l2 : List S57} (h : Rt B a l1 l2) : l1.length ≤ 4 ∧ l2.length ≤ 40 := by
  obtain ⟨_, _, h4, h5⟩ := (okEp_iff _ _ _).mp h.1
  exact ⟨h4.2, h5⟩
def EpR (B : Int) (l : List Int) (r : Int × List Int × List S57 × Int × Int) : Prop := Rt B r.1 r.2.1 r.2.2.1 ∧ cu l r.2.2.2.1
theorem epochsP_l (l : List Int) (d : Nat) : ∀ (i : Nat) (ci ch a : Int) (l1 : List Int) (l2 : List S57), i ≤ 20 → 20 - i = d → cu l ci → Rt (2 + (i : Int)) a l1 l2 →
    EvP (fun k => spec_l08Epochs.l0 k (i : Int) l ci ch a l1 l2) (EpR 22 l) := by
  induction d with
  | zero =>
    intro i ci ch a l1 l2 hi hd hc hr
    refine EvP.succ ?_
    simp only [spec_l08Epochs.l0]
    refine EvP.bind (belowP l ci ch 20 (by omega) hc) fun x hx => EvP.no (by omega) (EvP.ret ⟨rt_up hr (by omega), hx.2⟩)
  | succ d ih =>
    intro i ci ch a l1 l2 hi hd hc hr
    obtain ⟨n1, n2⟩ := rt_len hr
    refine EvP.succ ?_
    simp only [spec_l08Epochs.l0]
    rw [wnat i 20 (by omega) (by omega)]
    refine EvP.bind (belowP l ci ch 20 (by omega) hc) fun x hx => EvP.ite (fun c => ?_) (fun c => EvP.ret ⟨rt_up hr (by omega), hx.2⟩)
    refine EvP.bind (belowP l _ _ 4 (by omega) hx.2) fun y hy => EvP.bind (belowP l _ _ 5 (by omega) hy.2) fun z hz => ?_
    have go : ∀ (a' : Int) (l1' : List Int) (l2' : List S57) (ci' ch' : Int), cu l ci' → Rt (2 + ((i + 1 : Nat) : Int)) a' l1' l2' → EvP (fun k => spec_l08Epochs.l0 k ((i + 1 : Nat) : Int) l ci' ch' a' l1' l2') (EpR 22 l) :=
      fun a' l1' l2' ci' ch' h1 h2 => ih (i + 1) ci' ch' a' l1' l2' (by omega) (by omega) h1 h2
    refine EvP.ite (fun _ => ?_) (fun _ => EvP.ite (fun _ => ?_) (fun _ => EvP.ite (fun _ => ?_) (fun _ => EvP.ite (fun _ => ?_) (fun _ => ?_))))
    · exact EvP.bind (EvP.ev (P := fun r => Rt (2 + ((i + 1 : Nat) : Int)) r.1 r.2.1 r.2.2.1) (pin_spec a l1 l2 y.1 (by omega) (by omega)) (rt_up (rt_pin y.1 hr) (by omega))) fun r h => go _ _ _ _ _ hz.2 h
    · exact EvP.bind (EvP.ev (P := fun r => Rt (2 + ((i + 1 : Nat) : Int)) r.1 r.2.1 r.2.2.1) (unp_spec a l1 l2 y.1 (by omega) (by omega)) (rt_up (rt_unp y.1 hr) (by omega))) fun r h => go _ _ _ _ _ hz.2 h
    · refine EvP.bind (belowP l _ _ 9 (by omega) hz.2) fun u hu => ?_
      exact EvP.bind (EvP.ev (P := fun r => Rt (2 + ((i + 1 : Nat) : Int)) r.1 r.2.1 r.2.2.1) (ret_spec a l1 l2 _ (by omega) (by omega)) (rt_up (rt_ret _ hr) (by omega))) fun r h => go _ _ _ _ _ hu.2 h
    · exact EvP.bind (EvP.ev (P := fun r => Rt (2 + ((i + 1 : Nat) : Int)) r.1 r.2.1 r.2.2.1) (adv_spec a l1 l2 (by omega) (by omega)) (rt_up (rt_adv hr (by omega)) (by omega))) fun r h => go _ _ _ _ _ hz.2 h
    · exact EvP.bind (EvP.ev (P := fun r => Rt (2 + ((i + 1 : Nat) : Int)) r.1 r.2.1 r.2.2.1) (free_spec a l1 l2 (by omega) (by omega)) (rt_up (rt_free hr) (by omega))) fun r h => go _ _ _ _ _ hz.2 h
theorem epochsP (l : List Int) (ci ch : Int) (hc : cu l ci) : EvP (fun k => spec_l08Epochs.f k l ci ch) (EpR 22 l) := by
  simp only [spec_l08Epochs.f]
  refine EvP.bind (belowP l ci ch 4 (by omega) hc) fun x hx => ?_
  rw [w64 (n := 1 + x.1) (by omega) (by omega)]
  refine EvP.bind (EvP.const (P := fun r => Rt (2 + ((0 : Nat) : Int)) r.1 r.2.1 r.2.2) (epnew (1 + x.1) (by omega) (by omega)) ?_) fun r hr => epochsP_l l 20 0 _ _ _ _ _ (by omega) (by omega) hx.2 hr
  exact ⟨(okEp_iff _ _ _).mpr ⟨⟨fun p hp => .inl (List.eq_of_mem_replicate hp), fun g hg => absurd hg (by simp)⟩, by omega, by simp; omega, by simp⟩, by dsimp only; omega⟩
theorem drawEpochsP (l : List Int) (hl : l.length ≤ 4611686018427387904) : EvP (fun k => spec_DrawEpochs.f k l) (fun r => Rt 22 r.1 r.2.1 r.2.2) := by
  simp only [spec_DrawEpochs.f]
  refine EvP.bind (newP l hl) fun c hc => ?_
  rw [hc.1]
  exact EvP.bind (epochsP l _ _ hc.2) fun r hr => EvP.ret hr.1
end Go.Proofs.Ytdbhpcekjcohdaa.Q
