import Derived.Test.YtdbhpcekjcohdaaLoEpDraw
import Derived.Test.YtdbhpcekjcohdaaLoPlaces
import Derived.Test.YtdbhpcekjcohdaaLoEpUnpI
import Derived.Test.YtdbhpcekjcohdaaLoEpPinI
import Derived.Test.YtdbhpcekjcohdaaLoEpRetI
import Derived.Test.YtdbhpcekjcohdaaLoEpAdvI
import Derived.Test.YtdbhpcekjcohdaaLoEpFreeI
import Derived.Test.YtdbhpcekjcohdaaLoG37
namespace Go.Proofs.Ytdbhpcekjcohdaa.Q
open Go.RowKit Go.Proofs.YtdbhpcekjcohdaaW.PrintWords Go.Proofs.YtdbhpcekjcohdaaW.PrintLast Go.Proofs.YtdbhpcekjcohdaaW.PrintMore
theorem in_l (l : List Int) (x : Int) (hl : l.length ≤ 9223372036854775807) (d : Nat) : ∀ i : Nat, i ≤ l.length → l.length - i = d → Ev (fun k => laws_in.l0 k l x (i : Int)) (decide (x ∈ l.drop i)) := by
  induction d with
  | zero =>
    intro i hi hd
    refine Ev.succ ?_
    simp only [laws_in.l0]
    rw [List.drop_eq_nil_of_le (by omega)]
    exact Ev.no (by omega) (Ev.now _)
  | succ d ih =>
    intro i hi hd
    have hlt : i < l.length := by omega
    refine Ev.succ ?_
    simp only [laws_in.l0]
    rw [rd_get l i hlt, wnat i _ hlt hl, drop_get l i hlt]
    refine Ev.yes (by omega) (Ev.yes (by omega) ?_)
    by_cases c : l[i] = x
    · rw [show decide (x ∈ l[i] :: l.drop (i + 1)) = true from decide_eq_true (List.mem_cons.mpr (.inl c.symm))]
      exact Ev.yes c (Ev.now _)
    · rw [show decide (x ∈ l[i] :: l.drop (i + 1)) = decide (x ∈ l.drop (i + 1)) from by rw [decide_eq_decide]; exact ⟨fun h => (List.mem_cons.mp h).resolve_left (fun h => c h.symm), fun h => List.mem_cons.mpr (.inr h)⟩]
      exact Ev.no c (ih (i + 1) (by omega) (by omega))
theorem in_ev (l : List Int) (x : Int) (hl : l.length ≤ 9223372036854775807) : Ev (fun k => laws_in.f k l x) (decide (x ∈ l)) := in_l l x hl l.length 0 (by omega) (by omega)
/-- Who looks, looks since epoch n; node 20 was retired then. -/
structure Lk (n a : Int) (l1 : List Int) (l2 : List S57) : Prop where
  ok : okEp a l1 l2 = true
  n0 : 2 ≤ n
  n1 : n ≤ 22
  now : a = n ∨ a = n + 1
  pins : ∃ zs, l1 = (n + 1) :: zs ∧ ∀ z ∈ zs, z = 0
  has : ∃ g ∈ l2, g.f0 = 20
  only : ∀ g ∈ l2, g.f0 = 20 → g.f1 = n
theorem Lk.adv {n a : Int} {l1 : List Int} {l2 : List S57} (h : Lk n a l1 l2) : ∃ b, advF a l1 l2 = (n + 1, l1, l2, b) ∧ okEp (n + 1) l1 l2 = true := by
  obtain ⟨zs, hz, hz0⟩ := h.pins
  have n0 := h.n0; have n1 := h.n1
  rcases h.now with e | e
  · have hm : ¬ a ∈ l1 := by
      rw [hz]; intro hm
      rcases List.mem_cons.mp hm with hm | hm
      · omega
      · have := hz0 a hm; omega
    have hr := rt_adv (B := 22) ⟨h.ok, by omega⟩ (by omega)
    have e2 : advF a l1 l2 = (n + 1, l1, l2, true) := by
      unfold advF; rw [if_pos ⟨⟨h.ok, by omega⟩, hm⟩, w64 (by omega) (by omega), e]
    rw [e2] at hr
    exact ⟨true, e2, hr.1⟩
  · have hm : a ∈ l1 := by rw [hz, e]; exact List.mem_cons_self
    refine ⟨false, ?_, by rw [← e]; exact h.ok⟩
    unfold advF; rw [if_neg (fun hc => hc.2 hm), e]
theorem Lk.free {n : Int} {l1 : List Int} {l2 : List S57} (n0 : 2 ≤ n) (n1 : n ≤ 22) (ok : okEp (n + 1) l1 l2 = true) (pins : ∃ zs, l1 = (n + 1) :: zs ∧ ∀ z ∈ zs, z = 0) (has : ∃ g ∈ l2, g.f0 = 20) (only : ∀ g ∈ l2, g.f0 = 20 → g.f1 = n) :
    ∃ l2' fr, freeF (n + 1) l1 l2 = (n + 1, l1, l2', fr) ∧ ¬ (20 : Int) ∈ fr ∧ Lk n (n + 1) l1 l2' := by
  have hg : ∀ g ∈ l2, g.f0 = 20 → gonB (n + 1) g = false := fun g hg h20 => by
    have := only g hg h20
    unfold gonB; rw [w64 (by omega) (by omega)]; exact decide_eq_false (by omega)
  have hr := rt_free (B := 23) ⟨ok, by omega⟩
  refine ⟨_, _, if_pos ok, fun hm => ?_, ?_⟩
  · obtain ⟨g, hgm, h20⟩ := List.mem_map.mp hm
    obtain ⟨h1, h2⟩ := List.mem_filter.mp hgm
    rw [hg g h1 h20] at h2; cases h2
  · have hok := hr.1
    rw [show freeF (n + 1) l1 l2 = (n + 1, l1, l2.filter (fun g => !gonB (n + 1) g), (l2.filter (gonB (n + 1))).map S57.f0) from if_pos ok] at hok
    obtain ⟨g, hg1, hg2⟩ := has
    exact ⟨hok, n0, n1, .inr rfl, pins, ⟨g, List.mem_filter.mpr ⟨hg1, by rw [hg g hg1 hg2]; rfl⟩, hg2⟩, fun g h => only g (List.mem_filter.mp h).1⟩
theorem looks_end (a : Int) (l1 : List Int) (l2 : List S57) (ok : okEp a l1 l2 = true) (ha : a ≤ 23) (hz : ∀ p ∈ l1, p = 0) (has : ∃ g ∈ l2, g.f0 = 20) : Ev (fun k => laws_FnLooks.l2 k true 0 a l1 l2) true := by
  obtain ⟨⟨h1, h2⟩, h3, h4, h5⟩ := (okEp_iff _ _ _).mp ok
  have okb : ∀ b : Int, a ≤ b → b ≤ 26 → okEp b l1 l2 = true := fun b b0 b1 => (okEp_iff _ _ _).mpr ⟨⟨fun p hp => .inl (hz p hp), fun g hg => ⟨(h2 g hg).1, (h2 g hg).2.1, by have := (h2 g hg).2.2; omega⟩⟩, by omega, h4, h5⟩
  have step : ∀ b : Int, a ≤ b → b ≤ 25 → advF b l1 l2 = (b + 1, l1, l2, true) := fun b b0 b1 => by
    unfold advF; rw [if_pos ⟨⟨okb b b0 (by omega), by omega⟩, fun hm => by have := hz b hm; omega⟩, w64 (by omega) (by omega)]
  have r1 := adv_impl a l1 l2 (by omega) (by omega)
  rw [step a (by omega) (by omega)] at r1
  have r2 := adv_impl (a + 1) l1 l2 (by omega) (by omega)
  rw [step (a + 1) (by omega) (by omega)] at r2
  have hg : ∀ g ∈ l2, gonB (a + 1 + 1) g = true := fun g hg => by
    have := (h2 g hg).2.2
    unfold gonB; rw [w64 (by omega) (by omega)]; exact decide_eq_true (by omega)
  have r3 := free_impl (a + 1 + 1) l1 l2 (by omega) (by omega)
  rw [show freeF (a + 1 + 1) l1 l2 = (a + 1 + 1, l1, l2.filter (fun g => !gonB (a + 1 + 1) g), (l2.filter (gonB (a + 1 + 1))).map S57.f0) from if_pos (okb _ (by omega) (by omega)), List.filter_eq_self.mpr hg, List.filter_eq_nil_iff.mpr (fun g h => by simp [hg g h])] at r3
  have ok0 : okEp (a + 1 + 1) l1 [] = true := (okEp_iff _ _ _).mpr ⟨⟨fun p hp => .inl (hz p hp), fun g hg => absurd hg (by simp)⟩, by omega, h4, by simp⟩
  have r4 := free_impl (a + 1 + 1) l1 [] (by omega) (by simp)
  rw [show freeF (a + 1 + 1) l1 [] = (a + 1 + 1, l1, [], []) from if_pos ok0] at r4
  refine Ev.succ ?_
  simp only [laws_FnLooks.l2]
  refine Ev.yes (by omega) (Ev.bind r1 (Ev.succ ?_))
  simp only [laws_FnLooks.l2]
  refine Ev.yes (by unfold wrap64; omega) (Ev.bind r2 (Ev.succ ?_))
  simp only [laws_FnLooks.l2]
  refine Ev.no (by unfold wrap64; omega) (Ev.bind r3 (Ev.bind r4 (Ev.yes trivial (Ev.bind (in_ev _ 20 (by rw [List.length_map]; omega)) (Ev.yes ?_ (Ev.bind (in_ev _ 20 (by simp)) (Ev.no (by simp) ?_)))))))
  · obtain ⟨g, hg1, hg2⟩ := has
    exact decide_eq_true (List.mem_map.mpr ⟨g, hg1, hg2⟩)
  · exact Ev.now _
theorem looks_l (x4 : List Int) (N : Int) (hN : N = wrap64 (1 + Int.tmod (rd x4 0) 9)) (hN9 : N ≤ 9) (hx : 0 < x4.length) (n : Int) (l1 : List Int) (d : Nat) : ∀ (i : Nat) (a : Int) (l2 : List S57), N - (i : Int) ≤ d → i ≤ 9 → Lk n a l1 l2 → Ev (fun k => laws_FnLooks.l1 k x4 (i : Int) a l1 l2) true := by
  have fin : ∀ (i : Nat) (a : Int) (l2 : List S57), ¬ (i : Int) < N → Lk n a l1 l2 → Ev (fun k => laws_FnLooks.l1 k x4 (i : Int) a l1 l2) true := fun i a l2 hi h => by
    obtain ⟨zs, hz, hz0⟩ := h.pins
    have n0 := h.n0; have n1 := h.n1; have nw := h.now
    obtain ⟨⟨h1, h2⟩, h3, h4, h5⟩ := (okEp_iff _ _ _).mp h.ok
    refine Ev.succ ?_
    simp only [laws_FnLooks.l1]
    rw [← hN]
    refine Ev.yes (by omega) (Ev.no hi ?_)
    have hr := rt_unp (B := 23) 0 ⟨h.ok, by omega⟩
    have e : unpF a l1 l2 0 = (a, l1.set 0 0, l2, true) := by
      unfold unpF
      rw [if_pos ⟨⟨h.ok, by omega, by omega⟩, by rw [hz]; simp [rd]; omega⟩]; rfl
    have r1 := unp_impl a l1 l2 0 (by omega) (by omega)
    rw [e] at r1 hr
    refine Ev.bind r1 (looks_end a _ l2 hr.1 (by omega) (fun p hp => ?_) h.has)
    rw [hz] at hp
    simp only [List.set_cons_zero] at hp
    rcases List.mem_cons.mp hp with hp | hp
    · exact hp
    · exact hz0 p hp
  induction d with
  | zero => intro i a l2 hd hi h; exact fin i a l2 (by omega) h
  | succ d ih =>
    intro i a l2 hd hi h
    by_cases c : (i : Int) < N
    · have n0 := h.n0; have n1 := h.n1; have nw := h.now
      obtain ⟨⟨h1, h2⟩, h3, h4, h5⟩ := (okEp_iff _ _ _).mp h.ok
      obtain ⟨b, ea, oka⟩ := h.adv
      obtain ⟨l2', fr, ef, hfr, h'⟩ := Lk.free n0 n1 oka h.pins h.has h.only
      have r1 := adv_impl a l1 l2 (by omega) (by omega)
      rw [ea] at r1
      have r2 := free_impl (n + 1) l1 l2 (by omega) (by omega)
      have hfl : fr.length ≤ 40 := by
        have e2 := ef
        rw [show freeF (n + 1) l1 l2 = (n + 1, l1, l2.filter (fun g => !gonB (n + 1) g), (l2.filter (gonB (n + 1))).map S57.f0) from if_pos oka] at e2
        injection e2 with _ e2; injection e2 with _ e2; injection e2 with _ e2
        rw [← e2, List.length_map]
        exact Nat.le_trans (List.length_filter_le _ _) h5
      rw [ef] at r2
      obtain ⟨⟨_, _⟩, _, h4', h5'⟩ := (okEp_iff _ _ _).mp h'.ok
      have r3 := impl_ok (n + 1) l1 l2' (by omega) (by omega)
      rw [h'.ok] at r3
      refine Ev.succ ?_
      simp only [laws_FnLooks.l1]
      rw [← hN, wnat i 10 (by omega) (by omega)]
      refine Ev.yes (by omega) (Ev.yes c (Ev.bind r1 (Ev.bind r2 (Ev.bind (in_ev fr 20 (by omega)) (Ev.no (by simpa using hfr) (Ev.bind r3 (Ev.yes rfl ?_)))))))
      exact ih (i + 1) _ _ (by omega) (by omega) h'
    · exact fin i a l2 c h
theorem looks_mid (p : List Int) (hp : Pl p) (a : Int) (l1 : List Int) (l2 : List S57) (h : Rt 22 a l1 l2) (hz : ∀ x ∈ l1, x = 0) (k0 : Nat → Option Bool)
    (hk : ∀ k, k0 k = (impl_PinLook.f k a l1 l2 0).bind fun bt937 => ((impl_RetireNode.f k bt937.1 bt937.2.1 bt937.2.2.1 20).bind fun bt945 => (if bt937.2.2.2 = true then (laws_FnLooks.j1 k p bt945.2.2.2 (!bt945.2.2.2) bt945.1 bt945.2.1 bt945.2.2.1) else (laws_FnLooks.j1 k p bt945.2.2.2 true bt945.1 bt945.2.1 bt945.2.2.1)))) : Ev k0 true := by
  obtain ⟨⟨h1, h2⟩, h3, h4, h5⟩ := (okEp_iff _ _ _).mp h.1
  have hb := h.2
  obtain ⟨z, zs, rfl⟩ : ∃ z zs, l1 = z :: zs := by cases l1 with | nil => simp at h4 | cons z zs => exact ⟨z, zs, rfl⟩
  obtain rfl := hz z List.mem_cons_self
  have r1 := pin_impl a (0 :: zs) l2 0 (by omega) (by omega)
  have hr := rt_pin 0 h
  have e : pinF a (0 :: zs) l2 0 = (a, (a + 1) :: zs, l2, true) := by
    unfold pinF
    rw [if_pos ⟨⟨h.1, by omega, by omega⟩, by simp [rd]⟩, w64 (by omega) (by omega)]; rfl
  rw [e] at r1 hr
  have hr' : okEp a ((a + 1) :: zs) l2 = true := hr.1
  have hlen : ((a + 1) :: zs).length ≤ 4 := h4.2
  have r2 := ret_impl a ((a + 1) :: zs) l2 20 (by omega) (by omega)
  refine Ev.congr hk (Ev.bind r1 (Ev.bind r2 (Ev.yes rfl (Ev.succ ?_))))
  by_cases c : ((okEp a ((a + 1) :: zs) l2 = true ∧ (1 ≤ (20 : Int) ∧ (20 : Int) ≤ 20)) ∧ ¬ l2.length = 40 ∧ ∀ g ∈ l2, ¬ g.f0 = 20)
  · have er : retF a ((a + 1) :: zs) l2 20 = (a, (a + 1) :: zs, l2 ++ [⟨20, a⟩], true) := if_pos c
    have hrr := rt_ret 20 hr
    rw [er] at hrr ⊢
    simp only [laws_FnLooks.j1]
    refine Ev.no (by simp) ?_
    refine looks_l p _ rfl ?_ (by rw [hp.1]; omega) a _ 20 0 a _ ?_ (by omega) ⟨hrr.1, by omega, by omega, .inl rfl, ⟨zs, rfl, fun z hz' => hz z (List.mem_cons_of_mem _ hz')⟩, ⟨⟨20, a⟩, by simp, rfl⟩, fun g hg h20 => ?_⟩
    · have t1 : Int.tmod (rd p 0) 9 < 9 := Int.tmod_lt_of_pos _ (by omega)
      have t2 : -9 < Int.tmod (rd p 0) 9 := by rw [← Int.neg_lt_neg_iff, Int.neg_neg, ← Int.neg_tmod]; exact Int.tmod_lt_of_pos _ (by omega)
      rw [w64 (by omega) (by omega)]; omega
    · have t1 : Int.tmod (rd p 0) 9 < 9 := Int.tmod_lt_of_pos _ (by omega)
      have t2 : -9 < Int.tmod (rd p 0) 9 := by rw [← Int.neg_lt_neg_iff, Int.neg_neg, ← Int.neg_tmod]; exact Int.tmod_lt_of_pos _ (by omega)
      rw [w64 (by omega) (by omega)]; omega
    · rcases List.mem_append.mp hg with hg | hg
      · exact absurd h20 (c.2.2 g hg)
      · rw [List.mem_singleton.mp hg]
  · have er : retF a ((a + 1) :: zs) l2 20 = (a, (a + 1) :: zs, l2, false) := if_neg c
    rw [er]
    simp only [laws_FnLooks.j1]
    have r3 := impl_ok a ((a + 1) :: zs) l2 (by omega) (by omega)
    rw [hr'] at r3
    refine Ev.yes rfl (Ev.no (by simp) (Ev.yes ?_ (Ev.bind r3 (Ev.now _))))
    cases l2 with
    | nil => exact absurd ⟨⟨hr', by omega, by omega⟩, by simp, fun g hg => absurd hg (by simp)⟩ c
    | cons g gs => simp
theorem looks_unpin (p : List Int) (hp : Pl p) (d : Nat) : ∀ (i : Nat) (a : Int) (l1 : List Int) (l2 : List S57), i ≤ l1.length → l1.length - i = d → Rt 22 a l1 l2 → (∀ j, j < i → l1[j]? = some 0) → Ev (fun k => laws_FnLooks.l0 k p (i : Int) a l1 l2) true := by
  induction d with
  | zero =>
    intro i a l1 l2 hi hd h hz
    refine Ev.succ ?_
    refine looks_mid p hp a l1 l2 h (fun x hx => ?_) _ (fun k => by simp only [laws_FnLooks.l0]; rw [if_neg (by omega)])
    obtain ⟨j, hj, rfl⟩ := List.mem_iff_getElem.mp hx
    have := hz j (by omega)
    rw [List.getElem?_eq_getElem hj] at this
    exact Option.some.inj this
  | succ d ih =>
    intro i a l1 l2 hi hd h hz
    obtain ⟨n1, n2⟩ := rt_len h
    have hlt : i < l1.length := by omega
    refine Ev.succ ?_
    simp only [laws_FnLooks.l0]
    rw [wnat i _ hlt (by omega)]
    refine Ev.yes (by omega) (Ev.bind (unp_impl a l1 l2 (i : Int) (by omega) (by omega)) ?_)
    have hr := rt_unp (i : Int) h
    have e : (unpF a l1 l2 (i : Int)).2.1 = l1.set i 0 := by
      unfold unpF
      split
      · rfl
      · rename_i c
        have c0 : rd l1 (i : Int) = 0 := Classical.byContradiction fun hc => c ⟨⟨h.1, by omega⟩, hc⟩
        rw [rd_get l1 i hlt] at c0
        dsimp only
        rw [← c0]; simp
    refine ih (i + 1) _ _ _ (by rw [e]; simp; omega) (by rw [e]; simp; omega) hr fun j hj => ?_
    rw [e]
    by_cases c : j = i
    · subst c; rw [List.getElem?_set_self (by omega)]
    · rw [List.getElem?_set_ne (fun hh => c hh.symm)]; exact hz j (by omega)
theorem pureFnLooks (l : List Int) (_ : l.length ≤ maxLen) (_ : ∀ x ∈ l, (Lit.int .u8 x).wf = true) : ∃ k, laws_FnLooks.f k l = some true := by
  by_cases c : (l.length : Int) > 1048576
  · exact ⟨0, by simp only [laws_FnLooks.f, laws_big.f, Option.bind_some]; rw [if_pos (by simpa using c)]⟩
  · obtain ⟨r, e, hr⟩ := drawEpochsP l (by omega)
    obtain ⟨p, e2, hp⟩ := placesP l (by omega)
    refine Ev.rounds (g := fun k => laws_FnLooks.f k l) (Ev.eq (fun k => by simp only [laws_FnLooks.f, laws_big.f, Option.bind_some]; rw [if_neg (by simpa using c)]) ?_)
    exact Ev.bind e (Ev.bind e2 (looks_unpin p hp r.2.1.length 0 r.1 r.2.1 r.2.2 (by omega) (by omega) hr (fun j hj => by omega)))
end Go.Proofs.Ytdbhpcekjcohdaa.Q
