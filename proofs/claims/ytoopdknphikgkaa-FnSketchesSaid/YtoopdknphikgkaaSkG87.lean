import Derived.Test.YtoopdknphikgkaaSkB0
import Derived.Test.YtoopdknphikgkaaSkG100
import Derived.Test.YtoopdknphikgkaaSkG101
import Derived.Test.YtoopdknphikgkaaSkWords
namespace Go.Proofs.Ytoopdknphikgkaa.Q
open Go.RowKit Go.Proofs.YtoopdknphikgkaaW.PrintWords Go.Proofs.YtoopdknphikgkaaW.PrintLast Go.Proofs.YtoopdknphikgkaaW.PrintMore
attribute [local go_sem] max2_int min2_int max_two min_two max_three min_three max_four min_four   -- for this text's walks alone
set_option linter.unusedVariables false
set_option linter.unusedSimpArgs false
def spec_l12Any.f (k : Nat) (s0_0 : List Int) (s0_1 : Int) (s0_2 : Int) : Option ((List (List Int)) × Int × Int × Int) := (spec_l01Below.f s0_0 s0_1 s0_2 12).bind fun bt670 => ((spec_l01Below.f s0_0 bt670.2.1 bt670.2.2 60).bind fun bt673 => ((spec_l12Sketch.f k s0_0 bt673.2.1 bt673.2.2).bind fun bt676 => ((spec_l12Copy.f k bt676.1 bt676.2.1).bind fun bt682 => (if bt670.1 = 0 then (if 0 ≤ (Int.tmod bt673.1 3) then (if (Int.tmod bt673.1 3) < (bt682.1.length : Int) then ((some (([(-1), 15, 16] : List Int) : List Int)).bind fun y688 => (if (Int.tmod bt673.1 3) < (y688.length : Int) then (if 0 ≤ (Int.tmod bt673.1 16) then (if (Int.tmod bt673.1 16) < ((rd_L2 bt682.1 (Int.tmod bt673.1 3)).length : Int) then (some ((bt682.1.set ((Int.tmod bt673.1 3) : Int).toNat ((rd_L2 bt682.1 (Int.tmod bt673.1 3)).set ((Int.tmod bt673.1 16) : Int).toNat (rd y688 (Int.tmod bt673.1 3)))), bt682.2, bt676.2.2.1, bt676.2.2.2)) else (none)) else (none)) else (none))) else (none)) else (none)) else (if bt670.1 = 1 then ((some (([(-1), 63, 64] : List Int) : List Int)).bind fun y695 => (if 0 ≤ (Int.tmod bt673.1 3) then (if (Int.tmod bt673.1 3) < (y695.length : Int) then (some (bt682.1, rd y695 (Int.tmod bt673.1 3), bt676.2.2.1, bt676.2.2.2)) else (none)) else (none))) else (if bt670.1 = 2 then (if 1 ≤ (bt682.1.length : Int) then (some (bt682.1.drop 1, bt682.2, bt676.2.2.1, bt676.2.2.2)) else (none)) else (if bt670.1 = 3 then (if 0 < (bt682.1.length : Int) then (if 1 ≤ ((rd_L2 bt682.1 0).length : Int) then (some (bt682.1.set 0 ((rd_L2 bt682.1 0).drop 1), bt682.2, bt676.2.2.1, bt676.2.2.2)) else (none)) else (none)) else (some (bt682.1, bt682.2, bt676.2.2.1, bt676.2.2.2)))))))))
theorem spec_l12Any.V_of {α : Type} {d : Kd α} {e : Nat} {W : World} {base : Nat} {ok : Nat → Prop} {v : Value} {xs : List α} (h : Kd.S d e W base ok v xs) : Kd.V d e W base (fun k_ => (base ≤ k_)) v xs := by
  obtain ⟨A, c, rfl⟩ := Kd.S_slice h
  exact Kd.V_mk (Kd.S_reads' h).2.1 (Kd.S_F (Kd.S_mono (Kd.S_bound h) (fun k hk => hk.2.1)))
theorem spec_l12Any.V_drop {α : Type} {d : Kd α} {e : Nat} {W : World} {base : Nat} {ok : Nat → Prop} {A : Option Addr} {n c : Nat} {xs : List α} (h : Kd.S d e W base ok (.slice A n c) xs) (h1 : 1 ≤ xs.length) : Kd.V d e W base (fun k_ => base ≤ k_ ∧ ok k_) (.slice (if c = 1 then A else A.map (·.add (1 * d.sz))) (xs.drop 1).length (c - 1)) (xs.drop 1) := by
  have hr := Kd.S_reads' h
  obtain ⟨hn, hc, _⟩ := hr
  subst hn
  exact Kd.V_mk (by rw [List.length_drop]; omega) (Kd.F_imp (Kd.S_F (Kd.S_mono (Kd.S_bound h) (fun k hk => ⟨hk.2.1, hk.1⟩))) (fun W' h' => Kd.C_drop h' h1 hc))
theorem spec_l12Any.V_put {W : World} {base g n c : Nat} {ok : Nat → Prop} {xs : List (List Int)} {A0 : Option Addr} {c0 : Nat} (h : Kd.S (Kd.slice 3 (Kd.int .i64)) 58 W base ok (.slice (some ⟨g, 0, none⟩) n c) xs) (h0 : 0 < xs.length) (hx : W.cell? ⟨g, 0, none⟩ = some (.slice A0 (rd_L2 xs 0).length c0)) (h1 : 1 ≤ (rd_L2 xs 0).length) :
    Kd.V (Kd.slice 3 (Kd.int .i64)) 58 (W.setCell ⟨g, 0, none⟩ (.slice (if c0 = 1 then A0 else A0.map (·.add (1 * 1))) ((rd_L2 xs 0).length - 1) (c0 - 1))) base (fun k_ => base ≤ k_ ∧ ok k_) (.slice (some ⟨g, 0, none⟩) n c) (xs.set 0 ((rd_L2 xs 0).drop 1)) := by
  cases xs with
  | nil => exact absurd h0 (by simp)
  | cons x xs =>
  change W.cell? ⟨g, 0, none⟩ = some (.slice A0 x.length c0) at hx
  change 1 ≤ x.length at h1
  change Kd.V (Kd.slice 3 (Kd.int .i64)) 58 (W.setCell ⟨g, 0, none⟩ (.slice (if c0 = 1 then A0 else A0.map (·.add (1 * 1))) (x.length - 1) (c0 - 1))) base (fun k_ => base ≤ k_ ∧ ok k_) (.slice (some ⟨g, 0, none⟩) n c) (x.drop 1 :: xs)
  have hr := Kd.S_reads' h
  obtain ⟨hn, hc, hC⟩ := hr
  have hmax := Kd.C_max hC
  have hR := Kd.R_mono (Kd.R_bound (Kd.S_R h)) (ok' := fun k_ => base ≤ k_ ∧ ok k_) (fun k hk => ⟨hk.2.1, hk.1⟩)
  obtain ⟨hok, inner, ⟨hl, ho⟩, hrl, hrr⟩ := hR
  rcases ho with ⟨e0, _⟩ | ⟨g1, cap, cur, e1, hb, hh, hnc, hmx, hs, ht⟩
  · cases e0
  obtain rfl : g = g1 := by injection e1 with e2; injection e2 with e2; injection e2
  have hokg : base ≤ g ∧ ok g := hok g rfl
  have hin : ∀ j, j < (x :: xs).length → cur[j]? = inner[j]? := by
    intro j hj
    rw [← ht, List.getElem?_take, if_pos (by rw [show (Kd.slice 3 (Kd.int .i64)).sz = 1 from rfl]; omega)]
    simp
  obtain ⟨u, hu⟩ : ∃ u : Value, u = .slice (if c0 = 1 then A0 else A0.map (·.add (1 * 1))) (x.length - 1) (c0 - 1) := ⟨_, rfl⟩
  rw [← hu]
  have hput : (W.setCell ⟨g, 0, none⟩ u).heap[g]? = some (.cells (cur.setIfInBounds 0 u) 58 (0, 0)) := blk_put hh 0 u rfl
  have hll : (x :: xs).length = (x.drop 1 :: xs).length := rfl
  have hsz1 : 0 < cur.size := by rw [hs, show (Kd.slice 3 (Kd.int .i64)).sz = 1 from rfl]; have : (x :: xs).length = xs.length + 1 := rfl; omega
  have hv0 : Kd.R (Kd.int .i64) 3 W base (fun k_ => base ≤ k_ ∧ ok k_) (.slice A0 x.length c0) x := by
    obtain ⟨v, e, hv⟩ := hrr 0 x rfl
    have h2 : inner[0]? = some v := by
      have h3 := congrArg (fun l => l[0]?) e
      rw [show (Kd.slice 3 (Kd.int .i64)).sz = 1 from rfl] at h3
      simpa [List.getElem?_take, List.getElem?_drop] using h3
    have h4 := (blk_cell hh 0).symm.trans hx
    rw [hin 0 (by simp), h2] at h4
    obtain rfl := Option.some.inj h4
    exact Kd.R_drop hv
  have hat : ∀ (W' : World), (∀ k, base ≤ k ∧ ok k → k < (W.setCell ⟨g, 0, none⟩ u).heap.size → W'.heap[k]? = (W.setCell ⟨g, 0, none⟩ u).heap[k]?) → ∀ {v : Value} {y : List Int}, Kd.R (Kd.int .i64) 3 W base (fun k_ => base ≤ k_ ∧ ok k_) v y → Kd.R (Kd.int .i64) 3 W' base (fun k_ => base ≤ k_ ∧ ok k_) v y := by
    intro W' hW v y hv
    exact Kd.R_step (Kd.R_set hv hh (by decide) 0 u) (fun k hk hlt => hW k hk hlt)
  subst hn
  rw [hll]
  refine Kd.V_mk (by rw [← hll]; exact hc) (fun W' hW => ?_)
  have hg' : W'.heap[g]? = some (.cells (cur.setIfInBounds 0 u) 58 (0, 0)) := (hW g hokg (blk_lt hput)).trans hput
  refine ⟨rfl, hmax, fun _ => ⟨⟨g, 0, none⟩, rfl, fun j p hj => ?_⟩⟩
  cases j with
  | zero =>
    obtain rfl : x.drop 1 = p := Option.some.inj hj
    have hr := Kd.R_reads' (hat W' hW hv0)
    refine ⟨[u], rfl, ⟨(if c0 = 1 then A0 else A0.map (·.add (1 * 1))), c0 - 1, by rw [hu, List.length_drop], by rw [List.length_drop]; have := hr.2.1; omega, Kd.C_drop hr.2.2 h1 hr.2.1⟩, fun i w hi => ?_⟩
    cases i with
    | zero =>
      obtain rfl : u = w := Option.some.inj hi
      refine (blk_cell hg' 0).trans ?_
      rw [Array.getElem?_setIfInBounds]
      simp [hsz1]
    | succ i => simp at hi
  | succ j =>
    have hj' : (x :: xs)[j + 1]? = some p := hj
    obtain ⟨v, e, hv⟩ := hrr (j + 1) p hj'
    have hjl : j + 1 < (x :: xs).length := (List.getElem?_eq_some_iff.1 hj').1
    have h2 : inner[j + 1]? = some v := by
      have h3 := congrArg (fun l => l[0]?) e
      rw [show (Kd.slice 3 (Kd.int .i64)).sz = 1 from rfl] at h3
      simpa [List.getElem?_take, List.getElem?_drop] using h3
    obtain ⟨A, c1, rfl, hcl, hcc⟩ := Kd.R_reads (hat W' hW (Kd.R_drop hv))
    refine ⟨[.slice A p.length c1], rfl, ⟨A, c1, rfl, hcl, hcc⟩, fun i w hi => ?_⟩
    cases i with
    | zero =>
      obtain rfl : Value.slice A p.length c1 = w := Option.some.inj hi
      have h5 : (Addr.add ⟨g, 0, none⟩ ((j + 1) * (Kd.slice 3 (Kd.int .i64)).sz + 0)) = ⟨g, j + 1, none⟩ := by
        rw [show (Kd.slice 3 (Kd.int .i64)).sz = 1 from rfl]; simp [Addr.add]
      rw [h5]
      refine (blk_cell hg' (j + 1)).trans ?_
      rw [Array.getElem?_setIfInBounds, if_neg (by omega), hin (j + 1) hjl, h2]
    | succ i => simp at hi
def spec_l12Any.T12 : Bool × List (List Nat × List Nat) := (true, [([], []), ([0], [0]), ([], []), ([2], [2]), ([3], [3]), ([4], [4]), ([5], [5]), ([1, 0, 1, 2, 3, 4, 5, 6], [1]), ([7, 6, 0, 1, 2, 3, 4, 5, 6], [6, 7])])
def spec_l12Any.B12 : List Nat := [0, 1, 0, 4, 12, 28, 60, 127, 255]
theorem spec_l12Any.tab12 : rtab .any (opsOf Try.f87 12) = spec_l12Any.T12 := by kernel_rfl
theorem spec_l12Any.bits12 : waitsOk spec_l12Any.T12.2 spec_l12Any.B12 = true := by kernel_rfl
def spec_l12Any.T6 : Bool × List (List Nat × List Nat) := (true, [([], []), ([0], [0]), ([], []), ([2], [2]), ([1, 3], [1, 3]), ([4], [4]), ([], []), ([6], [6]), ([], []), ([], []), ([9], [9]), ([8, 10], [8, 10]), ([11], [11]), ([5, 7, 0, 1, 2, 3, 4, 5, 6, 7, 8, 9, 10, 11, 12], [5, 7]), ([13, 12, 0, 1, 2, 3, 4, 5, 6, 7, 8, 9, 10, 11, 12], [12, 13])])
def spec_l12Any.B6 : List Nat := [0, 1, 0, 4, 15, 31, 0, 64, 0, 0, 512, 1792, 3840, 8191, 16383]
theorem spec_l12Any.tab6 : rtab .any (opsOf Try.f87 6) = spec_l12Any.T6 := by kernel_rfl
theorem spec_l12Any.bits6 : waitsOk spec_l12Any.T6.2 spec_l12Any.B6 = true := by kernel_rfl
set_option maxHeartbeats 8000000 in
set_option maxRecDepth 100000 in
theorem spec_l12Any.calls (k : Nat) (g : Nat) (s0_0 : List Int) (s0_1 : Int) (s0_2 : Int) (r1 : List (List Int)) (r2 : Int) (r3 : Int) (r4 : Int) (w0 w : World) (hI : IsS101 w0 w g s0_0 s0_1 s0_2) (hB : Below w0.heap.size w0 w) (h : spec_l12Any.f k s0_0 s0_1 s0_2 = some (r1, r2, r3, r4)) :
    Calls Try.prog 87 #[.pointer (some ⟨g, 0, none⟩)] w fun e w' => ∃ v0_ : Value, e = .returned (.agg #[v0_, .int .i64 r2]) ∧ Kd.V (Kd.slice 3 (Kd.int .i64)) 58 w' w.heap.size (fun k_ => (w.heap.size ≤ k_)) v0_ r1 ∧ IsS101 w0 w' g s0_0 r3 r4 ∧ Below w0.heap.size w0 w' ∧ KeepBut w w' g none := by
  have hu26 := Try.underlying26
  have HI0 := Aside0.mk hI
  have HK := Aside0.mk (KeepBut.refl w g none)
  have HL := Aside0.mk hB.size
  clear hI
  have HW0 := Aside0.mk hB.size
  have HB := Aside0.mk hB
  clear hB
  have H : ((spec_l01Below.f s0_0 s0_1 s0_2 12).bind fun bt670 => ((spec_l01Below.f s0_0 bt670.2.1 bt670.2.2 60).bind fun bt673 => ((spec_l12Sketch.f k s0_0 bt673.2.1 bt673.2.2).bind fun bt676 => ((spec_l12Copy.f k bt676.1 bt676.2.1).bind fun bt682 => (if bt670.1 = 0 then (if 0 ≤ (Int.tmod bt673.1 3) then (if (Int.tmod bt673.1 3) < (bt682.1.length : Int) then ((some (([(-1), 15, 16] : List Int) : List Int)).bind fun y688 => (if (Int.tmod bt673.1 3) < (y688.length : Int) then (if 0 ≤ (Int.tmod bt673.1 16) then (if (Int.tmod bt673.1 16) < ((rd_L2 bt682.1 (Int.tmod bt673.1 3)).length : Int) then (some ((bt682.1.set ((Int.tmod bt673.1 3) : Int).toNat ((rd_L2 bt682.1 (Int.tmod bt673.1 3)).set ((Int.tmod bt673.1 16) : Int).toNat (rd y688 (Int.tmod bt673.1 3)))), bt682.2, bt676.2.2.1, bt676.2.2.2)) else (none)) else (none)) else (none))) else (none)) else (none)) else (if bt670.1 = 1 then ((some (([(-1), 63, 64] : List Int) : List Int)).bind fun y695 => (if 0 ≤ (Int.tmod bt673.1 3) then (if (Int.tmod bt673.1 3) < (y695.length : Int) then (some (bt682.1, rd y695 (Int.tmod bt673.1 3), bt676.2.2.1, bt676.2.2.2)) else (none)) else (none))) else (if bt670.1 = 2 then (if 1 ≤ (bt682.1.length : Int) then (some (bt682.1.drop 1, bt682.2, bt676.2.2.1, bt676.2.2.2)) else (none)) else (if bt670.1 = 3 then (if 0 < (bt682.1.length : Int) then (if 1 ≤ ((rd_L2 bt682.1 0).length : Int) then (some (bt682.1.set 0 ((rd_L2 bt682.1 0).drop 1), bt682.2, bt676.2.2.1, bt676.2.2.2)) else (none)) else (none)) else (some (bt682.1, bt682.2, bt676.2.2.1, bt676.2.2.2)))))))))) = some (r1, r2, r3, r4) := h
  clear h
  replace H := Option.bind_eq_some_iff.mp H
  obtain ⟨⟨t670, t671, t672⟩, A20, H⟩ := H
  replace H : ((spec_l01Below.f s0_0 t671 t672 60).bind fun bt673 => ((spec_l12Sketch.f k s0_0 bt673.2.1 bt673.2.2).bind fun bt676 => ((spec_l12Copy.f k bt676.1 bt676.2.1).bind fun bt682 => (if t670 = 0 then (if 0 ≤ (Int.tmod bt673.1 3) then (if (Int.tmod bt673.1 3) < (bt682.1.length : Int) then ((some (([(-1), 15, 16] : List Int) : List Int)).bind fun y688 => (if (Int.tmod bt673.1 3) < (y688.length : Int) then (if 0 ≤ (Int.tmod bt673.1 16) then (if (Int.tmod bt673.1 16) < ((rd_L2 bt682.1 (Int.tmod bt673.1 3)).length : Int) then (some ((bt682.1.set ((Int.tmod bt673.1 3) : Int).toNat ((rd_L2 bt682.1 (Int.tmod bt673.1 3)).set ((Int.tmod bt673.1 16) : Int).toNat (rd y688 (Int.tmod bt673.1 3)))), bt682.2, bt676.2.2.1, bt676.2.2.2)) else (none)) else (none)) else (none))) else (none)) else (none)) else (if t670 = 1 then ((some (([(-1), 63, 64] : List Int) : List Int)).bind fun y695 => (if 0 ≤ (Int.tmod bt673.1 3) then (if (Int.tmod bt673.1 3) < (y695.length : Int) then (some (bt682.1, rd y695 (Int.tmod bt673.1 3), bt676.2.2.1, bt676.2.2.2)) else (none)) else (none))) else (if t670 = 2 then (if 1 ≤ (bt682.1.length : Int) then (some (bt682.1.drop 1, bt682.2, bt676.2.2.1, bt676.2.2.2)) else (none)) else (if t670 = 3 then (if 0 < (bt682.1.length : Int) then (if 1 ≤ ((rd_L2 bt682.1 0).length : Int) then (some (bt682.1.set 0 ((rd_L2 bt682.1 0).drop 1), bt682.2, bt676.2.2.1, bt676.2.2.2)) else (none)) else (none)) else (some (bt682.1, bt682.2, bt676.2.2.1, bt676.2.2.2))))))))) = some (r1, r2, r3, r4) := H
  have A2 := Aside0.mk A20
  clear A20
  replace H := Option.bind_eq_some_iff.mp H
  obtain ⟨⟨t673, t674, t675⟩, A30, H⟩ := H
  replace H : ((spec_l12Sketch.f k s0_0 t674 t675).bind fun bt676 => ((spec_l12Copy.f k bt676.1 bt676.2.1).bind fun bt682 => (if t670 = 0 then (if 0 ≤ (Int.tmod t673 3) then (if (Int.tmod t673 3) < (bt682.1.length : Int) then ((some (([(-1), 15, 16] : List Int) : List Int)).bind fun y688 => (if (Int.tmod t673 3) < (y688.length : Int) then (if 0 ≤ (Int.tmod t673 16) then (if (Int.tmod t673 16) < ((rd_L2 bt682.1 (Int.tmod t673 3)).length : Int) then (some ((bt682.1.set ((Int.tmod t673 3) : Int).toNat ((rd_L2 bt682.1 (Int.tmod t673 3)).set ((Int.tmod t673 16) : Int).toNat (rd y688 (Int.tmod t673 3)))), bt682.2, bt676.2.2.1, bt676.2.2.2)) else (none)) else (none)) else (none))) else (none)) else (none)) else (if t670 = 1 then ((some (([(-1), 63, 64] : List Int) : List Int)).bind fun y695 => (if 0 ≤ (Int.tmod t673 3) then (if (Int.tmod t673 3) < (y695.length : Int) then (some (bt682.1, rd y695 (Int.tmod t673 3), bt676.2.2.1, bt676.2.2.2)) else (none)) else (none))) else (if t670 = 2 then (if 1 ≤ (bt682.1.length : Int) then (some (bt682.1.drop 1, bt682.2, bt676.2.2.1, bt676.2.2.2)) else (none)) else (if t670 = 3 then (if 0 < (bt682.1.length : Int) then (if 1 ≤ ((rd_L2 bt682.1 0).length : Int) then (some (bt682.1.set 0 ((rd_L2 bt682.1 0).drop 1), bt682.2, bt676.2.2.1, bt676.2.2.2)) else (none)) else (none)) else (some (bt682.1, bt682.2, bt676.2.2.1, bt676.2.2.2)))))))) = some (r1, r2, r3, r4) := H
  have A3 := Aside0.mk A30
  clear A30
  replace H := Option.bind_eq_some_iff.mp H
  obtain ⟨⟨t676, t679, t680, t681⟩, A40, H⟩ := H
  replace H : ((spec_l12Copy.f k t676 t679).bind fun bt682 => (if t670 = 0 then (if 0 ≤ (Int.tmod t673 3) then (if (Int.tmod t673 3) < (bt682.1.length : Int) then ((some (([(-1), 15, 16] : List Int) : List Int)).bind fun y688 => (if (Int.tmod t673 3) < (y688.length : Int) then (if 0 ≤ (Int.tmod t673 16) then (if (Int.tmod t673 16) < ((rd_L2 bt682.1 (Int.tmod t673 3)).length : Int) then (some ((bt682.1.set ((Int.tmod t673 3) : Int).toNat ((rd_L2 bt682.1 (Int.tmod t673 3)).set ((Int.tmod t673 16) : Int).toNat (rd y688 (Int.tmod t673 3)))), bt682.2, t680, t681)) else (none)) else (none)) else (none))) else (none)) else (none)) else (if t670 = 1 then ((some (([(-1), 63, 64] : List Int) : List Int)).bind fun y695 => (if 0 ≤ (Int.tmod t673 3) then (if (Int.tmod t673 3) < (y695.length : Int) then (some (bt682.1, rd y695 (Int.tmod t673 3), t680, t681)) else (none)) else (none))) else (if t670 = 2 then (if 1 ≤ (bt682.1.length : Int) then (some (bt682.1.drop 1, bt682.2, t680, t681)) else (none)) else (if t670 = 3 then (if 0 < (bt682.1.length : Int) then (if 1 ≤ ((rd_L2 bt682.1 0).length : Int) then (some (bt682.1.set 0 ((rd_L2 bt682.1 0).drop 1), bt682.2, t680, t681)) else (none)) else (none)) else (some (bt682.1, bt682.2, t680, t681))))))) = some (r1, r2, r3, r4) := H
  have A4 := Aside0.mk A40
  clear A40
  replace H := Option.bind_eq_some_iff.mp H
  obtain ⟨⟨t682, t685⟩, A50, H⟩ := H
  replace H : (if t670 = 0 then (if 0 ≤ (Int.tmod t673 3) then (if (Int.tmod t673 3) < (t682.length : Int) then ((some (([(-1), 15, 16] : List Int) : List Int)).bind fun y688 => (if (Int.tmod t673 3) < (y688.length : Int) then (if 0 ≤ (Int.tmod t673 16) then (if (Int.tmod t673 16) < ((rd_L2 t682 (Int.tmod t673 3)).length : Int) then (some ((t682.set ((Int.tmod t673 3) : Int).toNat ((rd_L2 t682 (Int.tmod t673 3)).set ((Int.tmod t673 16) : Int).toNat (rd y688 (Int.tmod t673 3)))), t685, t680, t681)) else (none)) else (none)) else (none))) else (none)) else (none)) else (if t670 = 1 then ((some (([(-1), 63, 64] : List Int) : List Int)).bind fun y695 => (if 0 ≤ (Int.tmod t673 3) then (if (Int.tmod t673 3) < (y695.length : Int) then (some (t682, rd y695 (Int.tmod t673 3), t680, t681)) else (none)) else (none))) else (if t670 = 2 then (if 1 ≤ (t682.length : Int) then (some (t682.drop 1, t685, t680, t681)) else (none)) else (if t670 = 3 then (if 0 < (t682.length : Int) then (if 1 ≤ ((rd_L2 t682 0).length : Int) then (some (t682.set 0 ((rd_L2 t682 0).drop 1), t685, t680, t681)) else (none)) else (none)) else (some (t682, t685, t680, t681)))))) = some (r1, r2, r3, r4) := H
  have A5 := Aside0.mk A50
  clear A50
  have HS6 := Aside0.mk H
  clear H
  go_enter Try.func87, Try.ntmps87
  go_upto_if 14 with (first | ((with_reducible refine gate_dst (N := 2) rfl ?_); refine box_event ?hg (N := 2) ?hd (cs := #[.slice none 0 0, .int .i64 0]) (t := 26) ?hr ?_; (case hd => rfl); (case hg => rfl); (case hr => (go_simp; done)); intro gb669 hg w7 hbox hb; have n0_ := Aside0.mk (IsS101.below (by repeat ((with_reducible exact HI0.out))) hb); have n1_ := Aside0.mk (KeepBut.trans (by repeat ((with_reducible exact HK.out))) (KeepBut.of_below hb g none) (.inl rfl)); have n2_ := Aside0.mk (below_step (by repeat ((with_reducible exact HB.out))) hb); have n3_ := Aside0.mk (hbox); have n4_ := Aside0.mk ((by rw [hg]; exact (keep_size (w := w) (g := g) (row := none) (by repeat ((with_reducible exact HK.out)))) : w.heap.size ≤ gb669)); have n5_ := Aside0.mk ((Nat.le_trans HW0.out (by rw [hg]; exact (keep_size (w := w) (g := g) (row := none) (by repeat ((with_reducible exact HK.out)))) : w.heap.size ≤ gb669) : w0.heap.size ≤ gb669)); have n6_ := Aside0.mk ((by rw [hg]; exact Nat.ne_of_lt (IsS101.lt (show IsS101 w0 _ g s0_0 s0_1 s0_2 from by repeat ((with_reducible exact HI0.out)))) : g ≠ gb669)); have n7_ := Aside0.mk ((by rw [hg]; exact Nat.ne_of_gt (IsS101.lt (show IsS101 w0 _ g s0_0 s0_1 s0_2 from by repeat ((with_reducible exact HI0.out)))) : gb669 ≠ g)); clear HI0; clear HK; clear HB; have HI0 := n0_; have HK := n1_; have HB := n2_; have BK669 := n3_; have GW669 := n4_; have GE669 := n5_; have NB0_669 := n6_; have NB669_0 := n7_; clear n0_ n1_ n2_ n3_ n4_ n5_ n6_ n7_; clear hb hbox hg) | ((with_reducible refine gate_callee (f := 69) rfl ?_); refine goesL_ (some 7) rfl rfl Try.func69 (by kernel_rfl) rfl #[.pointer (some ⟨g, 0, none⟩), .int .i64 12] rfl (by (try simp only [List.map_toArray, List.map_cons, List.map_nil]); rfl) ?_; (with_reducible refine (spec_l01Below.calls g s0_0 s0_1 s0_2 12 t670 t671 t672 w0 _ ?side1 ?side2 A2.out).mono ?_); (case side1 => repeat ((with_reducible exact HI0.out))); (case side2 => repeat ((with_reducible exact HB.out))); rintro e w8 ⟨rfl, hi, hb, hk⟩; refine ⟨_, rfl, ?_⟩; have n0_ := Aside0.mk (KeepBut.blk hk (g' := gb669) (o := .cells #[.slice none 0 0, .int .i64 0] 26 (0, 0)) (by (with_reducible repeat (first | refine blk_drewN ?_ _ | refine blk_drew ?_ | refine blk_alloc ?_ _ )); exact BK669.out) NB669_0.out (by simp)); have n1_ := Aside0.mk (KeepBut.trans (by repeat ((with_reducible exact HK.out))) hk (.inl rfl)); have n2_ := Aside0.mk (hb); have n3_ := Aside0.mk (hi); clear BK669; clear HK; clear HB; clear HI0; have BK669 := n0_; have HK := n1_; have HB := n2_; have HI0 := n3_; clear n0_ n1_ n2_ n3_; (try clear hb); (try clear hb2); (try clear hk); (try clear hi)) | ((with_reducible refine gate_callee (f := 69) rfl ?_); refine goesL_ (some 9) rfl rfl Try.func69 (by kernel_rfl) rfl #[.pointer (some ⟨g, 0, none⟩), .int .i64 60] rfl (by (try simp only [List.map_toArray, List.map_cons, List.map_nil]); rfl) ?_; (with_reducible refine (spec_l01Below.calls g s0_0 t671 t672 60 t673 t674 t675 w0 _ ?side1 ?side2 A3.out).mono ?_); (case side1 => repeat ((with_reducible exact HI0.out))); (case side2 => repeat ((with_reducible exact HB.out))); rintro e w9 ⟨rfl, hi, hb, hk⟩; refine ⟨_, rfl, ?_⟩; have n0_ := Aside0.mk (KeepBut.blk hk (g' := gb669) (o := .cells #[.slice none 0 0, .int .i64 0] 26 (0, 0)) (by (with_reducible repeat (first | refine blk_drewN ?_ _ | refine blk_drew ?_ | refine blk_alloc ?_ _ )); exact BK669.out) NB669_0.out (by simp)); have n1_ := Aside0.mk (KeepBut.trans (by repeat ((with_reducible exact HK.out))) hk (.inl rfl)); have n2_ := Aside0.mk (hb); have n3_ := Aside0.mk (hi); clear BK669; clear HK; clear HB; clear HI0; have BK669 := n0_; have HK := n1_; have HB := n2_; have HI0 := n3_; clear n0_ n1_ n2_ n3_; (try clear hb); (try clear hb2); (try clear hk); (try clear hi)) | ((with_reducible refine gate_callee (f := 90) rfl ?_); refine goesL_ (some 11) rfl rfl Try.func90 (by kernel_rfl) rfl #[.pointer (some ⟨g, 0, none⟩)] rfl (by (try simp only [List.map_toArray, List.map_cons, List.map_nil]); rfl) ?_; (with_reducible refine (spec_l12Sketch.calls k g s0_0 t674 t675 t676 t679 t680 t681 w0 _ ?side1 ?side2 A4.out).mono ?_); (case side1 => repeat ((with_reducible exact HI0.out))); (case side2 => repeat ((with_reducible exact HB.out))); rintro e w10 ⟨v677, rfl, ho0, hi, hb, hk⟩; refine ⟨_, rfl, ?_⟩; have n0_ := Aside0.mk (KeepBut.blk hk (g' := gb669) (o := .cells #[.slice none 0 0, .int .i64 0] 26 (0, 0)) (by (with_reducible repeat (first | refine blk_drewN ?_ _ | refine blk_drew ?_ | refine blk_alloc ?_ _ )); exact BK669.out) NB669_0.out (by simp)); have n1_ := Aside0.mk (Kd.S_lower ho0 (keep_size (w := w) (g := g) (row := none) (by repeat ((with_reducible exact HK.out))))); have n2_ := Aside0.mk (KeepBut.trans (by repeat ((with_reducible exact HK.out))) hk (.inl rfl)); have n3_ := Aside0.mk (hb); have n4_ := Aside0.mk (hi); clear BK669; clear HK; clear HB; clear HI0; have BK669 := n0_; have HO678 := n1_; have HK := n2_; have HB := n3_; have HI0 := n4_; clear n0_ n1_ n2_ n3_ n4_; (try clear hb); (try clear hb2); (try clear hk); (try clear hi); (try clear ho0); obtain ⟨Ao11, co11, eo11⟩ := Kd.S_slice HO678.out; subst eo11) | ((with_reducible refine gate_callee (f := 82) rfl ?_); refine goesL_ (some 12) rfl rfl Try.func82 (by kernel_rfl) rfl #[.agg #[.slice Ao11 t676.length co11, .int .i64 t679]] rfl (by (try simp only [List.map_toArray, List.map_cons, List.map_nil]); rfl) ?_; (with_reducible refine (spec_l12Copy.calls k _ _ t676 t679 t682 t685 _ ?side1 ?side2 A5.out).mono ?_); (case side1 => repeat (exact (Kd.S_reads' HO678.out).2.2)); (case side2 => exact (Kd.S_reads' HO678.out).2.1); rintro e w12 ⟨v683, rfl, ho0, hb⟩; refine ⟨_, rfl, ?_⟩; have n0_ := Aside0.mk (Kd.S_elder' (by (with_reducible repeat (first | apply Kd.S_alloc | apply Kd.S_drewN | apply Kd.S_drew )); exact HO678.out) (Kd.S_base ho0) hb); have n1_ := Aside0.mk (Kd.S_lower (Kd.S_new' ho0 (Kd.S_lt (by (with_reducible repeat (first | apply Kd.S_alloc | apply Kd.S_drewN | apply Kd.S_drew )); exact HO678.out))) (keep_size (w := w) (g := g) (row := none) (by repeat ((with_reducible exact HK.out))))); have n2_ := Aside0.mk (IsS101.below (by repeat ((with_reducible exact HI0.out))) hb); have n3_ := Aside0.mk (blk_below (g := gb669) (o := .cells #[.slice none 0 0, .int .i64 0] 26 (0, 0)) (by (with_reducible repeat (first | refine blk_drewN ?_ _ | refine blk_drew ?_ | refine blk_alloc ?_ _ )); exact BK669.out) hb); have n4_ := Aside0.mk (KeepBut.trans (by repeat ((with_reducible exact HK.out))) (KeepBut.of_below hb g none) (.inl rfl)); have n5_ := Aside0.mk (below_step (by repeat ((with_reducible exact HB.out))) hb); clear HO678; clear HI0; clear BK669; clear HK; clear HB; have HO678 := n0_; have HO684 := n1_; have HI0 := n2_; have BK669 := n3_; have HK := n4_; have HB := n5_; clear n0_ n1_ n2_ n3_ n4_ n5_; (try clear hb); (try clear hb2); (try clear hk); (try clear hi); (try clear ho0)) | ((with_reducible refine gate_dst (N := 5) rfl ?_); refine box_event ?hg (N := 5) ?hd (cs := #[.slice none 0 0, .int .i64 0]) (t := 26) ?hr ?_; (case hd => rfl); (case hg => rfl); (case hr => (go_simp; done)); intro gb686 hg w13 hbox hb; have n0_ := Aside0.mk (Kd.S_below (by (with_reducible repeat (first | apply Kd.S_alloc | apply Kd.S_drewN | apply Kd.S_drew )); exact HO678.out) hb); have n1_ := Aside0.mk (Kd.S_below (by (with_reducible repeat (first | apply Kd.S_alloc | apply Kd.S_drewN | apply Kd.S_drew )); exact HO684.out) hb); have n2_ := Aside0.mk (IsS101.below (by repeat ((with_reducible exact HI0.out))) hb); have n3_ := Aside0.mk (blk_below (g := gb669) (o := .cells #[.slice none 0 0, .int .i64 0] 26 (0, 0)) (by (with_reducible repeat (first | refine blk_drewN ?_ _ | refine blk_drew ?_ | refine blk_alloc ?_ _ )); exact BK669.out) hb); have n4_ := Aside0.mk (KeepBut.trans (by repeat ((with_reducible exact HK.out))) (KeepBut.of_below hb g none) (.inl rfl)); have n5_ := Aside0.mk (below_step (by repeat ((with_reducible exact HB.out))) hb); have n6_ := Aside0.mk (hbox); have n7_ := Aside0.mk ((by rw [hg]; exact (keep_size (w := w) (g := g) (row := none) (by repeat ((with_reducible exact HK.out)))) : w.heap.size ≤ gb686)); have n8_ := Aside0.mk ((Nat.le_trans HW0.out (by rw [hg]; exact (keep_size (w := w) (g := g) (row := none) (by repeat ((with_reducible exact HK.out)))) : w.heap.size ≤ gb686) : w0.heap.size ≤ gb686)); have n9_ := Aside0.mk ((by rw [hg]; exact Nat.ne_of_lt (blk_lt (g := gb669) (o := .cells #[.slice none 0 0, .int .i64 0] 26 (0, 0)) (by (with_reducible repeat (first | refine blk_drewN ?_ _ | refine blk_drew ?_ | refine blk_alloc ?_ _ )); exact BK669.out)) : gb669 ≠ gb686)); have n10_ := Aside0.mk ((by rw [hg]; exact Nat.ne_of_gt (blk_lt (g := gb669) (o := .cells #[.slice none 0 0, .int .i64 0] 26 (0, 0)) (by (with_reducible repeat (first | refine blk_drewN ?_ _ | refine blk_drew ?_ | refine blk_alloc ?_ _ )); exact BK669.out)) : gb686 ≠ gb669)); have n11_ := Aside0.mk ((by rw [hg]; exact Nat.ne_of_lt (IsS101.lt (show IsS101 w0 _ g s0_0 t680 t681 from by repeat ((with_reducible exact HI0.out)))) : g ≠ gb686)); have n12_ := Aside0.mk ((by rw [hg]; exact Nat.ne_of_gt (IsS101.lt (show IsS101 w0 _ g s0_0 t680 t681 from by repeat ((with_reducible exact HI0.out)))) : gb686 ≠ g)); clear HO678; clear HO684; clear HI0; clear BK669; clear HK; clear HB; have HO678 := n0_; have HO684 := n1_; have HI0 := n2_; have BK669 := n3_; have HK := n4_; have HB := n5_; have BK686 := n6_; have GW686 := n7_; have GE686 := n8_; have NB669_686 := n9_; have NB686_669 := n10_; have NB0_686 := n11_; have NB686_0 := n12_; clear n0_ n1_ n2_ n3_ n4_ n5_ n6_ n7_ n8_ n9_ n10_ n11_ n12_; clear hb hbox hg; obtain ⟨Ao14, co14, eo14⟩ := Kd.S_slice HO684.out; subst eo14; have hnb15 := NB686_669.out; have hnc15 := NB669_686.out; have hnb16 := NB686_0.out; have hnc16 := NB0_686.out; have hcz17_0 : w13.cell? ⟨gb686, 0, none⟩ = some (.slice none 0 0) := (blk_cell BK686.out 0).trans rfl; have hcz17_1 : w13.cell? ⟨gb686, 1, none⟩ = some (.int .i64 0) := (blk_cell BK686.out 1).trans rfl; have hfz17_0 := blk_frozen BK686.out 0; have hfz17_1 := blk_frozen BK686.out 1))
  (try simp only [Act.put, List.setIfInBounds_toArray, List.set_cons_zero, List.set_cons_succ])
  have H := HS6.out
  clear HS6
  by_cases c18 : t670 = 0
  · rw [if_pos c18] at H
    have c18b0 : (t670 == 0) = true := beq_iff_eq.mpr c18
    have c18b1 : (t670 != 0) = false := bne_eq_false_iff_eq.mpr c18
    clear c18
    (rw [c18b0])
    obtain ⟨ji19, hji19⟩ : ∃ j_ : Int, (Int.tmod t673 3) = j_ := ⟨_, rfl⟩
    replace H : (if 0 ≤ (ji19) then (if (ji19) < (t682.length : Int) then ((some (([(-1), 15, 16] : List Int) : List Int)).bind fun y688 => (if (ji19) < (y688.length : Int) then (if 0 ≤ (Int.tmod t673 16) then (if (Int.tmod t673 16) < ((rd_L2 t682 (ji19)).length : Int) then (some ((t682.set ((ji19) : Int).toNat ((rd_L2 t682 (ji19)).set ((Int.tmod t673 16) : Int).toNat (rd y688 (ji19)))), t685, t680, t681)) else (none)) else (none)) else (none))) else (none)) else (none)) = some (r1, r2, r3, r4) := by (rw [hji19] at H; exact H)
    by_cases c20 : 0 ≤ (ji19)
    · rw [if_pos c20] at H
      have c20b0 : decide (0 ≤ (ji19)) = true := decide_eq_true c20
      clear c20
      by_cases c21 : (ji19) < (t682.length : Int)
      · rw [if_pos c21] at H
        have c21b0 : decide ((ji19) < (t682.length : Int)) = true := decide_eq_true c21
        clear c21
        obtain ⟨y688, hy688⟩ : ∃ y_ : List Int, y_ = (([(-1), 15, 16] : List Int)) := ⟨_, rfl⟩
        replace H : (if (ji19) < (y688.length : Int) then (if 0 ≤ (Int.tmod t673 16) then (if (Int.tmod t673 16) < ((rd_L2 t682 (ji19)).length : Int) then (some ((t682.set ((ji19) : Int).toNat ((rd_L2 t682 (ji19)).set ((Int.tmod t673 16) : Int).toNat (rd y688 (ji19)))), t685, t680, t681)) else (none)) else (none)) else (none)) = some (r1, r2, r3, r4) := by (have H2_ := (Option.bind_some _ _).symm.trans H; rw [hy688]; with_reducible exact H2_)
        have Ny688 := Aside0.mk hy688
        clear hy688
        by_cases c22 : (ji19) < (y688.length : Int)
        · rw [if_pos c22] at H
          have c22b0 : decide ((ji19) < (y688.length : Int)) = true := decide_eq_true c22
          clear c22
          obtain ⟨ji23, hji23⟩ : ∃ j_ : Int, (Int.tmod t673 16) = j_ := ⟨_, rfl⟩
          replace H : (if 0 ≤ (ji23) then (if (ji23) < ((rd_L2 t682 (ji19)).length : Int) then (some ((t682.set ((ji19) : Int).toNat ((rd_L2 t682 (ji19)).set ((ji23) : Int).toNat (rd y688 (ji19)))), t685, t680, t681)) else (none)) else (none)) = some (r1, r2, r3, r4) := by (rw [hji23] at H; exact H)
          by_cases c24 : 0 ≤ (ji23)
          · rw [if_pos c24] at H
            have c24b0 : decide (0 ≤ (ji23)) = true := decide_eq_true c24
            clear c24
            by_cases c25 : (ji23) < ((rd_L2 t682 (ji19)).length : Int)
            · rw [if_pos c25] at H
              have c25b0 : decide ((ji23) < ((rd_L2 t682 (ji19)).length : Int)) = true := decide_eq_true c25
              clear c25
              obtain ⟨y692, hy692⟩ : ∃ y_ : List Int, y_ = ((rd_L2 t682 (ji19)).set ((ji23) : Int).toNat (rd y688 (ji19))) := ⟨_, rfl⟩
              replace H : (some ((t682.set ((ji19) : Int).toNat y692), t685, t680, t681)) = some (r1, r2, r3, r4) := by (rw [hy692]; with_reducible exact H)
              have Ny692 := Aside0.mk hy692
              clear hy692
              obtain ⟨y694, hy694⟩ : ∃ y_ : List (List Int), y_ = (t682.set ((ji19) : Int).toNat y692) := ⟨_, rfl⟩
              replace H : (some (y694, t685, t680, t681)) = some (r1, r2, r3, r4) := by (rw [hy694]; with_reducible exact H)
              have Ny694 := Aside0.mk hy694
              clear hy694
              simp only [Option.some.injEq, Prod.mk.injEq] at H
              obtain ⟨rfl, rfl, rfl, rfl⟩ := H
              go_wp2
              have pi691 : (0 ≤ ((ji19) : Int)) = True := eq_true (of_decide_eq_true (by (with_reducible assumption)))
              have qi691 : ((ji19) < (y688.length : Int)) = True := eq_true (of_decide_eq_true (by (with_reducible assumption)))
              have n0_ : Aside0 (Kd.S (Kd.slice 3 (Kd.int .i64)) 58 ((w13.setCell ⟨gb686, 0, none⟩ (.slice Ao14 t682.length co14)).setCell ⟨gb686, 1, none⟩ (.int .i64 t685)) w.heap.size (fun _ => True) (.slice Ao14 t682.length co14) t682) := ⟨by (with_reducible repeat (first | apply Kd.S_alloc | apply Kd.S_drewN | apply Kd.S_drew )); exact Kd.S_mono (Kd.S_far (p := ⟨gb686, 1, none⟩) (Kd.S_far (p := ⟨gb686, 0, none⟩) (Kd.S_types HO684.out BK686.out (by decide)) (fun _ hk => hk.2) (.slice Ao14 t682.length co14)) (fun _ hk => hk.2) (.int .i64 t685)) (fun _ hk => trivial)⟩
              have n1_ : Aside0 (((w13.setCell ⟨gb686, 0, none⟩ (.slice Ao14 t682.length co14)).setCell ⟨gb686, 1, none⟩ (.int .i64 t685)).heap[gb669]? = some (.cells #[.slice none 0 0, .int .i64 0] 26 (0, 0))) := ⟨by (with_reducible repeat (first | refine blk_drewN ?_ _ | refine blk_drew ?_ | refine blk_alloc ?_ _ )); refine blk_far ?_ NB669_686.out _; (with_reducible repeat (first | refine blk_drewN ?_ _ | refine blk_drew ?_ | refine blk_alloc ?_ _ )); refine blk_far ?_ NB669_686.out _; (with_reducible repeat (first | refine blk_drewN ?_ _ | refine blk_drew ?_ | refine blk_alloc ?_ _ )); exact BK669.out⟩
              have n2_ : Aside0 (((w13.setCell ⟨gb686, 0, none⟩ (.slice Ao14 t682.length co14)).setCell ⟨gb686, 1, none⟩ (.int .i64 t685)).heap[gb686]? = some (.cells #[.slice Ao14 t682.length co14, .int .i64 t685] 26 (0, 0))) := ⟨by (with_reducible repeat (first | refine blk_drewN ?_ _ | refine blk_drew ?_ | refine blk_alloc ?_ _ )); refine blk_put (cs := #[.slice Ao14 t682.length co14, .int .i64 0]) ?_ 1 _ rfl; (with_reducible repeat (first | refine blk_drewN ?_ _ | refine blk_drew ?_ | refine blk_alloc ?_ _ )); refine blk_put (cs := #[.slice none 0 0, .int .i64 0]) ?_ 0 _ rfl; (with_reducible repeat (first | refine blk_drewN ?_ _ | refine blk_drew ?_ | refine blk_alloc ?_ _ )); exact BK686.out⟩
              have n3_ : Aside0 (IsS101 w0 ((w13.setCell ⟨gb686, 0, none⟩ (.slice Ao14 t682.length co14)).setCell ⟨gb686, 1, none⟩ (.int .i64 t685)) g s0_0 t680 t681) := ⟨by repeat ((with_reducible first | exact HI0.out | refine IsS101.far ?_ NB0_686.out _))⟩
              have n4_ : Aside0 (KeepBut w ((w13.setCell ⟨gb686, 0, none⟩ (.slice Ao14 t682.length co14)).setCell ⟨gb686, 1, none⟩ (.int .i64 t685)) g none) := ⟨by repeat ((with_reducible first | exact HK.out | refine keep_far ?_ GW686.out _))⟩
              have n5_ : Aside0 (Below w0.heap.size w0 ((w13.setCell ⟨gb686, 0, none⟩ (.slice Ao14 t682.length co14)).setCell ⟨gb686, 1, none⟩ (.int .i64 t685))) := ⟨by repeat ((with_reducible first | exact HB.out | refine below_set ?_ GE686.out))⟩
              (try clear HO684)
              (try clear BK669)
              (try clear BK686)
              (try clear HI0)
              (try clear HK)
              (try clear HB)
              generalize ((w13.setCell ⟨gb686, 0, none⟩ (.slice Ao14 t682.length co14)).setCell ⟨gb686, 1, none⟩ (.int .i64 t685)) = w27 at n0_ n1_ n2_ n3_ n4_ n5_ ⊢
              have HO684 := n0_
              have BK669 := n1_
              have BK686 := n2_
              have HI0 := n3_
              have HK := n4_
              have HB := n5_
              clear n0_ n1_ n2_ n3_ n4_ n5_
              have n0_ := Aside0.mk (Kd.S_drew HO684.out)
              have n1_ := Aside0.mk (blk_drew BK669.out)
              have n2_ := Aside0.mk (blk_drew BK686.out)
              have n3_ := Aside0.mk (IsS101.drew HI0.out)
              have n4_ := Aside0.mk (keep_drew HK.out)
              have n5_ := Aside0.mk (below_drew1 HB.out)
              clear HO684
              clear BK669
              clear BK686
              clear HI0
              clear HK
              clear HB
              have HO684 := n0_
              have BK669 := n1_
              have BK686 := n2_
              have HI0 := n3_
              have HK := n4_
              have HB := n5_
              clear n0_ n1_ n2_ n3_ n4_ n5_
              have p687 : 0 ≤ ((ji19) : Int) := of_decide_eq_true (by (with_reducible assumption))
              have q687 : (ji19) < (t682.length : Int) := of_decide_eq_true (by (with_reducible assumption))
              obtain ⟨ad687, A687_0, c687_0, e687, hx687_0, hl687_0, hi687_0⟩ := at_L2 (Kd.S_reads' HO684.out).2.2 (ji19) p687 q687
              cases e687
              obtain ⟨ce687, hce687, hMe687, hcc687⟩ := Kd.S_get HO684.out [] (ji19) p687 (by exact q687)
              obtain ⟨ve687_0, rfl, ge687_0⟩ := hMe687
              have hv687_0 := hcc687 0 _ rfl
              rw [Nat.add_zero, show ((Kd.slice 3 (Kd.int .i64))).sz = 1 from rfl, Nat.mul_one] at hv687_0
              replace hv687_0 := Option.some.inj (hv687_0.symm.trans hx687_0)
              rw [hv687_0] at ge687_0
              have HL687_0 := Aside0.mk (show Kd.R (Kd.int .i64) 3 _ _ _ _ (rd_L2 t682 (ji19)) from ge687_0)
              clear hv687_0 ge687_0
              have HX687_0 := Aside0.mk hx687_0
              clear hcc687 hce687
              have HR687_0 := Aside0.mk hi687_0
              have HC687_0 := Aside0.mk hl687_0
              clear hi687_0 hl687_0
              replace p687 := eq_true p687
              replace q687 := eq_true q687
              refine start_ (n := 15) (S := fun w' => w'.cell? ⟨gb686, 0, none⟩ = some (.slice (some ad687) t682.length co14) ∧ w'.cell? ⟨gb686, 1, none⟩ = some (.int .i64 t685) ∧ w'.cell? (ad687.add ((ji19)).toNat) = some (.slice A687_0 (rd_L2 t682 (ji19)).length c687_0)) (ds := [14]) #[false, false, false, false, false, false, false, false, false, false, false, false, false, false, false] (by kernel_rfl) rfl rfl ⟨(blk_cell BK686.out 0).trans rfl, (blk_cell BK686.out 1).trans rfl, hx687_0⟩ (fun hHeld => ?_); refine with_tabW spec_l12Any.tab6 spec_l12Any.bits6 (fun HT_ HW_ => ?_)
              generalize w27.drew = w28 at HO684 BK669 BK686 HI0 HK HB HL687_0 HR687_0 HX687_0 hx687_0 hHeld ⊢
              refine pure_ (i := 0) (N := some 16) (v := ?_) (a' := ?_) #[true, false, false, false, false, false, false, false, false, false, false, false, false, false, false] rfl rfl (any_of HT_.out (by kernel_rfl)) (fun _ _ _ h => h) (Or.inl ⟨by rfl, ?_⟩) ?_ ?_
              rotate_left
              · intro w'
                go_simp
                with_reducible rfl
              rotate_left
              · simp only [Act.put, List.setIfInBounds_toArray, List.set_cons_zero, List.set_cons_succ, i64_w, i32_w]
                rfl
              refine pure_ (i := 2) (N := some 18) (v := ?_) (a' := ?_) #[true, false, true, false, false, false, false, false, false, false, false, false, false, false, false] rfl rfl (any_of HT_.out (by kernel_rfl)) (fun _ _ _ h => h) (Or.inl ⟨by rfl, ?_⟩) ?_ ?_
              rotate_left
              · intro w'
                go_simp
                with_reducible rfl
              rotate_left
              · simp only [Act.put, List.setIfInBounds_toArray, List.set_cons_zero, List.set_cons_succ, i64_w, i32_w]
                rfl
              refine pure_ (i := 3) (N := some 19) (v := ?_) (a' := ?_) #[true, false, true, true, false, false, false, false, false, false, false, false, false, false, false] rfl rfl (any_of HT_.out (by kernel_rfl)) (fun _ _ _ h => h) (Or.inl ⟨by rfl, ?_⟩) ?_ ?_
              rotate_left
              · intro w'
                go_simp
                with_reducible rfl
              rotate_left
              · simp only [Act.put, List.setIfInBounds_toArray, List.set_cons_zero, List.set_cons_succ, i64_w, i32_w]
                rfl
              refine pure_ (i := 6) (N := some 22) (v := ?_) (a' := ?_) #[true, false, true, true, false, false, true, false, false, false, false, false, false, false, false] rfl rfl (any_of HT_.out (by kernel_rfl)) (fun _ _ _ h => h) (Or.inl ⟨by rfl, ?_⟩) ?_ ?_
              rotate_left
              · intro w'
                go_simp
                with_reducible rfl
              rotate_left
              · simp only [Act.put, List.setIfInBounds_toArray, List.set_cons_zero, List.set_cons_succ, i64_w, i32_w]
                rfl
              refine pure_ (i := 7) (N := some 23) (v := ?_) (a' := ?_) #[true, false, true, true, false, false, true, true, false, false, false, false, false, false, false] rfl rfl (any_of HT_.out (by kernel_rfl)) (fun _ _ _ h => h) (Or.inl ⟨by rfl, ?_⟩) ?_ ?_
              rotate_left
              · intro w'
                go_simp
                with_reducible rfl
              rotate_left
              · simp only [Act.put, List.setIfInBounds_toArray, List.set_cons_zero, List.set_cons_succ, i64_w, i32_w]
                rfl
              refine pure_ (i := 9) (N := some 25) (v := ?_) (a' := ?_) #[true, false, true, true, false, false, true, true, false, true, false, false, false, false, false] rfl rfl (any_of HT_.out (by kernel_rfl)) (fun _ _ _ h => h) (Or.inl ⟨by rfl, ?_⟩) ?_ ?_
              rotate_left
              · intro w'
                go_simp
                with_reducible rfl
              rotate_left
              · simp only [Act.put, List.setIfInBounds_toArray, List.set_cons_zero, List.set_cons_succ, i64_w, i32_w]
                rfl
              refine pure_ (i := 10) (N := some 26) (v := ?_) (a' := ?_) #[true, false, true, true, false, false, true, true, false, true, true, false, false, false, false] rfl rfl (any_of HT_.out (by kernel_rfl)) (fun _ _ _ h => h) (Or.inl ⟨by rfl, ?_⟩) ?_ ?_
              rotate_left
              · intro w'
                go_simp
                with_reducible rfl
              rotate_left
              · simp only [Act.put, List.setIfInBounds_toArray, List.set_cons_zero, List.set_cons_succ, i64_w, i32_w]
                rfl
              refine take_ (i := 1) (N := some 17) (v := ?_) (a' := ?_) #[true, true, true, true, false, false, true, true, false, true, true, false, false, false, false] rfl rfl (take_ofW HT_.out HW_.out (by kernel_rfl)) (fun _ _ _ h => h) (Or.inl ⟨by rfl, ?_⟩) hHeld ?_ ?_
              rotate_left
              · rintro w' ⟨s0, s1, s2⟩
                go_simp
                with_reducible rfl
              rotate_left
              · simp only [Act.put, List.setIfInBounds_toArray, List.set_cons_zero, List.set_cons_succ, i64_w, i32_w]
                rfl
              refine pure_ (i := 4) (N := some 20) (v := ?_) (a' := ?_) #[true, true, true, true, true, false, true, true, false, true, true, false, false, false, false] rfl rfl (any_of HT_.out (by kernel_rfl)) (fun _ _ _ h => h) (Or.inl ⟨by rfl, ?_⟩) ?_ ?_
              rotate_left
              · intro w'
                go_simp
                with_reducible rfl
              rotate_left
              · simp only [Act.put, List.setIfInBounds_toArray, List.set_cons_zero, List.set_cons_succ, i64_w, i32_w]
                rfl
              refine take_ (i := 5) (N := some 21) (v := ?_) (a' := ?_) #[true, true, true, true, true, true, true, true, false, true, true, false, false, false, false] rfl rfl (take_ofW HT_.out HW_.out (by kernel_rfl)) (fun _ _ _ h => h) (Or.inl ⟨by rfl, ?_⟩) hHeld ?_ ?_
              rotate_left
              · rintro w' ⟨s0, s1, s2⟩
                go_simp
                with_reducible rfl
              rotate_left
              · simp only [Act.put, List.setIfInBounds_toArray, List.set_cons_zero, List.set_cons_succ, i64_w, i32_w]
                rfl
              refine one_ (i := 8) (N := some 24) #[true, true, true, true, true, true, true, true, true, true, true, false, false, false, false] rfl rfl (one_of HT_.out (by kernel_rfl)) (by decide) (fun K hK => ?_)
              refine Kd.R_lit_step (Kd.int .i64) _ 3 ?hg (N := 24) ?hd (xs := ([(-1), 15, 16] : List Int)) (inner := [.int .i64 (-1), .int .i64 15, .int .i64 16]) (ok := fun _ => True) (okp := fun _ => True) ?hr ?hp (fun _ hk => hk) trivial (Below.refl _ _) (Nat.le_refl _) (by simp) ?_; (case hd => rfl); (case hg => rfl); (case hr => (go_simp; done)); (case hp => exact (Reps.one (show Kd.M (Kd.int .i64) _ _ _ (-1) [.int .i64 (-1)] from rfl) (Reps.one (show Kd.M (Kd.int .i64) _ _ _ 15 [.int .i64 15] from rfl) (Reps.one (show Kd.M (Kd.int .i64) _ _ _ 16 [.int .i64 16] from rfl) (Reps.none _ _)))))
              intro v689 w29 ho30 hb hg_ hnew_
              have HS2_ := (hb.cell (World.block_lt_of_cell? _ _ (hHeld.2.2))).trans (hHeld.2.2)
              clear hg_ hnew_
              (rw [← Ny688.out] at ho30)
              have n0_ := Aside0.mk (Kd.S_elder' (by (with_reducible repeat (first | apply Kd.S_alloc | apply Kd.S_drewN | apply Kd.S_drew )); exact HO684.out) (Kd.R_base ho30) hb)
              have n1_ := Aside0.mk (Kd.R_elder' (by (with_reducible repeat (first | apply Kd.R_alloc | apply Kd.R_drewN | apply Kd.R_drew )); exact HL687_0.out) (Kd.R_base ho30) hb)
              have n2_ := Aside0.mk (Kd.R_lower (Kd.R_new' ho30 (Kd.R_lt (by (with_reducible repeat (first | apply Kd.R_alloc | apply Kd.R_drewN | apply Kd.R_drew )); exact HL687_0.out))) (keep_size (w := w) (g := g) (row := none) (by repeat ((with_reducible exact HK.out)))))
              have n3_ := Aside0.mk (IsS101.below (by repeat ((with_reducible exact HI0.out))) hb)
              have n4_ := Aside0.mk (blk_below (g := gb669) (o := .cells #[.slice none 0 0, .int .i64 0] 26 (0, 0)) (by (with_reducible repeat (first | refine blk_drewN ?_ _ | refine blk_drew ?_ | refine blk_alloc ?_ _ )); exact BK669.out) hb)
              have n5_ := Aside0.mk (blk_below (g := gb686) (o := .cells #[.slice (some ad687) t682.length co14, .int .i64 t685] 26 (0, 0)) (by (with_reducible repeat (first | refine blk_drewN ?_ _ | refine blk_drew ?_ | refine blk_alloc ?_ _ )); exact BK686.out) hb)
              have n6_ := Aside0.mk (Kd.C_below (by repeat ((with_reducible exact HR687_0.out))) hb)
              have n7_ := Aside0.mk (pw_cell_below hb HX687_0.out)
              have n8_ := Aside0.mk (KeepBut.trans (by repeat ((with_reducible exact HK.out))) (KeepBut.of_below hb g none) (.inl rfl))
              have n9_ := Aside0.mk (below_step (by repeat ((with_reducible exact HB.out))) hb)
              clear HO684
              clear HL687_0
              clear HI0
              clear BK669
              clear BK686
              clear HR687_0
              clear HX687_0
              clear HK
              clear HB
              have HO684 := n0_
              have HL687_0 := n1_
              have HO690 := n2_
              have HI0 := n3_
              have BK669 := n4_
              have BK686 := n5_
              have HR687_0 := n6_
              have HX687_0 := n7_
              have HK := n8_
              have HB := n9_
              clear n0_ n1_ n2_ n3_ n4_ n5_ n6_ n7_ n8_ n9_
              clear hb ho30
              obtain ⟨Ao31, co31, eo31⟩ := Kd.R_slice HO690.out
              subst eo31
              obtain ⟨ado31, fo31, _⟩ := Kd.at_int (Kd.R_reads' HO690.out).2.2 0 (by decide) (by rw [Ny688.out]; simp)
              cases fo31
              have p26 : 0 ≤ ((ji23) : Int) := of_decide_eq_true (by (with_reducible assumption))
              have q26 : ((ji23) : Int) < (((rd_L2 t682 (ji19)).length : Int) : Int) := of_decide_eq_true (by (with_reducible assumption))
              obtain ⟨go26, co26, eo26, gb26, gl26, cl26, HG26⟩ := Kd.R_form HL687_0.out (by omega)
              (cases eo26)
              have GB26 := Aside0.mk gb26
              have GG26 := Aside0.mk HG26
              clear gb26 gl26 HG26
              obtain ⟨hx26_0, hf26_0⟩ := Kd.R_celln 0 HL687_0.out ((ji23) : Int) p26 q26
              replace p26 := eq_true p26
              replace q26 := eq_true q26
              have n_ := Aside0.mk (Kd.S_mono (ok' := (fun k_ => some k_ ≠ (.slice (some ado31) y688.length co31 : Value).ownBlock)) HO684.out (fun k_ hk => hk.2))
              clear HO684
              have HO684 := n_
              clear n_
              have hq32 : ((ji19) : Int) < (t682.length : Int) := (by have h_ : ((ji19) : Int) < ((t682.length : Int) : Int) := of_decide_eq_true (by (with_reducible assumption)); exact h_)
              obtain ⟨oki32, ce32, hcl32, hM32, hcc32, hok32, hbk32⟩ := Kd.S_borrow HO684.out [] ((ji19) : Int) (of_decide_eq_true (by (with_reducible assumption))) hq32
              obtain ⟨ve32_0, rfl, ge32_0⟩ := hM32
              have hv32 := hcc32 0 _ rfl
              rw [Nat.add_zero, show ((Kd.slice 3 (Kd.int .i64))).sz = 1 from rfl, Nat.mul_one] at hv32
              replace hv32 := Option.some.inj (hv32.symm.trans HX687_0.out)
              subst hv32
              clear hcc32 hcl32
              replace ge32_0 := (show Kd.R (Kd.int .i64) 3 _ _ _ _ (rd_L2 t682 (ji19)) from ge32_0)
              have HP32 := Kd.R_putg ge32_0 ((ji23) : Int) (rd y688 (ji19))
              have HN0_go26 := Aside0.mk (show g ≠ go26 from by have h_ := IsS101.own_ne HI0.out HL687_0.out (by decide); intro e_; exact h_ (by rw [e_]; rfl))
              rw [← Ny692.out] at HP32
              have HS32 := hbk32 HP32.2 (fun k_ e_ => by injection e_ with e_; subst e_; exact ge32_0.1 _ rfl) (x' := y692) (Kd.M_row HP32.1)
              rw [← Ny694.out] at HS32
              have HQ32 := Aside0.mk HS32
              clear HP32 HS32 hbk32 hok32
              refine hK.out _ _ ⟨(blk_cell BK686.out 0).trans rfl, (blk_cell BK686.out 1).trans rfl, HS2_⟩ (fun hHeld => ?_)
              clear hK K
              refine norm_ (a' := ?_) ?_ ?_
              rotate_left
              · show Act.put _ (some 24) _ = _
                simp only [Act.put, List.setIfInBounds_toArray, List.set_cons_zero, List.set_cons_succ, i64_w, i32_w]
                rfl
              refine pure_ (i := 11) (N := some 27) (v := ?_) (a' := ?_) #[true, true, true, true, true, true, true, true, true, true, true, true, false, false, false] rfl rfl (any_of HT_.out (by kernel_rfl)) (fun _ _ _ h => h) (Or.inl ⟨by rfl, ?_⟩) ?_ ?_
              rotate_left
              · intro w'
                go_simp
                with_reducible rfl
              rotate_left
              · simp only [Act.put, List.setIfInBounds_toArray, List.set_cons_zero, List.set_cons_succ, i64_w, i32_w]
                rfl
              refine one_ (i := 12) (N := some 28) #[true, true, true, true, true, true, true, true, true, true, true, true, true, false, false] rfl rfl (one_of HT_.out (by kernel_rfl)) (by decide) (fun K hK => ?_)
              (have p691 : 0 ≤ ((ji19) : Int) := of_decide_eq_true (by (with_reducible assumption)); have q691 : (ji19) < (y688.length : Int) := of_decide_eq_true (by (with_reducible assumption)); obtain ⟨ad691, e691, hx691_0⟩ := Kd.at_int (Kd.R_reads' HO690.out).2.2 (ji19) p691 q691; obtain rfl : ado31 = ad691 := (by injection e691))
              refine value_ (w1 := ?_) (v := ?_) (by rfl) rfl ?_ ?_
              rotate_left 2
              · go_simp
                constructor
                · rfl
                · rfl
              clear hx691_0
              refine hK.out _ _ ⟨(blk_cell BK686.out 0).trans rfl, (blk_cell BK686.out 1).trans rfl, hHeld.2.2⟩ (fun hHeld => ?_)
              clear hK K
              refine norm_ (a' := ?_) ?_ ?_
              rotate_left
              · show Act.put _ (some 28) _ = _
                simp only [Act.put, List.setIfInBounds_toArray, List.set_cons_zero, List.set_cons_succ, i64_w, i32_w]
                rfl
              refine pure_ (i := 13) (N := some 29) (v := ?_) (a' := ?_) #[true, true, true, true, true, true, true, true, true, true, true, true, true, true, false] rfl rfl (any_of HT_.out (by kernel_rfl)) (fun _ _ _ h => h) (Or.inl ⟨by rfl, ?_⟩) ?_ ?_
              rotate_left
              · intro w'
                go_simp
                with_reducible rfl
              rotate_left
              · simp only [Act.put, List.setIfInBounds_toArray, List.set_cons_zero, List.set_cons_succ, i64_w, i32_w]
                rfl
              refine last_ (i := 14) (N := none) #[true, true, true, true, true, true, true, true, true, true, true, true, true, true, true] rfl rfl (one_of HT_.out (by kernel_rfl)) (by decide) (fun K hK => ?_)
              refine skip_ (w1 := ?_) (by rfl) rfl ?_ ?_
              rotate_left
              · go_simp
                rfl
              refine hK.out _ _ ?_
              clear hK K
              refine done_ (done_of HT_.out (by kernel_rfl)) ?_
              have n0_ : Aside0 (Kd.S (Kd.slice 3 (Kd.int .i64)) 58 (w29.setCell ⟨go26, ((ji23) : Int).toNat, none⟩ (.int .i64 (rd y688 (ji19)))) w.heap.size (fun k_ => some k_ ≠ (.slice (some ado31) y688.length co31 : Value).ownBlock) (.slice (some ad687) t682.length co14) y694) := ⟨by (with_reducible repeat (first | apply Kd.S_alloc | apply Kd.S_drewN | apply Kd.S_drew )); exact HQ32.out⟩
              have n1_ : Aside0 (Kd.R (Kd.int .i64) 3 (w29.setCell ⟨go26, ((ji23) : Int).toNat, none⟩ (.int .i64 (rd y688 (ji19)))) w.heap.size (fun _ => True) (.slice (some ado31) y688.length co31) y688) := ⟨by (with_reducible repeat (first | apply Kd.R_alloc | apply Kd.R_drewN | apply Kd.R_drew )); exact Kd.R_mono (Kd.R_far (p := ⟨go26, ((ji23) : Int).toNat, none⟩) (Kd.R_far1 HO690.out rfl ((HL687_0.out.1 _ rfl).2)) (fun _ hk => hk.2) (.int .i64 (rd y688 (ji19)))) (fun _ hk => trivial)⟩
              have n2_ : Aside0 ((w29.setCell ⟨go26, ((ji23) : Int).toNat, none⟩ (.int .i64 (rd y688 (ji19)))).heap[gb669]? = some (.cells #[.slice none 0 0, .int .i64 0] 26 (0, 0))) := ⟨by (with_reducible repeat (first | refine blk_drewN ?_ _ | refine blk_drew ?_ | refine blk_alloc ?_ _ )); refine blk_far ?_ (by have h_ := Kd.R_ne HL687_0.out BK669.out (by decide); intro e_; exact h_ (by rw [e_]; rfl)) _; (with_reducible repeat (first | refine blk_drewN ?_ _ | refine blk_drew ?_ | refine blk_alloc ?_ _ )); exact BK669.out⟩
              have n3_ : Aside0 ((w29.setCell ⟨go26, ((ji23) : Int).toNat, none⟩ (.int .i64 (rd y688 (ji19)))).heap[gb686]? = some (.cells #[.slice (some ad687) t682.length co14, .int .i64 t685] 26 (0, 0))) := ⟨by (with_reducible repeat (first | refine blk_drewN ?_ _ | refine blk_drew ?_ | refine blk_alloc ?_ _ )); refine blk_far ?_ (by have h_ := Kd.R_ne HL687_0.out BK686.out (by decide); intro e_; exact h_ (by rw [e_]; rfl)) _; (with_reducible repeat (first | refine blk_drewN ?_ _ | refine blk_drew ?_ | refine blk_alloc ?_ _ )); exact BK686.out⟩
              have n4_ : Aside0 (IsS101 w0 (w29.setCell ⟨go26, ((ji23) : Int).toNat, none⟩ (.int .i64 (rd y688 (ji19)))) g s0_0 t680 t681) := ⟨by repeat ((with_reducible first | exact HI0.out | refine IsS101.far ?_ HN0_go26.out _))⟩
              have n5_ : Aside0 (KeepBut w (w29.setCell ⟨go26, ((ji23) : Int).toNat, none⟩ (.int .i64 (rd y688 (ji19)))) g none) := ⟨by repeat ((with_reducible first | exact HK.out | refine keep_far ?_ GB26.out _))⟩
              have n6_ : Aside0 (Below w0.heap.size w0 (w29.setCell ⟨go26, ((ji23) : Int).toNat, none⟩ (.int .i64 (rd y688 (ji19))))) := ⟨by repeat ((with_reducible first | exact HB.out | refine below_set ?_ (Nat.le_trans HL.out GB26.out)))⟩
              (try clear HO684)
              (try clear HO690)
              (try clear BK669)
              (try clear BK686)
              (try clear HI0)
              (try clear HK)
              (try clear HB)
              generalize (w29.setCell ⟨go26, ((ji23) : Int).toNat, none⟩ (.int .i64 (rd y688 (ji19)))) = w34 at n0_ n1_ n2_ n3_ n4_ n5_ n6_ ⊢
              have HO684 := n0_
              have HO690 := n1_
              have BK669 := n2_
              have BK686 := n3_
              have HI0 := n4_
              have HK := n5_
              have HB := n6_
              clear n0_ n1_ n2_ n3_ n4_ n5_ n6_
              have hnb35 := NB686_669.out
              have hnc35 := NB669_686.out
              have hnb36 := NB686_0.out
              have hnc36 := NB0_686.out
              have hcz37_0 : w34.cell? ⟨gb686, 0, none⟩ = some (.slice (some ad687) t682.length co14) := (blk_cell BK686.out 0).trans rfl
              have hcz37_1 : w34.cell? ⟨gb686, 1, none⟩ = some (.int .i64 t685) := (blk_cell BK686.out 1).trans rfl
              have hfz37_0 := blk_frozen BK686.out 0
              have hfz37_1 := blk_frozen BK686.out 1
              have hnb38 := NB669_0.out
              have hnc38 := NB0_669.out
              have hcz39_0 : w34.cell? ⟨gb669, 0, none⟩ = some (.slice none 0 0) := (blk_cell BK669.out 0).trans rfl
              have hcz39_1 : w34.cell? ⟨gb669, 1, none⟩ = some (.int .i64 0) := (blk_cell BK669.out 1).trans rfl
              have hfz39_0 := blk_frozen BK669.out 0
              have hfz39_1 := blk_frozen BK669.out 1
              go_wp2
              refine bodyPost_ret (results_cell_row rfl _ _ gb669 26 #[.slice (some ad687) t682.length co14, .int .i64 t685] (0, 0) _ rfl (by (with_reducible repeat (first | refine blk_drewN ?_ _ | refine blk_drew ?_ | refine blk_alloc ?_ _ )); refine blk_put (cs := #[.slice (some ad687) t682.length co14, .int .i64 0]) ?_ 1 _ rfl; (with_reducible repeat (first | refine blk_drewN ?_ _ | refine blk_drew ?_ | refine blk_alloc ?_ _ )); refine blk_put (cs := #[.slice none 0 0, .int .i64 0]) ?_ 0 _ rfl; (with_reducible repeat (first | refine blk_drewN ?_ _ | refine blk_drew ?_ | refine blk_alloc ?_ _ )); exact BK669.out) Try.underlying26 rfl (by kernel_rfl)) rfl ?_
              exact ⟨_, by rfl, by refine spec_l12Any.V_of (ok := fun _ => True) ?_; (with_reducible repeat (first | apply Kd.S_alloc | apply Kd.S_drewN | apply Kd.S_drew )); exact Kd.S_mono (Kd.S_far (p := ⟨gb669, 1, none⟩) (Kd.S_far (p := ⟨gb669, 0, none⟩) (Kd.S_types HO684.out BK669.out (by decide)) (fun _ hk => hk.2) (.slice (some ad687) t682.length co14)) (fun _ hk => hk.2) (.int .i64 t685)) (fun _ hk => trivial), by repeat ((with_reducible first | exact HI0.out | refine IsS101.far ?_ NB0_669.out _)), by repeat ((with_reducible first | exact HB.out | refine below_set ?_ GE669.out)), by repeat ((with_reducible first | exact HK.out | refine keep_far ?_ GW669.out _))⟩
            · rw [if_neg c25] at H
              exact absurd H (by simp)
          · rw [if_neg c24] at H
            exact absurd H (by simp)
        · rw [if_neg c22] at H
          exact absurd H (by simp)
      · rw [if_neg c21] at H
        exact absurd H (by simp)
    · rw [if_neg c20] at H
      exact absurd H (by simp)
  · rw [if_neg c18] at H
    have c18b0 : (t670 == 0) = false := beq_eq_false_iff_ne.mpr c18
    have c18b1 : (t670 != 0) = true := bne_iff_ne.mpr c18
    (rw [c18b0])
    by_cases c40 : t670 = 1
    · rw [if_pos c40] at H
      have c40b0 : (t670 == 1) = true := beq_iff_eq.mpr c40
      have c40b1 : (t670 != 1) = false := bne_eq_false_iff_eq.mpr c40
      clear c40
      obtain ⟨y695, hy695⟩ : ∃ y_ : List Int, y_ = (([(-1), 63, 64] : List Int)) := ⟨_, rfl⟩
      replace H : (if 0 ≤ (Int.tmod t673 3) then (if (Int.tmod t673 3) < (y695.length : Int) then (some (t682, rd y695 (Int.tmod t673 3), t680, t681)) else (none)) else (none)) = some (r1, r2, r3, r4) := by (have H2_ := (Option.bind_some _ _).symm.trans H; rw [hy695]; with_reducible exact H2_)
      have Ny695 := Aside0.mk hy695
      clear hy695
      obtain ⟨ji41, hji41⟩ : ∃ j_ : Int, (Int.tmod t673 3) = j_ := ⟨_, rfl⟩
      replace H : (if 0 ≤ (ji41) then (if (ji41) < (y695.length : Int) then (some (t682, rd y695 (ji41), t680, t681)) else (none)) else (none)) = some (r1, r2, r3, r4) := by (rw [hji41] at H; exact H)
      by_cases c42 : 0 ≤ (ji41)
      · rw [if_pos c42] at H
        have c42b0 : decide (0 ≤ (ji41)) = true := decide_eq_true c42
        clear c42
        by_cases c43 : (ji41) < (y695.length : Int)
        · rw [if_pos c43] at H
          have c43b0 : decide ((ji41) < (y695.length : Int)) = true := decide_eq_true c43
          clear c43
          simp only [Option.some.injEq, Prod.mk.injEq] at H
          obtain ⟨rfl, rfl, rfl, rfl⟩ := H
          go_wp2_with (((with_reducible refine gate_dst (N := 32) rfl ?_); refine Kd.R_lit (Kd.int .i64) _ 3 ?hg (N := 32) ?hd (xs := ([(-1), 63, 64] : List Int)) (inner := [.int .i64 (-1), .int .i64 63, .int .i64 64]) (ok := fun _ => True) (okp := fun _ => True) ?hr ?hp (fun _ hk => hk) trivial (Below.refl _ _) (Nat.le_refl _) (by simp) ?_; (case hd => rfl); (case hg => rfl); (case hr => (go_simp; done)); (case hp => exact (Reps.one (show Kd.M (Kd.int .i64) _ _ _ (-1) [.int .i64 (-1)] from rfl) (Reps.one (show Kd.M (Kd.int .i64) _ _ _ 63 [.int .i64 63] from rfl) (Reps.one (show Kd.M (Kd.int .i64) _ _ _ 64 [.int .i64 64] from rfl) (Reps.none _ _))))); intro v696 w44 ho45 hb hg_ hnew_; clear hg_ hnew_; (rw [← Ny695.out] at ho45); have n0_ := Aside0.mk (Kd.S_elder' (by (with_reducible repeat (first | apply Kd.S_alloc | apply Kd.S_drewN | apply Kd.S_drew )); exact (Kd.S_mono (Kd.S_far (p := ⟨gb686, 1, none⟩) (Kd.S_far (p := ⟨gb686, 0, none⟩) (Kd.S_types HO684.out BK686.out (by decide)) (fun _ hk => hk.2) (.slice Ao14 t682.length co14)) (fun _ hk => hk.2) (.int .i64 t685)) (fun _ h_ => by exact h_.1))) (Kd.R_base ho45) hb); have n1_ := Aside0.mk (Kd.R_lower ho45 (keep_size (w := w) (g := g) (row := none) (by repeat ((with_reducible first | exact HK.out | refine keep_far ?_ GW686.out _))))); have n2_ := Aside0.mk (IsS101.below (show IsS101 w0 ((w13.setCell ⟨gb686, 0, none⟩ (.slice Ao14 t682.length co14)).setCell ⟨gb686, 1, none⟩ (.int .i64 t685)) g s0_0 t680 t681 from by repeat ((with_reducible first | exact HI0.out | refine IsS101.far ?_ NB0_686.out _))) hb); have n3_ := Aside0.mk (blk_below (g := gb669) (o := .cells #[.slice none 0 0, .int .i64 0] 26 (0, 0)) (by (with_reducible repeat (first | refine blk_drewN ?_ _ | refine blk_drew ?_ | refine blk_alloc ?_ _ )); refine blk_far ?_ NB669_686.out _; (with_reducible repeat (first | refine blk_drewN ?_ _ | refine blk_drew ?_ | refine blk_alloc ?_ _ )); refine blk_far ?_ NB669_686.out _; (with_reducible repeat (first | refine blk_drewN ?_ _ | refine blk_drew ?_ | refine blk_alloc ?_ _ )); exact BK669.out) hb); have n4_ := Aside0.mk (blk_below (g := gb686) (o := .cells #[.slice Ao14 t682.length co14, .int .i64 t685] 26 (0, 0)) (by (with_reducible repeat (first | refine blk_drewN ?_ _ | refine blk_drew ?_ | refine blk_alloc ?_ _ )); refine blk_put (cs := #[.slice Ao14 t682.length co14, .int .i64 0]) ?_ 1 _ rfl; (with_reducible repeat (first | refine blk_drewN ?_ _ | refine blk_drew ?_ | refine blk_alloc ?_ _ )); refine blk_put (cs := #[.slice none 0 0, .int .i64 0]) ?_ 0 _ rfl; (with_reducible repeat (first | refine blk_drewN ?_ _ | refine blk_drew ?_ | refine blk_alloc ?_ _ )); exact BK686.out) hb); have n5_ := Aside0.mk (KeepBut.trans (by repeat ((with_reducible first | exact HK.out | refine keep_far ?_ GW686.out _))) (KeepBut.of_below hb g none) (.inl rfl)); have n6_ := Aside0.mk (below_step (by repeat ((with_reducible first | exact HB.out | refine below_set ?_ GE686.out))) hb); clear HO684; clear HI0; clear BK669; clear BK686; clear HK; clear HB; have HO684 := n0_; have HO697 := n1_; have HI0 := n2_; have BK669 := n3_; have BK686 := n4_; have HK := n5_; have HB := n6_; clear n0_ n1_ n2_ n3_ n4_ n5_ n6_; clear hb ho45; obtain ⟨Ao46, co46, eo46⟩ := Kd.R_slice HO697.out; subst eo46; have p698 : 0 ≤ ((ji41) : Int) := of_decide_eq_true (by (with_reducible assumption)); have q698 : (ji41) < (y695.length : Int) := of_decide_eq_true (by (with_reducible assumption)); obtain ⟨ad698, e698, hx698_0⟩ := Kd.at_int (Kd.R_reads' HO697.out).2.2 (ji41) p698 q698; cases e698; replace p698 := eq_true p698; replace q698 := eq_true q698; have hnb47 := NB686_669.out; have hnc47 := NB669_686.out; have hnb48 := NB686_0.out; have hnc48 := NB0_686.out; have hcz49_0 : w44.cell? ⟨gb686, 0, none⟩ = some (.slice Ao14 t682.length co14) := (blk_cell BK686.out 0).trans rfl; have hcz49_1 : w44.cell? ⟨gb686, 1, none⟩ = some (.int .i64 t685) := (blk_cell BK686.out 1).trans rfl; have hfz49_0 := blk_frozen BK686.out 0; have hfz49_1 := blk_frozen BK686.out 1; have hnb50 := NB669_0.out; have hnc50 := NB0_669.out; have hcz51_0 : w44.cell? ⟨gb669, 0, none⟩ = some (.slice none 0 0) := (blk_cell BK669.out 0).trans rfl; have hcz51_1 : w44.cell? ⟨gb669, 1, none⟩ = some (.int .i64 0) := (blk_cell BK669.out 1).trans rfl; have hfz51_0 := blk_frozen BK669.out 0; have hfz51_1 := blk_frozen BK669.out 1))
          refine bodyPost_ret (results_cell_row rfl _ _ gb669 26 #[.slice Ao14 t682.length co14, .int .i64 (rd y695 (ji41))] (0, 0) _ rfl (by (with_reducible repeat (first | refine blk_drewN ?_ _ | refine blk_drew ?_ | refine blk_alloc ?_ _ )); refine blk_put (cs := #[.slice Ao14 t682.length co14, .int .i64 0]) ?_ 1 _ rfl; (with_reducible repeat (first | refine blk_drewN ?_ _ | refine blk_drew ?_ | refine blk_alloc ?_ _ )); refine blk_put (cs := #[.slice none 0 0, .int .i64 0]) ?_ 0 _ rfl; (with_reducible repeat (first | refine blk_drewN ?_ _ | refine blk_drew ?_ | refine blk_alloc ?_ _ )); refine blk_far ?_ NB669_686.out _; (with_reducible repeat (first | refine blk_drewN ?_ _ | refine blk_drew ?_ | refine blk_alloc ?_ _ )); exact BK669.out) Try.underlying26 rfl (by kernel_rfl)) rfl ?_
          exact ⟨_, by rfl, by refine spec_l12Any.V_of (ok := fun _ => True) ?_; (with_reducible repeat (first | apply Kd.S_alloc | apply Kd.S_drewN | apply Kd.S_drew )); exact Kd.S_mono (Kd.S_far (p := ⟨gb669, 1, none⟩) (Kd.S_far (p := ⟨gb669, 0, none⟩) (Kd.S_far (p := ⟨gb686, 1, none⟩) (Kd.S_types (Kd.S_types HO684.out BK686.out (by decide)) BK669.out (by decide)) (fun _ hk => hk.1.2) (.int .i64 (rd y695 (ji41)))) (fun _ hk => hk.2) (.slice Ao14 t682.length co14)) (fun _ hk => hk.2) (.int .i64 (rd y695 (ji41)))) (fun _ hk => trivial), by repeat ((with_reducible first | exact HI0.out | refine IsS101.far ?_ NB0_669.out _ | refine IsS101.far ?_ NB0_686.out _)), by repeat ((with_reducible first | exact HB.out | refine below_set ?_ GE669.out | refine below_set ?_ GE686.out)), by repeat ((with_reducible first | exact HK.out | refine keep_far ?_ GW669.out _ | refine keep_far ?_ GW686.out _))⟩
        · rw [if_neg c43] at H
          exact absurd H (by simp)
      · rw [if_neg c42] at H
        exact absurd H (by simp)
    · rw [if_neg c40] at H
      have c40b0 : (t670 == 1) = false := beq_eq_false_iff_ne.mpr c40
      have c40b1 : (t670 != 1) = true := bne_iff_ne.mpr c40
      by_cases c52 : t670 = 2
      · rw [if_pos c52] at H
        have c52b0 : (t670 == 2) = true := beq_iff_eq.mpr c52
        have c52b1 : (t670 != 2) = false := bne_eq_false_iff_eq.mpr c52
        clear c52
        by_cases c60 : 1 ≤ (t682.length : Int)
        · rw [if_pos c60] at H
          simp only [Option.some.injEq, Prod.mk.injEq] at H
          obtain ⟨rfl, rfl, rfl, rfl⟩ := H
          have hnb55 := NB686_669.out
          have hnc55 := NB669_686.out
          have hnb56 := NB686_0.out
          have hnc56 := NB0_686.out
          have hcz57_0 : w13.cell? ⟨gb686, 0, none⟩ = some (.slice none 0 0) := (blk_cell BK686.out 0).trans rfl
          have hcz57_1 : w13.cell? ⟨gb686, 1, none⟩ = some (.int .i64 0) := (blk_cell BK686.out 1).trans rfl
          have hfz57_0 := blk_frozen BK686.out 0
          have hfz57_1 := blk_frozen BK686.out 1
          have hnb58 := NB669_0.out
          have hnc58 := NB0_669.out
          have hcz59_0 : w13.cell? ⟨gb669, 0, none⟩ = some (.slice none 0 0) := (blk_cell BK669.out 0).trans rfl
          have hcz59_1 : w13.cell? ⟨gb669, 1, none⟩ = some (.int .i64 0) := (blk_cell BK669.out 1).trans rfl
          have hfz59_0 := blk_frozen BK669.out 0
          have hfz59_1 := blk_frozen BK669.out 1
          have hq1 : (1 : Int) ≤ ((t682.length : Nat) : Int) := c60
          obtain ⟨i0, hi0, _, hsz, _⟩ := info_parts info58
          have hcut := cut_from (P := Try.prog) 24 58 .i64 Try.underlying24 hi0 1 hsz Ao14 (t682.length) co14 1 (by omega) hq1
          have hV := Aside0.mk (spec_l12Any.V_drop (Kd.S_types (Kd.S_types (Kd.S_mono (ok' := fun _ => True) HO684.out (fun _ _ => trivial)) BK686.out (by decide)) BK669.out (by decide)) (by omega))
          obtain ⟨A9, hA9⟩ : ∃ A1, A1 = (if co14 = (1 : Int).toNat then Ao14 else (Ao14 : Option Addr).map (·.add ((1 : Int).toNat * 1))) := ⟨_, rfl⟩
          obtain ⟨c9, hc9⟩ : ∃ c1, c1 = co14 - (1 : Int).toNat := ⟨_, rfl⟩
          obtain ⟨y9, hy9⟩ : ∃ y_, y_ = t682.drop 1 := ⟨_, rfl⟩
          have hl9 : y9.length = t682.length - (1 : Int).toNat := (by rw [hy9, List.length_drop]; rfl)
          rw [← hl9, ← hA9, ← hc9] at hcut
          have hV9 : Aside0 (Kd.V (Kd.slice 3 (Kd.int .i64)) 58 w13 w.heap.size (fun k_ => w.heap.size ≤ k_ ∧ ((True ∧ k_ ≠ gb686) ∧ k_ ≠ gb669)) (.slice A9 y9.length c9) y9) := ⟨by rw [hA9, hc9, hy9]; exact hV.out⟩
          have HY9 := Aside0.mk hy9
          clear hA9 hc9 hl9 hy9
          clear hV hi0 hsz
          replace hq1 := eq_true hq1
          go_wp2
          refine bodyPost_ret (results_cell_row rfl _ _ gb669 26 #[.slice A9 y9.length c9, .int .i64 t685] (0, 0) _ rfl (by (with_reducible repeat (first | refine blk_drewN ?_ _ | refine blk_drew ?_ | refine blk_alloc ?_ _ )); refine blk_put (cs := #[.slice A9 y9.length c9, .int .i64 0]) ?_ 1 _ rfl; (with_reducible repeat (first | refine blk_drewN ?_ _ | refine blk_drew ?_ | refine blk_alloc ?_ _ )); refine blk_put (cs := #[.slice none 0 0, .int .i64 0]) ?_ 0 _ rfl; (with_reducible repeat (first | refine blk_drewN ?_ _ | refine blk_drew ?_ | refine blk_alloc ?_ _ )); refine blk_far ?_ NB669_686.out _; (with_reducible repeat (first | refine blk_drewN ?_ _ | refine blk_drew ?_ | refine blk_alloc ?_ _ )); refine blk_far ?_ NB669_686.out _; (with_reducible repeat (first | refine blk_drewN ?_ _ | refine blk_drew ?_ | refine blk_alloc ?_ _ )); refine blk_far ?_ NB669_686.out _; (with_reducible repeat (first | refine blk_drewN ?_ _ | refine blk_drew ?_ | refine blk_alloc ?_ _ )); exact BK669.out) Try.underlying26 rfl (by kernel_rfl)) rfl ?_
          rw [← HY9.out]
          exact ⟨_, rfl, by refine Kd.V_mono (ok := fun k_ => w.heap.size ≤ k_ ∧ ((True ∧ k_ ≠ gb686) ∧ k_ ≠ gb669)) ?_ (fun _ hk => hk.1); repeat (first | exact hV9.out | with_reducible refine Kd.V_far (p := ⟨gb669, 0, none⟩) ?_ (fun _ hk => hk.2.2) _ | with_reducible refine Kd.V_far (p := ⟨gb669, 1, none⟩) ?_ (fun _ hk => hk.2.2) _ | with_reducible refine Kd.V_far (p := ⟨gb686, 0, none⟩) ?_ (fun _ hk => hk.2.1.2) _ | with_reducible refine Kd.V_far (p := ⟨gb686, 1, none⟩) ?_ (fun _ hk => hk.2.1.2) _), by repeat ((with_reducible first | exact HI0.out | refine IsS101.far ?_ NB0_669.out _ | refine IsS101.far ?_ NB0_686.out _)), by repeat ((with_reducible first | exact HB.out | refine below_set ?_ GE669.out | refine below_set ?_ GE686.out)), by repeat ((with_reducible first | exact HK.out | refine keep_far ?_ GW669.out _ | refine keep_far ?_ GW686.out _))⟩
        · rw [if_neg c60] at H
          exact absurd H (by simp)
      · rw [if_neg c52] at H
        have c52b0 : (t670 == 2) = false := beq_eq_false_iff_ne.mpr c52
        have c52b1 : (t670 != 2) = true := bne_iff_ne.mpr c52
        by_cases c53 : t670 = 3
        · rw [if_pos c53] at H
          have c53b0 : (t670 == 3) = true := beq_iff_eq.mpr c53
          have c53b1 : (t670 != 3) = false := bne_eq_false_iff_eq.mpr c53
          clear c53
          by_cases c54 : 0 < (t682.length : Int)
          · rw [if_pos c54] at H
            have c54b0 : decide (0 < (t682.length : Int)) = true := decide_eq_true c54
            have c54b1 : decide (0 < t682.length) = true := decide_eq_true (by omega)
            clear c54
            by_cases c61 : 1 ≤ ((rd_L2 t682 0).length : Int)
            · rw [if_pos c61] at H
              simp only [Option.some.injEq, Prod.mk.injEq] at H
              obtain ⟨rfl, rfl, rfl, rfl⟩ := H
              go_wp2
              have n0_ : Aside0 (Kd.S (Kd.slice 3 (Kd.int .i64)) 58 ((w13.setCell ⟨gb686, 0, none⟩ (.slice Ao14 t682.length co14)).setCell ⟨gb686, 1, none⟩ (.int .i64 t685)) w.heap.size (fun _ => True) (.slice Ao14 t682.length co14) t682) := ⟨by (with_reducible repeat (first | apply Kd.S_alloc | apply Kd.S_drewN | apply Kd.S_drew )); exact Kd.S_mono (Kd.S_far (p := ⟨gb686, 1, none⟩) (Kd.S_far (p := ⟨gb686, 0, none⟩) (Kd.S_types HO684.out BK686.out (by decide)) (fun _ hk => hk.2) (.slice Ao14 t682.length co14)) (fun _ hk => hk.2) (.int .i64 t685)) (fun _ hk => trivial)⟩
              have n1_ : Aside0 (((w13.setCell ⟨gb686, 0, none⟩ (.slice Ao14 t682.length co14)).setCell ⟨gb686, 1, none⟩ (.int .i64 t685)).heap[gb669]? = some (.cells #[.slice none 0 0, .int .i64 0] 26 (0, 0))) := ⟨by (with_reducible repeat (first | refine blk_drewN ?_ _ | refine blk_drew ?_ | refine blk_alloc ?_ _ )); refine blk_far ?_ NB669_686.out _; (with_reducible repeat (first | refine blk_drewN ?_ _ | refine blk_drew ?_ | refine blk_alloc ?_ _ )); refine blk_far ?_ NB669_686.out _; (with_reducible repeat (first | refine blk_drewN ?_ _ | refine blk_drew ?_ | refine blk_alloc ?_ _ )); exact BK669.out⟩
              have n2_ : Aside0 (((w13.setCell ⟨gb686, 0, none⟩ (.slice Ao14 t682.length co14)).setCell ⟨gb686, 1, none⟩ (.int .i64 t685)).heap[gb686]? = some (.cells #[.slice Ao14 t682.length co14, .int .i64 t685] 26 (0, 0))) := ⟨by (with_reducible repeat (first | refine blk_drewN ?_ _ | refine blk_drew ?_ | refine blk_alloc ?_ _ )); refine blk_put (cs := #[.slice Ao14 t682.length co14, .int .i64 0]) ?_ 1 _ rfl; (with_reducible repeat (first | refine blk_drewN ?_ _ | refine blk_drew ?_ | refine blk_alloc ?_ _ )); refine blk_put (cs := #[.slice none 0 0, .int .i64 0]) ?_ 0 _ rfl; (with_reducible repeat (first | refine blk_drewN ?_ _ | refine blk_drew ?_ | refine blk_alloc ?_ _ )); exact BK686.out⟩
              have n3_ : Aside0 (IsS101 w0 ((w13.setCell ⟨gb686, 0, none⟩ (.slice Ao14 t682.length co14)).setCell ⟨gb686, 1, none⟩ (.int .i64 t685)) g s0_0 t680 t681) := ⟨by repeat ((with_reducible first | exact HI0.out | refine IsS101.far ?_ NB0_686.out _))⟩
              have n4_ : Aside0 (KeepBut w ((w13.setCell ⟨gb686, 0, none⟩ (.slice Ao14 t682.length co14)).setCell ⟨gb686, 1, none⟩ (.int .i64 t685)) g none) := ⟨by repeat ((with_reducible first | exact HK.out | refine keep_far ?_ GW686.out _))⟩
              have n5_ : Aside0 (Below w0.heap.size w0 ((w13.setCell ⟨gb686, 0, none⟩ (.slice Ao14 t682.length co14)).setCell ⟨gb686, 1, none⟩ (.int .i64 t685))) := ⟨by repeat ((with_reducible first | exact HB.out | refine below_set ?_ GE686.out))⟩
              (try clear HO684)
              (try clear BK669)
              (try clear BK686)
              (try clear HI0)
              (try clear HK)
              (try clear HB)
              generalize ((w13.setCell ⟨gb686, 0, none⟩ (.slice Ao14 t682.length co14)).setCell ⟨gb686, 1, none⟩ (.int .i64 t685)) = w27 at n0_ n1_ n2_ n3_ n4_ n5_ ⊢
              have HO684 := n0_
              have BK669 := n1_
              have BK686 := n2_
              have HI0 := n3_
              have HK := n4_
              have HB := n5_
              clear n0_ n1_ n2_ n3_ n4_ n5_
              have n0_ := Aside0.mk (Kd.S_drew HO684.out)
              have n1_ := Aside0.mk (blk_drew BK669.out)
              have n2_ := Aside0.mk (blk_drew BK686.out)
              have n3_ := Aside0.mk (IsS101.drew HI0.out)
              have n4_ := Aside0.mk (keep_drew HK.out)
              have n5_ := Aside0.mk (below_drew1 HB.out)
              clear HO684
              clear BK669
              clear BK686
              clear HI0
              clear HK
              clear HB
              have HO684 := n0_
              have BK669 := n1_
              have BK686 := n2_
              have HI0 := n3_
              have HK := n4_
              have HB := n5_
              clear n0_ n1_ n2_ n3_ n4_ n5_
              have p9 : 0 ≤ (0 : Int) := by omega
              have q9 : (0 : Int) < (t682.length : Int) := of_decide_eq_true (by (with_reducible assumption))
              obtain ⟨ad9, A8, c8, e8, hx8, hl8, hi8⟩ := at_L2 (Kd.S_reads' HO684.out).2.2 0 p9 q9
              cases e8
              clear hi8
              obtain ⟨go9, rfl⟩ := Kd.R_head (Kd.S_R HO684.out)
              have hx9 : w27.drew.cell? ⟨go9, 0, none⟩ = some (.slice A8 (rd_L2 t682 0).length c8) := hx8
              clear hx8
              obtain ⟨cells9, hb9⟩ := Kd.R_typed (Kd.S_R HO684.out) go9 rfl
              have hf9 : w27.drew.frozen? ⟨go9, 0, none⟩ = false := blk_frozen hb9 0
              clear hb9
              have GB9 := Aside0.mk (Kd.S_base HO684.out go9 rfl)
              have hn5 : go9 ≠ gb686 := (by have h_ := Kd.S_ne HO684.out BK686.out (by decide); intro e_; exact h_ (by rw [e_]; rfl))
              have hn2 : go9 ≠ gb669 := (by have h_ := Kd.S_ne HO684.out BK669.out (by decide); intro e_; exact h_ (by rw [e_]; rfl))
              have HNg := Aside0.mk (show g ≠ go9 from by have h_ := IsS101.own_neS HI0.out HO684.out (by decide); intro e_; exact h_ (by rw [e_]; rfl))
              have H5 := Aside0.mk hn5
              have H2 := Aside0.mk hn2
              clear hn5 hn2
              have hq1 : (1 : Int) ≤ (((rd_L2 t682 0).length : Nat) : Int) := c61
              obtain ⟨i0, hi0, _, hsz, _⟩ := info_parts info3
              have hcut := cut_from (P := Try.prog) 58 3 .i64 Try.underlying58 hi0 1 hsz A8 ((rd_L2 t682 0).length) c8 1 (by omega) hq1
              have hV := Aside0.mk (spec_l12Any.V_put (Kd.S_types (Kd.S_types (Kd.S_mono (ok' := fun _ => True) HO684.out (fun _ _ => trivial)) BK686.out (by decide)) BK669.out (by decide)) (by omega) hx9 (by omega))
              obtain ⟨A9, hA9⟩ : ∃ A1, A1 = (if c8 = (1 : Int).toNat then A8 else (A8 : Option Addr).map (·.add ((1 : Int).toNat * 1))) := ⟨_, rfl⟩
              obtain ⟨c9, hc9⟩ : ∃ c1, c1 = c8 - (1 : Int).toNat := ⟨_, rfl⟩
              obtain ⟨y9, hy9⟩ : ∃ y_, y_ = (rd_L2 t682 0).drop 1 := ⟨_, rfl⟩
              have hl9 : y9.length = (rd_L2 t682 0).length - (1 : Int).toNat := (by rw [hy9, List.length_drop]; rfl)
              rw [← hl9, ← hA9, ← hc9] at hcut
              have hV9 : Aside0 (Kd.V (Kd.slice 3 (Kd.int .i64)) 58 (w27.drew.setCell ⟨go9, 0, none⟩ (.slice A9 y9.length c9)) w.heap.size (fun k_ => w.heap.size ≤ k_ ∧ ((True ∧ k_ ≠ gb686) ∧ k_ ≠ gb669)) (.slice (some ⟨go9, 0, none⟩) t682.length co14) (t682.set 0 y9)) := ⟨by rw [hA9, hc9, hl9, hy9]; exact hV.out⟩
              have HY9 := Aside0.mk hy9
              clear hA9 hc9 hl9 hy9
              clear hV hi0 hsz
              replace hq1 := eq_true hq1
              replace p9 := eq_true p9
              have q9b : (0 < t682.length) = True := eq_true (by omega)
              replace q9 := eq_true q9
              refine start_ (n := 9) (S := fun w' => w'.cell? ⟨gb686, 0, none⟩ = some (.slice (some ⟨go9, 0, none⟩) t682.length co14) ∧ w'.cell? ⟨gb686, 1, none⟩ = some (.int .i64 t685) ∧ w'.cell? ⟨go9, 0, none⟩ = some (.slice A8 (rd_L2 t682 0).length c8)) (ds := [8]) #[false, false, false, false, false, false, false, false, false] (by kernel_rfl) rfl rfl ⟨(blk_cell BK686.out 0).trans rfl, (blk_cell BK686.out 1).trans rfl, hx9⟩ (fun hHeld => ?_); refine with_tabW spec_l12Any.tab12 spec_l12Any.bits12 (fun HT_ HW_ => ?_)
              generalize w27.drew = w8_ at HO684 BK669 BK686 HI0 HK HB hx9 hf9 hV9 hHeld ⊢
              refine pure_ (i := 0) (N := some 46) (v := ?_) (a' := ?_) #[true, false, false, false, false, false, false, false, false] rfl rfl (any_of HT_.out (by kernel_rfl)) (fun _ _ _ h => h) (Or.inl ⟨by rfl, ?_⟩) ?_ ?_
              rotate_left
              · intro w'
                go_simp
                with_reducible rfl
              rotate_left
              · simp only [Act.put, List.setIfInBounds_toArray, List.set_cons_zero, List.set_cons_succ, i64_w, i32_w]
                rfl
              refine pure_ (i := 2) (N := some 48) (v := ?_) (a' := ?_) #[true, false, true, false, false, false, false, false, false] rfl rfl (any_of HT_.out (by kernel_rfl)) (fun _ _ _ h => h) (Or.inl ⟨by rfl, ?_⟩) ?_ ?_
              rotate_left
              · intro w'
                go_simp
                with_reducible rfl
              rotate_left
              · simp only [Act.put, List.setIfInBounds_toArray, List.set_cons_zero, List.set_cons_succ, i64_w, i32_w]
                rfl
              refine take_ (i := 1) (N := some 47) (v := ?_) (a' := ?_) #[true, true, true, false, false, false, false, false, false] rfl rfl (take_ofW HT_.out HW_.out (by kernel_rfl)) (fun _ _ _ h => h) (Or.inl ⟨by rfl, ?_⟩) hHeld ?_ ?_
              rotate_left
              · rintro w' ⟨s0, s1, s2⟩
                go_simp
                with_reducible rfl
              rotate_left
              · simp only [Act.put, List.setIfInBounds_toArray, List.set_cons_zero, List.set_cons_succ, i64_w, i32_w]
                rfl
              refine take_ (i := 3) (N := some 49) (v := ?_) (a' := ?_) #[true, true, true, true, false, false, false, false, false] rfl rfl (take_ofW HT_.out HW_.out (by kernel_rfl)) (fun _ _ _ h => h) (Or.inl ⟨by rfl, ?_⟩) hHeld ?_ ?_
              rotate_left
              · rintro w' ⟨s0, s1, s2⟩
                go_simp
                with_reducible rfl
              rotate_left
              · simp only [Act.put, List.setIfInBounds_toArray, List.set_cons_zero, List.set_cons_succ, i64_w, i32_w]
                rfl
              refine pure_ (i := 4) (N := some 50) (v := ?_) (a' := ?_) #[true, true, true, true, true, false, false, false, false] rfl rfl (any_of HT_.out (by kernel_rfl)) (fun _ _ _ h => h) (Or.inl ⟨by rfl, ?_⟩) ?_ ?_
              rotate_left
              · intro w'
                go_simp
                with_reducible rfl
              rotate_left
              · simp only [Act.put, List.setIfInBounds_toArray, List.set_cons_zero, List.set_cons_succ, i64_w, i32_w]
                rfl
              refine take_ (i := 5) (N := some 51) (v := ?_) (a' := ?_) #[true, true, true, true, true, true, false, false, false] rfl rfl (take_ofW HT_.out HW_.out (by kernel_rfl)) (fun _ _ _ h => h) (Or.inl ⟨by rfl, ?_⟩) hHeld ?_ ?_
              rotate_left
              · rintro w' ⟨s0, s1, s2⟩
                go_simp
                with_reducible rfl
              rotate_left
              · simp only [Act.put, List.setIfInBounds_toArray, List.set_cons_zero, List.set_cons_succ, i64_w, i32_w]
                rfl
              refine pure_ (i := 6) (N := some 52) (v := ?_) (a' := ?_) #[true, true, true, true, true, true, true, false, false] rfl rfl (any_of HT_.out (by kernel_rfl)) (fun _ _ _ h => h) (Or.inl ⟨by rfl, ?_⟩) ?_ ?_
              rotate_left
              · intro w'
                go_simp
                with_reducible rfl
              rotate_left
              · simp only [Act.put, List.setIfInBounds_toArray, List.set_cons_zero, List.set_cons_succ, i64_w, i32_w]
                rfl
              refine pure_ (i := 7) (N := some 53) (v := ?_) (a' := ?_) #[true, true, true, true, true, true, true, true, false] rfl rfl (any_of HT_.out (by kernel_rfl)) (fun _ _ _ h => h) (Or.inl ⟨by rfl, ?_⟩) ?_ ?_
              rotate_left
              · intro w'
                go_simp
                with_reducible rfl
              rotate_left
              · simp only [Act.put, List.setIfInBounds_toArray, List.set_cons_zero, List.set_cons_succ, i64_w, i32_w]
                rfl
              refine last_ (i := 8) (N := none) #[true, true, true, true, true, true, true, true, true] rfl rfl (one_of HT_.out (by kernel_rfl)) (by decide) (fun K hK => ?_)
              refine skip_ (w1 := ?_) (by rfl) rfl ?_ ?_
              rotate_left
              · go_simp
                rfl
              refine hK.out _ _ ?_
              clear hK K
              refine done_ (done_of HT_.out (by kernel_rfl)) ?_
              have n1_ : Aside0 ((w8_.setCell ⟨go9, 0, none⟩ (.slice A9 y9.length c9)).heap[gb669]? = some (.cells #[.slice none 0 0, .int .i64 0] 26 (0, 0))) := ⟨by (with_reducible repeat (first | refine blk_drewN ?_ _ | refine blk_drew ?_ | refine blk_alloc ?_ _ )); refine blk_far ?_ (Ne.symm H2.out) _; (with_reducible repeat (first | refine blk_drewN ?_ _ | refine blk_drew ?_ | refine blk_alloc ?_ _ )); exact BK669.out⟩
              have n2_ : Aside0 ((w8_.setCell ⟨go9, 0, none⟩ (.slice A9 y9.length c9)).heap[gb686]? = some (.cells #[.slice (some ⟨go9, 0, none⟩) t682.length co14, .int .i64 t685] 26 (0, 0))) := ⟨by (with_reducible repeat (first | refine blk_drewN ?_ _ | refine blk_drew ?_ | refine blk_alloc ?_ _ )); refine blk_far ?_ (Ne.symm H5.out) _; (with_reducible repeat (first | refine blk_drewN ?_ _ | refine blk_drew ?_ | refine blk_alloc ?_ _ )); exact BK686.out⟩
              have n3_ : Aside0 (IsS101 w0 (w8_.setCell ⟨go9, 0, none⟩ (.slice A9 y9.length c9)) g s0_0 t680 t681) := ⟨by repeat ((with_reducible first | exact HI0.out | refine IsS101.far ?_ HNg.out _))⟩
              have n4_ : Aside0 (KeepBut w (w8_.setCell ⟨go9, 0, none⟩ (.slice A9 y9.length c9)) g none) := ⟨by repeat ((with_reducible first | exact HK.out | refine keep_far ?_ GB9.out _))⟩
              have n5_ : Aside0 (Below w0.heap.size w0 (w8_.setCell ⟨go9, 0, none⟩ (.slice A9 y9.length c9))) := ⟨by repeat ((with_reducible first | exact HB.out | refine below_set ?_ (Nat.le_trans HL.out GB9.out)))⟩
              clear HO684 BK669 BK686 HI0 HK HB hx9 hf9 hHeld
              generalize (w8_.setCell ⟨go9, 0, none⟩ (.slice A9 y9.length c9)) = w9_ at hV9 n1_ n2_ n3_ n4_ n5_ ⊢
              have BK669 := n1_
              have BK686 := n2_
              have HI0 := n3_
              have HK := n4_
              have HB := n5_
              clear n1_ n2_ n3_ n4_ n5_
              have hnb1 := NB686_669.out
              have hnc1 := NB669_686.out
              have hnb2 := NB686_0.out
              have hnc2 := NB0_686.out
              have hcz1 : w9_.cell? ⟨gb686, 0, none⟩ = some (.slice (some ⟨go9, 0, none⟩) t682.length co14) := (blk_cell BK686.out 0).trans rfl
              have hcz2 : w9_.cell? ⟨gb686, 1, none⟩ = some (.int .i64 t685) := (blk_cell BK686.out 1).trans rfl
              have hfz1 := blk_frozen BK686.out 0
              have hfz2 := blk_frozen BK686.out 1
              have hnb3 := NB669_0.out
              have hnc3 := NB0_669.out
              have hcz3 : w9_.cell? ⟨gb669, 0, none⟩ = some (.slice none 0 0) := (blk_cell BK669.out 0).trans rfl
              have hcz4 : w9_.cell? ⟨gb669, 1, none⟩ = some (.int .i64 0) := (blk_cell BK669.out 1).trans rfl
              have hfz3 := blk_frozen BK669.out 0
              have hfz4 := blk_frozen BK669.out 1
              go_wp2
              refine bodyPost_ret (results_cell_row rfl _ _ gb669 26 #[.slice (some ⟨go9, 0, none⟩) t682.length co14, .int .i64 t685] (0, 0) _ rfl (by (with_reducible repeat (first | refine blk_drewN ?_ _ | refine blk_drew ?_ | refine blk_alloc ?_ _ )); refine blk_put (cs := #[.slice (some ⟨go9, 0, none⟩) t682.length co14, .int .i64 0]) ?_ 1 _ rfl; (with_reducible repeat (first | refine blk_drewN ?_ _ | refine blk_drew ?_ | refine blk_alloc ?_ _ )); refine blk_put (cs := #[.slice none 0 0, .int .i64 0]) ?_ 0 _ rfl; (with_reducible repeat (first | refine blk_drewN ?_ _ | refine blk_drew ?_ | refine blk_alloc ?_ _ )); exact BK669.out) Try.underlying26 rfl (by kernel_rfl)) rfl ?_
              rw [← HY9.out]
              exact ⟨_, rfl, by refine Kd.V_mono (ok := fun k_ => w.heap.size ≤ k_ ∧ ((True ∧ k_ ≠ gb686) ∧ k_ ≠ gb669)) ?_ (fun _ hk => hk.1); repeat (first | exact hV9.out | with_reducible refine Kd.V_far (p := ⟨gb669, 0, none⟩) ?_ (fun _ hk => hk.2.2) _ | with_reducible refine Kd.V_far (p := ⟨gb669, 1, none⟩) ?_ (fun _ hk => hk.2.2) _), by repeat ((with_reducible first | exact HI0.out | refine IsS101.far ?_ NB0_669.out _)), by repeat ((with_reducible first | exact HB.out | refine below_set ?_ GE669.out)), by repeat ((with_reducible first | exact HK.out | refine keep_far ?_ GW669.out _))⟩
            · rw [if_neg c61] at H
              exact absurd H (by simp)
          · rw [if_neg c54] at H
            exact absurd H (by simp)
        · rw [if_neg c53] at H
          have c53b0 : (t670 == 3) = false := beq_eq_false_iff_ne.mpr c53
          have c53b1 : (t670 != 3) = true := bne_iff_ne.mpr c53
          simp only [Option.some.injEq, Prod.mk.injEq] at H
          obtain ⟨rfl, rfl, rfl, rfl⟩ := H
          have hnb55 := NB686_669.out
          have hnc55 := NB669_686.out
          have hnb56 := NB686_0.out
          have hnc56 := NB0_686.out
          have hcz57_0 : w13.cell? ⟨gb686, 0, none⟩ = some (.slice none 0 0) := (blk_cell BK686.out 0).trans rfl
          have hcz57_1 : w13.cell? ⟨gb686, 1, none⟩ = some (.int .i64 0) := (blk_cell BK686.out 1).trans rfl
          have hfz57_0 := blk_frozen BK686.out 0
          have hfz57_1 := blk_frozen BK686.out 1
          have hnb58 := NB669_0.out
          have hnc58 := NB0_669.out
          have hcz59_0 : w13.cell? ⟨gb669, 0, none⟩ = some (.slice none 0 0) := (blk_cell BK669.out 0).trans rfl
          have hcz59_1 : w13.cell? ⟨gb669, 1, none⟩ = some (.int .i64 0) := (blk_cell BK669.out 1).trans rfl
          have hfz59_0 := blk_frozen BK669.out 0
          have hfz59_1 := blk_frozen BK669.out 1
          go_wp2
          refine bodyPost_ret (results_cell_row rfl _ _ gb669 26 #[.slice Ao14 t682.length co14, .int .i64 t685] (0, 0) _ rfl (by (with_reducible repeat (first | refine blk_drewN ?_ _ | refine blk_drew ?_ | refine blk_alloc ?_ _ )); refine blk_put (cs := #[.slice Ao14 t682.length co14, .int .i64 0]) ?_ 1 _ rfl; (with_reducible repeat (first | refine blk_drewN ?_ _ | refine blk_drew ?_ | refine blk_alloc ?_ _ )); refine blk_put (cs := #[.slice none 0 0, .int .i64 0]) ?_ 0 _ rfl; (with_reducible repeat (first | refine blk_drewN ?_ _ | refine blk_drew ?_ | refine blk_alloc ?_ _ )); refine blk_far ?_ NB669_686.out _; (with_reducible repeat (first | refine blk_drewN ?_ _ | refine blk_drew ?_ | refine blk_alloc ?_ _ )); refine blk_far ?_ NB669_686.out _; (with_reducible repeat (first | refine blk_drewN ?_ _ | refine blk_drew ?_ | refine blk_alloc ?_ _ )); exact BK669.out) Try.underlying26 rfl (by kernel_rfl)) rfl ?_
          exact ⟨_, by rfl, by refine spec_l12Any.V_of (ok := fun _ => True) ?_; (with_reducible repeat (first | apply Kd.S_alloc | apply Kd.S_drewN | apply Kd.S_drew )); exact Kd.S_mono (Kd.S_far (p := ⟨gb669, 1, none⟩) (Kd.S_far (p := ⟨gb669, 0, none⟩) (Kd.S_far (p := ⟨gb686, 1, none⟩) (Kd.S_far (p := ⟨gb686, 0, none⟩) (Kd.S_types (Kd.S_types HO684.out BK686.out (by decide)) BK669.out (by decide)) (fun _ hk => hk.1.2) (.slice Ao14 t682.length co14)) (fun _ hk => hk.1.2) (.int .i64 t685)) (fun _ hk => hk.2) (.slice Ao14 t682.length co14)) (fun _ hk => hk.2) (.int .i64 t685)) (fun _ hk => trivial), by repeat ((with_reducible first | exact HI0.out | refine IsS101.far ?_ NB0_669.out _ | refine IsS101.far ?_ NB0_686.out _)), by repeat ((with_reducible first | exact HB.out | refine below_set ?_ GE669.out | refine below_set ?_ GE686.out)), by repeat ((with_reducible first | exact HK.out | refine keep_far ?_ GW669.out _ | refine keep_far ?_ GW686.out _))⟩
def spec_DrawSketchBump.f (k : Nat) (l0 : List Int) : Option ((List (List Int)) × Int × ByteArray) := (spec_l01New.f k l0).bind fun bt670 => ((spec_l12Key.f bt670.1 bt670.2.1 bt670.2.2).bind fun bt674 => ((spec_l12Any.f k bt670.1 bt674.2.1 bt674.2.2).bind fun bt677 => (some (bt677.1, bt677.2.1, bt674.1))))
set_option maxHeartbeats 8000000 in
set_option maxRecDepth 100000 in
theorem spec_DrawSketchBump.calls (k : Nat) (A0 : Option Addr) (c0 : Nat) (l0 : List Int) (r1 : List (List Int)) (r2 : Int) (r3 : ByteArray) (w : World) (hr0 : Kd.C (Kd.int .u8) w A0 l0.length l0) (hc0 : l0.length ≤ c0) (h : spec_DrawSketchBump.f k l0 = some (r1, r2, r3)) :
    Calls Try.prog 48 #[.slice A0 l0.length c0] w fun e w' => ∃ v0_ : Value, e = .returned (.tuple #[.agg #[v0_, .int .i64 r2], .string r3]) ∧ Kd.V (Kd.slice 3 (Kd.int .i64)) 58 w' w.heap.size (fun k_ => (w.heap.size ≤ k_)) v0_ r1 ∧ Below w.heap.size w w' := by
  have hu26 := Try.underlying26
  have HR0 := Aside0.mk hr0
  have HC0 := Aside0.mk hc0
  clear hr0 hc0
  have HB := Aside0.mk (Below.refl w.heap.size w)
  have H : ((spec_l01New.f k l0).bind fun bt670 => ((spec_l12Key.f bt670.1 bt670.2.1 bt670.2.2).bind fun bt674 => ((spec_l12Any.f k bt670.1 bt674.2.1 bt674.2.2).bind fun bt677 => (some (bt677.1, bt677.2.1, bt674.1))))) = some (r1, r2, r3) := h
  clear h
  replace H := Option.bind_eq_some_iff.mp H
  obtain ⟨⟨t670, t671, t672⟩, A20, H⟩ := H
  replace H : ((spec_l12Key.f t670 t671 t672).bind fun bt674 => ((spec_l12Any.f k t670 bt674.2.1 bt674.2.2).bind fun bt677 => (some (bt677.1, bt677.2.1, bt674.1)))) = some (r1, r2, r3) := H
  have A2 := Aside0.mk A20
  clear A20
  replace H := Option.bind_eq_some_iff.mp H
  obtain ⟨⟨t674, t675, t676⟩, A30, H⟩ := H
  replace H : ((spec_l12Any.f k t670 t675 t676).bind fun bt677 => (some (bt677.1, bt677.2.1, t674))) = some (r1, r2, r3) := H
  have A3 := Aside0.mk A30
  clear A30
  replace H := Option.bind_eq_some_iff.mp H
  obtain ⟨⟨t677, t680, t681, t682⟩, A40, H⟩ := H
  replace H : (some (t677, t680, t674)) = some (r1, r2, r3) := H
  have A4 := Aside0.mk A40
  clear A40
  simp only [Option.some.injEq, Prod.mk.injEq] at H
  obtain ⟨rfl, rfl, rfl⟩ := H
  go_enter Try.func48, Try.ntmps48
  go_wp2_with (first | ((with_reducible refine gate_dst (N := 2) rfl ?_); refine box_event ?hg (N := 2) ?hd (cs := #[.slice none 0 0, .int .i64 0]) (t := 26) ?hr ?_; (case hd => rfl); (case hg => rfl); (case hr => (go_simp; done)); intro gb669 hg w5 hbox hb; have n0_ := Aside0.mk (below_step (by repeat ((with_reducible exact HB.out))) hb); have n1_ := Aside0.mk (hbox); have n2_ := Aside0.mk ((by rw [hg]; exact (below_size (by repeat ((with_reducible exact HB.out)))) : w.heap.size ≤ gb669)); have n3_ := Aside0.mk ((by rw [hg]; exact (below_size (by repeat ((with_reducible exact HB.out)))) : w.heap.size ≤ gb669)); clear HB; have HB := n0_; have BK669 := n1_; have GW669 := n2_; have GE669 := n3_; clear n0_ n1_ n2_ n3_; clear hb hbox hg) | ((with_reducible refine gate_callee (f := 68) rfl ?_); refine goesL_ (some 7) rfl rfl Try.func68 (by kernel_rfl) rfl #[.slice A0 l0.length c0] rfl (by (try simp only [List.map_toArray, List.map_cons, List.map_nil]); rfl) ?_; (with_reducible refine (spec_l01New.calls k _ _ l0 t670 t671 t672 w _ ?side1 ?side2 ?side3 A2.out).mono ?_); (case side1 => repeat ((with_reducible exact HB.out))); (case side2 => exact HR0.out); (case side3 => exact HC0.out); rintro e w6 ⟨g673, rfl, hi, hb, hb2⟩; refine ⟨_, rfl, ?_⟩; have n0_ := Aside0.mk (blk_below (g := gb669) (o := .cells #[.slice none 0 0, .int .i64 0] 26 (0, 0)) (by (with_reducible repeat (first | refine blk_drewN ?_ _ | refine blk_drew ?_ | refine blk_alloc ?_ _ )); exact BK669.out) hb2); have n1_ := Aside0.mk (hb); have n2_ := Aside0.mk (hi); have n3_ := Aside0.mk (IsS101.ne_blk hi (blk_below (g := gb669) (o := .cells #[.slice none 0 0, .int .i64 0] 26 (0, 0)) (by (with_reducible repeat (first | refine blk_drewN ?_ _ | refine blk_drew ?_ | refine blk_alloc ?_ _ )); exact BK669.out) hb2) (by decide)); have n4_ := Aside0.mk (Ne.symm (IsS101.ne_blk hi (blk_below (g := gb669) (o := .cells #[.slice none 0 0, .int .i64 0] 26 (0, 0)) (by (with_reducible repeat (first | refine blk_drewN ?_ _ | refine blk_drew ?_ | refine blk_alloc ?_ _ )); exact BK669.out) hb2) (by decide))); clear BK669; clear HB; have BK669 := n0_; have HB := n1_; have HI673 := n2_; have NB673_669 := n3_; have NB669_673 := n4_; clear n0_ n1_ n2_ n3_ n4_; (try clear hb); (try clear hb2); (try clear hk); (try clear hi)) | ((with_reducible refine gate_callee (f := 70) rfl ?_); refine goesL_ (some 9) rfl rfl Try.func70 (by kernel_rfl) rfl #[.pointer (some ⟨g673, 0, none⟩)] rfl (by (try simp only [List.map_toArray, List.map_cons, List.map_nil]); rfl) ?_; (with_reducible refine (spec_l12Key.calls g673 t670 t671 t672 t674 t675 t676 w _ ?side1 ?side2 A3.out).mono ?_); (case side1 => repeat ((with_reducible exact HI673.out))); (case side2 => repeat ((with_reducible exact HB.out))); rintro e w7 ⟨rfl, hi, hb, hk⟩; refine ⟨_, rfl, ?_⟩; have n0_ := Aside0.mk (KeepBut.blk hk (g' := gb669) (o := .cells #[.slice none 0 0, .int .i64 0] 26 (0, 0)) (by (with_reducible repeat (first | refine blk_drewN ?_ _ | refine blk_drew ?_ | refine blk_alloc ?_ _ )); exact BK669.out) NB669_673.out (by simp)); have n1_ := Aside0.mk (hb); have n2_ := Aside0.mk (hi); clear BK669; clear HB; clear HI673; have BK669 := n0_; have HB := n1_; have HI673 := n2_; clear n0_ n1_ n2_; (try clear hb); (try clear hb2); (try clear hk); (try clear hi)) | ((with_reducible refine gate_callee (f := 87) rfl ?_); refine goesL_ (some 11) rfl rfl Try.func87 (by kernel_rfl) rfl #[.pointer (some ⟨g673, 0, none⟩)] rfl (by (try simp only [List.map_toArray, List.map_cons, List.map_nil]); rfl) ?_; (with_reducible refine (spec_l12Any.calls k g673 t670 t675 t676 t677 t680 t681 t682 w _ ?side1 ?side2 A4.out).mono ?_); (case side1 => repeat ((with_reducible exact HI673.out))); (case side2 => repeat ((with_reducible exact HB.out))); rintro e w8 ⟨v678, rfl, ho0, hi, hb, hk⟩; refine ⟨_, rfl, ?_⟩; have n0_ := Aside0.mk (KeepBut.blk hk (g' := gb669) (o := .cells #[.slice none 0 0, .int .i64 0] 26 (0, 0)) (by (with_reducible repeat (first | refine blk_drewN ?_ _ | refine blk_drew ?_ | refine blk_alloc ?_ _ )); exact BK669.out) NB669_673.out (by simp)); have n1_ := Aside0.mk (Kd.V_lower (Kd.V_mono (ok' := fun k_ => (w.heap.size ≤ k_) ∧ k_ ≠ gb669 ∧ k_ ≠ g673) ho0 (fun k_ hk_ => ⟨(Nat.le_trans (below_size (by repeat ((with_reducible exact HB.out)))) hk_), (Kd.freshB (g := gb669) (o := .cells #[.slice none 0 0, .int .i64 0] 26 (0, 0)) (by (with_reducible repeat (first | refine blk_drewN ?_ _ | refine blk_drew ?_ | refine blk_alloc ?_ _ )); exact BK669.out) k_ hk_), (IsS101.fresh (by repeat ((with_reducible exact HI673.out))) k_ hk_)⟩)) (below_size (by repeat ((with_reducible exact HB.out))))); have n2_ := Aside0.mk (hb); have n3_ := Aside0.mk (hi); clear BK669; clear HB; clear HI673; have BK669 := n0_; have HO679 := n1_; have HB := n2_; have HI673 := n3_; clear n0_ n1_ n2_ n3_; (try clear hb); (try clear hb2); (try clear hk); (try clear hi); (try clear ho0); obtain ⟨Ao9, co9, eo9⟩ := Kd.V_slice HO679.out; subst eo9; have hnb10 := NB669_673.out; have hnc10 := NB673_669.out; have hcz11_0 : w8.cell? ⟨gb669, 0, none⟩ = some (.slice none 0 0) := (blk_cell BK669.out 0).trans rfl; have hcz11_1 : w8.cell? ⟨gb669, 1, none⟩ = some (.int .i64 0) := (blk_cell BK669.out 1).trans rfl; have hfz11_0 := blk_frozen BK669.out 0; have hfz11_1 := blk_frozen BK669.out 1))
  refine bodyPost_ret (results_ct rfl _ _ gb669 26 #[.slice Ao9 t677.length co9, .int .i64 t680] (0, 0) _ rfl (by (with_reducible repeat (first | refine blk_drewN ?_ _ | refine blk_drew ?_ | refine blk_alloc ?_ _ )); refine blk_put (cs := #[.slice Ao9 t677.length co9, .int .i64 0]) ?_ 1 _ rfl; (with_reducible repeat (first | refine blk_drewN ?_ _ | refine blk_drew ?_ | refine blk_alloc ?_ _ )); refine blk_put (cs := #[.slice none 0 0, .int .i64 0]) ?_ 0 _ rfl; (with_reducible repeat (first | refine blk_drewN ?_ _ | refine blk_drew ?_ | refine blk_alloc ?_ _ )); exact BK669.out) Try.underlying26 rfl (by kernel_rfl)) rfl ?_
  exact ⟨_, by rfl, by (with_reducible repeat (first | apply Kd.V_alloc | apply Kd.V_drewN | apply Kd.V_drew )); exact Kd.V_mono (Kd.V_far (p := ⟨gb669, 1, none⟩) (Kd.V_far (p := ⟨gb669, 0, none⟩) (Kd.V_mono HO679.out (fun k_ hk => (⟨hk, hk.2.1⟩ : _ ∧ k_ ≠ gb669))) (fun _ hk => hk.2) (.slice Ao9 t677.length co9)) (fun _ hk => hk.2) (.int .i64 t680)) (fun _ hk => hk.1.1), by repeat ((with_reducible first | exact HB.out | refine below_set ?_ GE669.out))⟩
def spec_l01PickInt.f (s0_0 : List Int) (s0_1 : Int) (s0_2 : Int) (l1 : List Int) : Option (Int × Int × Int) := (spec_l01Below.f s0_0 s0_1 s0_2 (l1.length : Int)).bind fun bt683 => (if 0 ≤ bt683.1 then (if bt683.1 < (l1.length : Int) then (some (rd l1 bt683.1, bt683.2.1, bt683.2.2)) else (none)) else (none))
set_option maxHeartbeats 8000000 in
set_option maxRecDepth 100000 in
theorem spec_l01PickInt.calls (g : Nat) (s0_0 : List Int) (s0_1 : Int) (s0_2 : Int) (A1 : Option Addr) (c1 : Nat) (l1 : List Int) (r1 : Int) (r2 : Int) (r3 : Int) (w0 w : World) (hI : IsS101 w0 w g s0_0 s0_1 s0_2) (hB : Below w0.heap.size w0 w) (hr1 : Kd.C (Kd.int .i64) w A1 l1.length l1) (hc1 : l1.length ≤ c1) (hf1 : ∀ ad, A1 = some ad → 0 < l1.length → ad.block ≠ g) (h : spec_l01PickInt.f s0_0 s0_1 s0_2 l1 = some (r1, r2, r3)) :
    Calls Try.prog 88 #[.pointer (some ⟨g, 0, none⟩), .slice A1 l1.length c1] w fun e w' => e = .returned (.int .i64 r1) ∧ IsS101 w0 w' g s0_0 r2 r3 ∧ Below w0.heap.size w0 w' ∧ KeepBut w w' g none := by
  have HR1 := Aside0.mk hr1
  have HC1 := Aside0.mk hc1
  clear hr1 hc1
  have HI0 := Aside0.mk hI
  have HK := Aside0.mk (KeepBut.refl w g none)
  have HL := Aside0.mk hB.size
  clear hI
  have HW0 := Aside0.mk hB.size
  have HB := Aside0.mk hB
  clear hB
  have H : ((spec_l01Below.f s0_0 s0_1 s0_2 (l1.length : Int)).bind fun bt683 => (if 0 ≤ bt683.1 then (if bt683.1 < (l1.length : Int) then (some (rd l1 bt683.1, bt683.2.1, bt683.2.2)) else (none)) else (none))) = some (r1, r2, r3) := h
  clear h
  replace H := Option.bind_eq_some_iff.mp H
  obtain ⟨⟨t683, t684, t685⟩, A30, H⟩ := H
  replace H : (if 0 ≤ t683 then (if t683 < (l1.length : Int) then (some (rd l1 t683, t684, t685)) else (none)) else (none)) = some (r1, r2, r3) := H
  have A3 := Aside0.mk A30
  clear A30
  by_cases c4 : 0 ≤ t683
  · rw [if_pos c4] at H
    have c4b0 : decide (0 ≤ t683) = true := decide_eq_true c4
    clear c4
    by_cases c5 : t683 < (l1.length : Int)
    · rw [if_pos c5] at H
      have c5b0 : decide (t683 < (l1.length : Int)) = true := decide_eq_true c5
      clear c5
      simp only [Option.some.injEq, Prod.mk.injEq] at H
      obtain ⟨rfl, rfl, rfl⟩ := H
      go_enter Try.func88, Try.ntmps88
      go_wp2_with (((with_reducible refine gate_callee (f := 69) rfl ?_); refine goesL_ (some 9) rfl rfl Try.func69 (by kernel_rfl) rfl #[.pointer (some ⟨g, 0, none⟩), .int .i64 (l1.length : Int)] rfl (by (try simp only [List.map_toArray, List.map_cons, List.map_nil]); rfl) ?_; (with_reducible refine (spec_l01Below.calls g s0_0 s0_1 s0_2 (l1.length : Int) t683 t684 t685 w0 _ ?side1 ?side2 A3.out).mono ?_); (case side1 => repeat ((with_reducible exact HI0.out))); (case side2 => repeat ((with_reducible exact HB.out))); rintro e w6 ⟨rfl, hi, hb, hk⟩; refine ⟨_, rfl, ?_⟩; have n0_ := Aside0.mk (KeepBut.trans (by repeat ((with_reducible exact HK.out))) hk (.inl rfl)); have n1_ := Aside0.mk (hb); have n2_ := Aside0.mk (hi); clear HK; clear HB; clear HI0; have HK := n0_; have HB := n1_; have HI0 := n2_; clear n0_ n1_ n2_; (try clear hb); (try clear hb2); (try clear hk); (try clear hi); have p686 : 0 ≤ (t683 : Int) := of_decide_eq_true (by (with_reducible assumption)); have q686 : t683 < (l1.length : Int) := of_decide_eq_true (by (with_reducible assumption)); obtain ⟨ad686, e686, hx686_0⟩ := Kd.at_int HR1.out t683 p686 q686; cases e686; replace hx686_0 := keep_cell HK.out hx686_0 (by (rw [add_block]; exact hf1 _ rfl (by omega))); replace p686 := eq_true p686; replace q686 := eq_true q686))
      go_ret
      exact ⟨by rfl, by repeat ((with_reducible exact HI0.out)), by repeat ((with_reducible exact HB.out)), by repeat ((with_reducible exact HK.out))⟩
    · rw [if_neg c5] at H
      exact absurd H (by simp)
  · rw [if_neg c4] at H
    exact absurd H (by simp)
mutual
def spec_l01Text.j0 : Nat → Int → List Int → Int → Int → Option (ByteArray × Int × Int)
  | 0, _, _, _, _ => none
  | k + 1, x1, x1000, x1001, x1002 => spec_l01Text.l0 k x1 (([] : List Int)) 0 x1000 x1001 x1002
def spec_l01Text.l0 : Nat → Int → List Int → Int → List Int → Int → Int → Option (ByteArray × Int × Int)
  | 0, _, _, _, _, _, _ => none
  | k + 1, x1, x5, x6, x1000, x1001, x1002 => if x6 < x1 then ((spec_l01Byte.f x1000 x1001 x1002).bind fun bt690 => (if x5.length < 140737488355328 then (spec_l01Text.l0 k x1 (x5 ++ [(bt690.1) % 256]) (wrap64 (x6 + 1)) x1000 bt690.2.1 bt690.2.2) else (none))) else (some (strOfNums x5, x1001, x1002))
end
def spec_l01Text.f (k : Nat) (s0_0 : List Int) (s0_1 : Int) (s0_2 : Int) (a1 : Int) : Option (ByteArray × Int × Int) := if a1 > 5000 then (spec_l01Text.j0 k 5000 s0_0 s0_1 s0_2) else (spec_l01Text.j0 k a1 s0_0 s0_1 s0_2)
set_option maxHeartbeats 8000000 in
set_option maxRecDepth 100000 in
theorem spec_l01Text.calls (k : Nat) (g : Nat) (s0_0 : List Int) (s0_1 : Int) (s0_2 : Int) (a1 : Int) (r1 : ByteArray) (r2 : Int) (r3 : Int) (w0 w : World) (hI : IsS101 w0 w g s0_0 s0_1 s0_2) (hB : Below w0.heap.size w0 w) (h : spec_l01Text.f k s0_0 s0_1 s0_2 a1 = some (r1, r2, r3)) :
    Calls Try.prog 89 #[.pointer (some ⟨g, 0, none⟩), .int .i64 a1] w fun e w' => e = .returned (.string r1) ∧ IsS101 w0 w' g s0_0 r2 r3 ∧ Below w0.heap.size w0 w' ∧ KeepBut w w' g none := by
  have HI0 := Aside0.mk hI
  have HK := Aside0.mk (KeepBut.refl w g none)
  have HL := Aside0.mk hB.size
  clear hI
  have HW0 := Aside0.mk hB.size
  have HB := Aside0.mk hB
  clear hB
  have H : (if a1 > 5000 then (spec_l01Text.j0 k 5000 s0_0 s0_1 s0_2) else (spec_l01Text.j0 k a1 s0_0 s0_1 s0_2)) = some (r1, r2, r3) := h
  clear h
  have HC3 := Aside0.mk H
  clear H
  go_enter Try.func89, Try.ntmps89
  go_upto_if 8 with (fail)
  go_cut [1] (fun v1 wc => ∃ (kq : Nat) (x1_2 : Int), v1 = .int .i64 x1_2 ∧ Aside0 (spec_l01Text.j0 kq x1_2 s0_0 s0_1 s0_2 = some (r1, r2, r3)) ∧ Aside0 (kq ≤ k) ∧ Aside0 (IsS101 w0 wc g s0_0 s0_1 s0_2) ∧ Aside0 (KeepBut w wc g none) ∧ Aside0 (Below w0.heap.size w0 wc))
  case first =>
    have H := HC3.out
    clear HC3
    by_cases c4 : a1 > 5000
    · rw [if_pos c4] at H
      have c4b0 : decide (5000 < a1) = true := decide_eq_true c4
      clear c4
      (rw [c4b0])
      have H' := Aside0.mk H
      clear H
      go_wp2
      go_meet
      case rel => exact ⟨_, (5000), (by rfl), H', ⟨by omega⟩, ⟨by repeat ((with_reducible exact HI0.out))⟩, ⟨by repeat ((with_reducible exact HK.out))⟩, ⟨by repeat ((with_reducible exact HB.out))⟩⟩
    · rw [if_neg c4] at H
      have c4b0 : decide (5000 < a1) = false := decide_eq_false c4
      clear c4
      (rw [c4b0])
      have H' := Aside0.mk H
      clear H
      go_wp2
      go_meet
      case rel => exact ⟨_, (a1), (by rfl), H', ⟨by omega⟩, ⟨by repeat ((with_reducible exact HI0.out))⟩, ⟨by repeat ((with_reducible exact HK.out))⟩, ⟨by repeat ((with_reducible exact HB.out))⟩⟩
  case rest =>
    clear HC3
    obtain ⟨kq, x1_2, rfl, HA, HJ2, HI0, HK, HB⟩ := hcut
    cases kq with
    | zero => exact absurd HA.out (by simp [spec_l01Text.j0])
    | succ kj2 =>
      have H := HA.out
      clear HA
      simp only [spec_l01Text.j0] at H
      obtain ⟨y687, hy687⟩ : ∃ y_ : List Int, y_ = (([] : List Int)) := ⟨_, rfl⟩
      replace H : (spec_l01Text.l0 kj2 x1_2 y687 0 s0_0 s0_1 s0_2) = some (r1, r2, r3) := by (rw [hy687]; with_reducible exact H)
      have Ny687 := Aside0.mk hy687
      clear hy687
      have H' := Aside0.mk H
      clear H
      go_wp2_with (((with_reducible refine gate_dst (N := 9) rfl ?_); refine Kd.R_lit (Kd.int .u8) _ 5 ?hg (N := 9) ?hd (xs := ([] : List Int)) (inner := []) (ok := fun _ => True) (okp := fun _ => True) ?hr ?hp (fun _ hk => hk) trivial (Below.refl _ _) (Nat.le_refl _) (by simp) ?_; (case hd => rfl); (case hg => rfl); (case hr => (go_simp; done)); (case hp => exact (Reps.none _ _)); intro v688 w5 ho6 hb hg_ hnew_; clear hg_ hnew_; (rw [← Ny687.out] at ho6); have n0_ := Aside0.mk (Kd.R_lower ho6 (keep_size (w := w) (g := g) (row := none) (by repeat ((with_reducible exact HK.out))))); have n1_ := Aside0.mk (IsS101.below (by repeat ((with_reducible exact HI0.out))) hb); have n2_ := Aside0.mk (KeepBut.trans (by repeat ((with_reducible exact HK.out))) (KeepBut.of_below hb g none) (.inl rfl)); have n3_ := Aside0.mk (below_step (by repeat ((with_reducible exact HB.out))) hb); clear HI0; clear HK; clear HB; have HO689 := n0_; have HI0 := n1_; have HK := n2_; have HB := n3_; clear n0_ n1_ n2_ n3_; clear hb ho6))
      go_loopg [5, 6] kj2 (fun kq v5 v6 w' => ∃ (x5_2 : List Int) (x6_2 : Int) (x1001_2 : Int) (x1002_2 : Int), v6 = .int .i64 x6_2 ∧ Aside0 (spec_l01Text.l0 kq x1_2 x5_2 x6_2 s0_0 x1001_2 x1002_2 = some (r1, r2, r3)) ∧ Aside0 (kq ≤ kj2) ∧ Aside0 (Kd.R (Kd.int .u8) 5 w' w.heap.size (fun _ => True) v5 x5_2) ∧ Aside0 (IsS101 w0 w' g s0_0 x1001_2 x1002_2) ∧ Aside0 (KeepBut w w' g none) ∧ Aside0 (Below w0.heap.size w0 w'))
      case atStart => exact ⟨(y687), (0), (s0_1), (s0_2), (by rfl), H', ⟨Nat.le_refl _⟩, ⟨by (with_reducible repeat (first | apply Kd.R_alloc | apply Kd.R_drewN | apply Kd.R_drew )); exact HO689.out⟩, ⟨by repeat ((with_reducible exact HI0.out))⟩, ⟨by repeat ((with_reducible exact HK.out))⟩, ⟨by repeat ((with_reducible exact HB.out))⟩⟩
      case round =>
        clear H'
        obtain ⟨x5_2, x6_2, x1001_2, x1002_2, rfl, HA, HK2, HO_5, HI0, HK, HB⟩ := hrel
        cases gk with
        | zero => exact absurd HA.out (by simp [spec_l01Text.l0])
        | succ k2 =>
          have H := HA.out
          clear HA
          simp only [spec_l01Text.l0] at H
          by_cases c7 : x6_2 < x1_2
          · rw [if_pos c7] at H
            have c7b0 : decide (x6_2 < x1_2) = true := decide_eq_true c7
            clear c7
            replace H := Option.bind_eq_some_iff.mp H
            obtain ⟨⟨t690, t691, t692⟩, A80, H⟩ := H
            replace H : (if x5_2.length < 140737488355328 then (spec_l01Text.l0 k2 x1_2 (x5_2 ++ [(t690) % 256]) (wrap64 (x6_2 + 1)) s0_0 t691 t692) else (none)) = some (r1, r2, r3) := H
            have A8 := Aside0.mk A80
            clear A80
            by_cases c9 : x5_2.length < 140737488355328
            · rw [if_pos c9] at H
              have LMc9 := Aside0.mk c9
              clear c9
              obtain ⟨y693, hy693⟩ : ∃ y_ : List Int, y_ = (x5_2 ++ [(t690) % 256]) := ⟨_, rfl⟩
              replace H : (spec_l01Text.l0 k2 x1_2 y693 (wrap64 (x6_2 + 1)) s0_0 t691 t692) = some (r1, r2, r3) := by (rw [hy693]; with_reducible exact H)
              have Ny693 := Aside0.mk hy693
              clear hy693
              have H' := Aside0.mk H
              clear H
              go_wp2_with (first | ((with_reducible refine gate_callee (f := 85) rfl ?_); refine goesL_ (some 17) rfl rfl Try.func85 (by kernel_rfl) rfl #[.pointer (some ⟨g, 0, none⟩)] rfl (by (try simp only [List.map_toArray, List.map_cons, List.map_nil]); rfl) ?_; (with_reducible refine (spec_l01Byte.calls g s0_0 x1001_2 x1002_2 t690 t691 t692 w0 _ ?side1 ?side2 A8.out).mono ?_); (case side1 => repeat ((with_reducible exact HI0.out))); (case side2 => repeat ((with_reducible exact HB.out))); rintro e w10 ⟨rfl, hi, hb, hk⟩; refine ⟨_, rfl, ?_⟩; have n0_ := Aside0.mk (Kd.R_mono (Kd.R_keep (IsS101.apart (show IsS101 w0 _ g s0_0 x1001_2 x1002_2 from by repeat ((with_reducible exact HI0.out))) (by (with_reducible repeat (first | apply Kd.R_alloc | apply Kd.R_drewN | apply Kd.R_drew )); exact HO_5.out) (by decide)) hk (fun _ h => h.2)) (fun _ h => h.1)); have n1_ := Aside0.mk (KeepBut.trans (by repeat ((with_reducible exact HK.out))) hk (.inl rfl)); have n2_ := Aside0.mk (hb); have n3_ := Aside0.mk (hi); clear HO_5; clear HK; clear HB; clear HI0; have HO_5 := n0_; have HK := n1_; have HB := n2_; have HI0 := n3_; clear n0_ n1_ n2_ n3_; (try clear hb); (try clear hb2); (try clear hk); (try clear hi)) | ((with_reducible refine gate_builtin (b := .append) (xs := #[.tmp 15, .tmp 19]) rfl ?_); at_builtin; refine Kd.R_append (Kd.int .u8) w.heap.size rfl (.tmp 15) (.tmp 19) 36 5 (.int .u8 0) 1 rfl Try.underlying36 info5 rfl (by decide) (by omega) u5 x5_2 ((t690) % 256) [.int .u8 ((t690) % 256)] (fun _ => True) (fun _ => False) rfl rfl ?aP (fun _ hk => hk.elim) ?aF ?aO (Below.refl _ _) ?aS ?aL ?_; (case aP => exact rfl); (case aF => exact (fun _ _ => trivial)); (case aO => exact (by (with_reducible repeat (first | apply Kd.R_alloc | apply Kd.R_drewN | apply Kd.R_drew )); exact HO_5.out)); (case aS => exact (keep_size (w := w) (g := g) (row := none) (by repeat ((with_reducible exact HK.out))))); (case aL => have := LMc9.out; omega); intro v694 w11 ho hb hg hat; rw [← Ny693.out] at ho; have n0_ := Aside0.mk (IsS101.grown (w0 := w0) (g := g) (f0 := s0_0) (f1 := t691) (f2 := t692) (by repeat ((with_reducible exact HI0.out))) hg (IsS101.own_ne HI0.out HO_5.out (by decide))); have n1_ := Aside0.mk (below_weaken (by repeat ((with_reducible exact HB.out))) HL.out hb); have n2_ := Aside0.mk (KeepBut.trans (by repeat ((with_reducible exact HK.out))) (KeepBut.of_grown hg g) (Kd.R_base2 HO_5.out)); have n3_ := Aside0.mk (ho); clear HI0; clear HB; clear HK; clear HO_5; have HI0 := n0_; have HB := n1_; have HK := n2_; have HO695 := n3_; clear n0_ n1_ n2_ n3_; clear ho hb hg hat))
              go_roundg k2
              case measure => have := HJ2.out; have := HK2.out; omega
              case rel => exact ⟨(y693), (wrap64 (x6_2 + 1)), (t691), (t692), (by rfl), H', ⟨by have := HJ2.out; have := HK2.out; omega⟩, ⟨by (with_reducible repeat (first | apply Kd.R_alloc | apply Kd.R_drewN | apply Kd.R_drew )); exact HO695.out⟩, ⟨by repeat ((with_reducible exact HI0.out))⟩, ⟨by repeat ((with_reducible exact HK.out))⟩, ⟨by repeat ((with_reducible exact HB.out))⟩⟩
            · rw [if_neg c9] at H
              exact absurd H (by simp)
          · rw [if_neg c7] at H
            have c7b0 : decide (x6_2 < x1_2) = false := decide_eq_false c7
            clear c7
            simp only [Option.some.injEq, Prod.mk.injEq] at H
            obtain ⟨rfl, rfl, rfl⟩ := H
            have hcv12 := own_string (P := Try.prog) Try.underlying36 Try.underlying5 Try.underlying9 (Kd.own_of_R HO_5.out)
            go_wp2
            go_ret
            exact ⟨by rfl, by repeat ((with_reducible exact HI0.out)), by repeat ((with_reducible exact HB.out)), by repeat ((with_reducible exact HK.out))⟩
def spec_DrawSketchPlace.f (k : Nat) (l0 : List Int) : Option (Int × ByteArray) := (spec_l01New.f k l0).bind fun bt696 => ((spec_l01PickInt.f bt696.1 bt696.2.1 bt696.2.2 (([0, 1, 2, 255, 256, (-1), 9223372036854775807] : List Int))).bind fun bt703 => ((spec_l01Below.f bt696.1 bt703.2.1 bt703.2.2 6).bind fun bt706 => ((spec_l01Text.f k bt696.1 bt706.2.1 bt706.2.2 bt706.1).bind fun bt709 => (some (bt703.1, bt709.1)))))
set_option maxHeartbeats 8000000 in
set_option maxRecDepth 100000 in
theorem spec_DrawSketchPlace.calls (k : Nat) (A0 : Option Addr) (c0 : Nat) (l0 : List Int) (r1 : Int) (r2 : ByteArray) (w : World) (hr0 : Kd.C (Kd.int .u8) w A0 l0.length l0) (hc0 : l0.length ≤ c0) (h : spec_DrawSketchPlace.f k l0 = some (r1, r2)) :
    Calls Try.prog 49 #[.slice A0 l0.length c0] w fun e w' => e = .returned (.tuple #[.int .i64 r1, .string r2]) ∧ Below w.heap.size w w' := by
  have HR0 := Aside0.mk hr0
  have HC0 := Aside0.mk hc0
  clear hr0 hc0
  have HB := Aside0.mk (Below.refl w.heap.size w)
  have H : ((spec_l01New.f k l0).bind fun bt696 => ((spec_l01PickInt.f bt696.1 bt696.2.1 bt696.2.2 (([0, 1, 2, 255, 256, (-1), 9223372036854775807] : List Int))).bind fun bt703 => ((spec_l01Below.f bt696.1 bt703.2.1 bt703.2.2 6).bind fun bt706 => ((spec_l01Text.f k bt696.1 bt706.2.1 bt706.2.2 bt706.1).bind fun bt709 => (some (bt703.1, bt709.1)))))) = some (r1, r2) := h
  clear h
  replace H := Option.bind_eq_some_iff.mp H
  obtain ⟨⟨t696, t697, t698⟩, A20, H⟩ := H
  replace H : ((spec_l01PickInt.f t696 t697 t698 (([0, 1, 2, 255, 256, (-1), 9223372036854775807] : List Int))).bind fun bt703 => ((spec_l01Below.f t696 bt703.2.1 bt703.2.2 6).bind fun bt706 => ((spec_l01Text.f k t696 bt706.2.1 bt706.2.2 bt706.1).bind fun bt709 => (some (bt703.1, bt709.1))))) = some (r1, r2) := H
  have A2 := Aside0.mk A20
  clear A20
  obtain ⟨y700, hy700⟩ : ∃ y_ : List Int, y_ = (([0, 1, 2, 255, 256, (-1), 9223372036854775807] : List Int)) := ⟨_, rfl⟩
  replace H : ((spec_l01PickInt.f t696 t697 t698 y700).bind fun bt703 => ((spec_l01Below.f t696 bt703.2.1 bt703.2.2 6).bind fun bt706 => ((spec_l01Text.f k t696 bt706.2.1 bt706.2.2 bt706.1).bind fun bt709 => (some (bt703.1, bt709.1))))) = some (r1, r2) := by (rw [hy700]; with_reducible exact H)
  have Ny700 := Aside0.mk hy700
  clear hy700
  replace H := Option.bind_eq_some_iff.mp H
  obtain ⟨⟨t703, t704, t705⟩, A30, H⟩ := H
  replace H : ((spec_l01Below.f t696 t704 t705 6).bind fun bt706 => ((spec_l01Text.f k t696 bt706.2.1 bt706.2.2 bt706.1).bind fun bt709 => (some (t703, bt709.1)))) = some (r1, r2) := H
  have A3 := Aside0.mk A30
  clear A30
  replace H := Option.bind_eq_some_iff.mp H
  obtain ⟨⟨t706, t707, t708⟩, A40, H⟩ := H
  replace H : ((spec_l01Text.f k t696 t707 t708 t706).bind fun bt709 => (some (t703, bt709.1))) = some (r1, r2) := H
  have A4 := Aside0.mk A40
  clear A40
  replace H := Option.bind_eq_some_iff.mp H
  obtain ⟨⟨t709, t710, t711⟩, A50, H⟩ := H
  replace H : (some (t703, t709)) = some (r1, r2) := H
  have A5 := Aside0.mk A50
  clear A50
  simp only [Option.some.injEq, Prod.mk.injEq] at H
  obtain ⟨rfl, rfl⟩ := H
  go_enter Try.func49, Try.ntmps49
  go_wp2_with (first | ((with_reducible refine gate_callee (f := 68) rfl ?_); refine goesL_ (some 7) rfl rfl Try.func68 (by kernel_rfl) rfl #[.slice A0 l0.length c0] rfl (by (try simp only [List.map_toArray, List.map_cons, List.map_nil]); rfl) ?_; (with_reducible refine (spec_l01New.calls k _ _ l0 t696 t697 t698 w _ ?side1 ?side2 ?side3 A2.out).mono ?_); (case side1 => repeat ((with_reducible exact HB.out))); (case side2 => exact HR0.out); (case side3 => exact HC0.out); rintro e w6 ⟨g699, rfl, hi, hb, hb2⟩; refine ⟨_, rfl, ?_⟩; have n0_ := Aside0.mk (hb); have n1_ := Aside0.mk (hi); clear HB; have HB := n0_; have HI699 := n1_; clear n0_ n1_; (try clear hb); (try clear hb2); (try clear hk); (try clear hi)) | ((with_reducible refine gate_dst (N := 9) rfl ?_); refine Kd.R_lit (Kd.int .i64) _ 3 ?hg (N := 9) ?hd (xs := ([0, 1, 2, 255, 256, (-1), 9223372036854775807] : List Int)) (inner := [.int .i64 0, .int .i64 1, .int .i64 2, .int .i64 255, .int .i64 256, .int .i64 (-1), .int .i64 9223372036854775807]) (ok := fun _ => True) (okp := fun _ => True) ?hr ?hp (fun _ hk => hk) trivial (Below.refl _ _) (Nat.le_refl _) (by simp) ?_; (case hd => rfl); (case hg => rfl); (case hr => (go_simp; done)); (case hp => exact (Reps.one (show Kd.M (Kd.int .i64) _ _ _ 0 [.int .i64 0] from rfl) (Reps.one (show Kd.M (Kd.int .i64) _ _ _ 1 [.int .i64 1] from rfl) (Reps.one (show Kd.M (Kd.int .i64) _ _ _ 2 [.int .i64 2] from rfl) (Reps.one (show Kd.M (Kd.int .i64) _ _ _ 255 [.int .i64 255] from rfl) (Reps.one (show Kd.M (Kd.int .i64) _ _ _ 256 [.int .i64 256] from rfl) (Reps.one (show Kd.M (Kd.int .i64) _ _ _ (-1) [.int .i64 (-1)] from rfl) (Reps.one (show Kd.M (Kd.int .i64) _ _ _ 9223372036854775807 [.int .i64 9223372036854775807] from rfl) (Reps.none _ _))))))))); intro v701 w7 ho8 hb hg_ hnew_; clear hg_ hnew_; (rw [← Ny700.out] at ho8); have n0_ := Aside0.mk (Kd.R_lower ho8 (below_size (by repeat ((with_reducible exact HB.out))))); have n1_ := Aside0.mk (IsS101.below (by repeat ((with_reducible exact HI699.out))) hb); have n2_ := Aside0.mk (below_step (by repeat ((with_reducible exact HB.out))) hb); clear HI699; clear HB; have HO702 := n0_; have HI699 := n1_; have HB := n2_; clear n0_ n1_ n2_; clear hb ho8; obtain ⟨Ao9, co9, eo9⟩ := Kd.R_slice HO702.out; subst eo9) | ((with_reducible refine gate_callee (f := 88) rfl ?_); refine goesL_ (some 10) rfl rfl Try.func88 (by kernel_rfl) rfl #[.pointer (some ⟨g699, 0, none⟩), .slice Ao9 y700.length co9] rfl (by (try simp only [List.map_toArray, List.map_cons, List.map_nil]); rfl) ?_; (with_reducible refine (spec_l01PickInt.calls g699 t696 t697 t698 _ _ y700 t703 t704 t705 w _ ?side1 ?side2 ?side3 ?side4 ?side5 A3.out).mono ?_); (case side1 => repeat ((with_reducible exact HI699.out))); (case side2 => repeat ((with_reducible exact HB.out))); (case side3 => repeat (exact (Kd.R_reads' HO702.out).2.2)); (case side4 => exact (Kd.R_reads' HO702.out).2.1); (case side5 => exact far_slice (IsS101.own_ne HI699.out HO702.out (by decide))); rintro e w10 ⟨rfl, hi, hb, hk⟩; refine ⟨_, rfl, ?_⟩; have n0_ := Aside0.mk (Kd.R_mono (Kd.R_keep (IsS101.apart (show IsS101 w _ g699 t696 t697 t698 from by repeat ((with_reducible exact HI699.out))) (by (with_reducible repeat (first | apply Kd.R_alloc | apply Kd.R_drewN | apply Kd.R_drew )); exact HO702.out) (by decide)) hk (fun _ h => h.2)) (fun _ h => h.1)); have n1_ := Aside0.mk (hb); have n2_ := Aside0.mk (hi); clear HO702; clear HB; clear HI699; have HO702 := n0_; have HB := n1_; have HI699 := n2_; clear n0_ n1_ n2_; (try clear hb); (try clear hb2); (try clear hk); (try clear hi)) | ((with_reducible refine gate_callee (f := 69) rfl ?_); refine goesL_ (some 14) rfl rfl Try.func69 (by kernel_rfl) rfl #[.pointer (some ⟨g699, 0, none⟩), .int .i64 6] rfl (by (try simp only [List.map_toArray, List.map_cons, List.map_nil]); rfl) ?_; (with_reducible refine (spec_l01Below.calls g699 t696 t704 t705 6 t706 t707 t708 w _ ?side1 ?side2 A4.out).mono ?_); (case side1 => repeat ((with_reducible exact HI699.out))); (case side2 => repeat ((with_reducible exact HB.out))); rintro e w11 ⟨rfl, hi, hb, hk⟩; refine ⟨_, rfl, ?_⟩; have n0_ := Aside0.mk (Kd.R_mono (Kd.R_keep (IsS101.apart (show IsS101 w _ g699 t696 t704 t705 from by repeat ((with_reducible exact HI699.out))) (by (with_reducible repeat (first | apply Kd.R_alloc | apply Kd.R_drewN | apply Kd.R_drew )); exact HO702.out) (by decide)) hk (fun _ h => h.2)) (fun _ h => h.1)); have n1_ := Aside0.mk (hb); have n2_ := Aside0.mk (hi); clear HO702; clear HB; clear HI699; have HO702 := n0_; have HB := n1_; have HI699 := n2_; clear n0_ n1_ n2_; (try clear hb); (try clear hb2); (try clear hk); (try clear hi)) | ((with_reducible refine gate_callee (f := 89) rfl ?_); refine goesL_ (some 15) rfl rfl Try.func89 (by kernel_rfl) rfl #[.pointer (some ⟨g699, 0, none⟩), .int .i64 t706] rfl (by (try simp only [List.map_toArray, List.map_cons, List.map_nil]); rfl) ?_; (with_reducible refine (spec_l01Text.calls k g699 t696 t707 t708 t706 t709 t710 t711 w _ ?side1 ?side2 A5.out).mono ?_); (case side1 => repeat ((with_reducible exact HI699.out))); (case side2 => repeat ((with_reducible exact HB.out))); rintro e w12 ⟨rfl, hi, hb, hk⟩; refine ⟨_, rfl, ?_⟩; have n0_ := Aside0.mk (Kd.R_mono (Kd.R_keep (IsS101.apart (show IsS101 w _ g699 t696 t707 t708 from by repeat ((with_reducible exact HI699.out))) (by (with_reducible repeat (first | apply Kd.R_alloc | apply Kd.R_drewN | apply Kd.R_drew )); exact HO702.out) (by decide)) hk (fun _ h => h.2)) (fun _ h => h.1)); have n1_ := Aside0.mk (hb); have n2_ := Aside0.mk (hi); clear HO702; clear HB; clear HI699; have HO702 := n0_; have HB := n1_; have HI699 := n2_; clear n0_ n1_ n2_; (try clear hb); (try clear hb2); (try clear hk); (try clear hi)))
  go_ret2
  exact ⟨by rfl, by repeat ((with_reducible exact HB.out))⟩
def spec_DrawSketch.f (k : Nat) (l0 : List Int) : Option ((List (List Int)) × Int) := (spec_l01New.f k l0).bind fun bt713 => ((spec_l12Sketch.f k bt713.1 bt713.2.1 bt713.2.2).bind fun bt717 => (some (bt717.1, bt717.2.1)))
set_option maxHeartbeats 8000000 in
set_option maxRecDepth 100000 in
theorem spec_DrawSketch.calls (k : Nat) (A0 : Option Addr) (c0 : Nat) (l0 : List Int) (r1 : List (List Int)) (r2 : Int) (w : World) (hr0 : Kd.C (Kd.int .u8) w A0 l0.length l0) (hc0 : l0.length ≤ c0) (h : spec_DrawSketch.f k l0 = some (r1, r2)) :
    Calls Try.prog 50 #[.slice A0 l0.length c0] w fun e w' => ∃ v0_ : Value, e = .returned (.agg #[v0_, .int .i64 r2]) ∧ Kd.S (Kd.slice 3 (Kd.int .i64)) 58 w' w.heap.size (fun _ => True) v0_ r1 ∧ Below w.heap.size w w' := by
  have hu26 := Try.underlying26
  have HR0 := Aside0.mk hr0
  have HC0 := Aside0.mk hc0
  clear hr0 hc0
  have HB := Aside0.mk (Below.refl w.heap.size w)
  have H : ((spec_l01New.f k l0).bind fun bt713 => ((spec_l12Sketch.f k bt713.1 bt713.2.1 bt713.2.2).bind fun bt717 => (some (bt717.1, bt717.2.1)))) = some (r1, r2) := h
  clear h
  replace H := Option.bind_eq_some_iff.mp H
  obtain ⟨⟨t713, t714, t715⟩, A20, H⟩ := H
  replace H : ((spec_l12Sketch.f k t713 t714 t715).bind fun bt717 => (some (bt717.1, bt717.2.1))) = some (r1, r2) := H
  have A2 := Aside0.mk A20
  clear A20
  replace H := Option.bind_eq_some_iff.mp H
  obtain ⟨⟨t717, t720, t721, t722⟩, A30, H⟩ := H
  replace H : (some (t717, t720)) = some (r1, r2) := H
  have A3 := Aside0.mk A30
  clear A30
  simp only [Option.some.injEq, Prod.mk.injEq] at H
  obtain ⟨rfl, rfl⟩ := H
  go_enter Try.func50, Try.ntmps50
  go_wp2_with (first | ((with_reducible refine gate_dst (N := 2) rfl ?_); refine box_event ?hg (N := 2) ?hd (cs := #[.slice none 0 0, .int .i64 0]) (t := 26) ?hr ?_; (case hd => rfl); (case hg => rfl); (case hr => (go_simp; done)); intro gb712 hg w4 hbox hb; have n0_ := Aside0.mk (below_step (by repeat ((with_reducible exact HB.out))) hb); have n1_ := Aside0.mk (hbox); have n2_ := Aside0.mk ((by rw [hg]; exact (below_size (by repeat ((with_reducible exact HB.out)))) : w.heap.size ≤ gb712)); have n3_ := Aside0.mk ((by rw [hg]; exact (below_size (by repeat ((with_reducible exact HB.out)))) : w.heap.size ≤ gb712)); clear HB; have HB := n0_; have BK712 := n1_; have GW712 := n2_; have GE712 := n3_; clear n0_ n1_ n2_ n3_; clear hb hbox hg) | ((with_reducible refine gate_callee (f := 68) rfl ?_); refine goesL_ (some 4) rfl rfl Try.func68 (by kernel_rfl) rfl #[.slice A0 l0.length c0] rfl (by (try simp only [List.map_toArray, List.map_cons, List.map_nil]); rfl) ?_; (with_reducible refine (spec_l01New.calls k _ _ l0 t713 t714 t715 w _ ?side1 ?side2 ?side3 A2.out).mono ?_); (case side1 => repeat ((with_reducible exact HB.out))); (case side2 => exact HR0.out); (case side3 => exact HC0.out); rintro e w5 ⟨g716, rfl, hi, hb, hb2⟩; refine ⟨_, rfl, ?_⟩; have n0_ := Aside0.mk (blk_below (g := gb712) (o := .cells #[.slice none 0 0, .int .i64 0] 26 (0, 0)) (by (with_reducible repeat (first | refine blk_drewN ?_ _ | refine blk_drew ?_ | refine blk_alloc ?_ _ )); exact BK712.out) hb2); have n1_ := Aside0.mk (hb); have n2_ := Aside0.mk (hi); have n3_ := Aside0.mk (IsS101.ne_blk hi (blk_below (g := gb712) (o := .cells #[.slice none 0 0, .int .i64 0] 26 (0, 0)) (by (with_reducible repeat (first | refine blk_drewN ?_ _ | refine blk_drew ?_ | refine blk_alloc ?_ _ )); exact BK712.out) hb2) (by decide)); have n4_ := Aside0.mk (Ne.symm (IsS101.ne_blk hi (blk_below (g := gb712) (o := .cells #[.slice none 0 0, .int .i64 0] 26 (0, 0)) (by (with_reducible repeat (first | refine blk_drewN ?_ _ | refine blk_drew ?_ | refine blk_alloc ?_ _ )); exact BK712.out) hb2) (by decide))); clear BK712; clear HB; have BK712 := n0_; have HB := n1_; have HI716 := n2_; have NB716_712 := n3_; have NB712_716 := n4_; clear n0_ n1_ n2_ n3_ n4_; (try clear hb); (try clear hb2); (try clear hk); (try clear hi)) | ((with_reducible refine gate_callee (f := 90) rfl ?_); refine goesL_ (some 5) rfl rfl Try.func90 (by kernel_rfl) rfl #[.pointer (some ⟨g716, 0, none⟩)] rfl (by (try simp only [List.map_toArray, List.map_cons, List.map_nil]); rfl) ?_; (with_reducible refine (spec_l12Sketch.calls k g716 t713 t714 t715 t717 t720 t721 t722 w _ ?side1 ?side2 A3.out).mono ?_); (case side1 => repeat ((with_reducible exact HI716.out))); (case side2 => repeat ((with_reducible exact HB.out))); rintro e w6 ⟨v718, rfl, ho0, hi, hb, hk⟩; refine ⟨_, rfl, ?_⟩; have n0_ := Aside0.mk (KeepBut.blk hk (g' := gb712) (o := .cells #[.slice none 0 0, .int .i64 0] 26 (0, 0)) (by (with_reducible repeat (first | refine blk_drewN ?_ _ | refine blk_drew ?_ | refine blk_alloc ?_ _ )); exact BK712.out) NB712_716.out (by simp)); have n1_ := Aside0.mk (Kd.S_lower ho0 (below_size (by repeat ((with_reducible exact HB.out))))); have n2_ := Aside0.mk (hb); have n3_ := Aside0.mk (hi); clear BK712; clear HB; clear HI716; have BK712 := n0_; have HO719 := n1_; have HB := n2_; have HI716 := n3_; clear n0_ n1_ n2_ n3_; (try clear hb); (try clear hb2); (try clear hk); (try clear hi); (try clear ho0); obtain ⟨Ao7, co7, eo7⟩ := Kd.S_slice HO719.out; subst eo7; have hnb8 := NB712_716.out; have hnc8 := NB716_712.out; have hcz9_0 : w6.cell? ⟨gb712, 0, none⟩ = some (.slice none 0 0) := (blk_cell BK712.out 0).trans rfl; have hcz9_1 : w6.cell? ⟨gb712, 1, none⟩ = some (.int .i64 0) := (blk_cell BK712.out 1).trans rfl; have hfz9_0 := blk_frozen BK712.out 0; have hfz9_1 := blk_frozen BK712.out 1))
  refine bodyPost_ret (results_cell_row rfl _ _ gb712 26 #[.slice Ao7 t717.length co7, .int .i64 t720] (0, 0) _ rfl (by (with_reducible repeat (first | refine blk_drewN ?_ _ | refine blk_drew ?_ | refine blk_alloc ?_ _ )); refine blk_put (cs := #[.slice Ao7 t717.length co7, .int .i64 0]) ?_ 1 _ rfl; (with_reducible repeat (first | refine blk_drewN ?_ _ | refine blk_drew ?_ | refine blk_alloc ?_ _ )); refine blk_put (cs := #[.slice none 0 0, .int .i64 0]) ?_ 0 _ rfl; (with_reducible repeat (first | refine blk_drewN ?_ _ | refine blk_drew ?_ | refine blk_alloc ?_ _ )); exact BK712.out) Try.underlying26 rfl (by kernel_rfl)) rfl ?_
  exact ⟨_, by rfl, by (with_reducible repeat (first | apply Kd.S_alloc | apply Kd.S_drewN | apply Kd.S_drew )); exact Kd.S_mono (Kd.S_far (p := ⟨gb712, 1, none⟩) (Kd.S_far (p := ⟨gb712, 0, none⟩) (Kd.S_types HO719.out BK712.out (by decide)) (fun _ hk => hk.2) (.slice Ao7 t717.length co7)) (fun _ hk => hk.2) (.int .i64 t720)) (fun _ hk => trivial), by repeat ((with_reducible first | exact HB.out | refine below_set ?_ GE712.out))⟩
def laws_sameInts.l0 : Nat → List Int → List Int → Int → Option (Bool)
  | 0, _, _, _ => none
  | k + 1, x0, x1, x5 => if x5 < (x0.length : Int) then (if 0 ≤ x5 then (if x5 < (x1.length : Int) then (if (rd x0 x5) = (rd x1 x5) then (laws_sameInts.l0 k x0 x1 (wrap64 (x5 + 1))) else (some false)) else (none)) else (none)) else (some true)
def laws_sameInts.f (k : Nat) (l0 : List Int) (l1 : List Int) : Option (Bool) := if (l0.length : Int) = (l1.length : Int) then (laws_sameInts.l0 k l0 l1 0) else (some false)
set_option maxHeartbeats 8000000 in
set_option maxRecDepth 100000 in
theorem laws_sameInts.calls (k : Nat) (A0 : Option Addr) (c0 : Nat) (l0 : List Int) (A1 : Option Addr) (c1 : Nat) (l1 : List Int) (r : Bool) (w : World) (hr0 : Kd.C (Kd.int .i64) w A0 l0.length l0) (hc0 : l0.length ≤ c0) (hr1 : Kd.C (Kd.int .i64) w A1 l1.length l1) (hc1 : l1.length ≤ c1) (h : laws_sameInts.f k l0 l1 = some r) :
    Calls Try.prog 91 #[.slice A0 l0.length c0, .slice A1 l1.length c1] w fun e w' => e = .returned (.bool r) ∧ Drawn0 w w' := by
  have HR0 := Aside0.mk hr0
  have HC0 := Aside0.mk hc0
  clear hr0 hc0
  have HR1 := Aside0.mk hr1
  have HC1 := Aside0.mk hc1
  clear hr1 hc1
  have H : (if (l0.length : Int) = (l1.length : Int) then (laws_sameInts.l0 k l0 l1 0) else (some false)) = some r := h
  clear h
  by_cases c3 : (l0.length : Int) = (l1.length : Int)
  · rw [if_pos c3] at H
    have c3b0 : ((l0.length : Int) == (l1.length : Int)) = true := beq_iff_eq.mpr c3
    have c3b1 : ((l0.length : Int) != (l1.length : Int)) = false := bne_eq_false_iff_eq.mpr c3
    have c3b2 : (l0.length == l1.length) = true := by (simp at c3 ⊢; omega)
    clear c3
    have H' := Aside0.mk H
    clear H
    go_enter Try.func91, Try.ntmps91
    go_wp2
    go_loopg [5] k (fun kq v5 w' => ∃ (x5_1 : Int), v5 = .int .i64 x5_1 ∧ Aside0 (laws_sameInts.l0 kq l0 l1 x5_1 = some r) ∧ Aside0 (kq ≤ k) ∧ Drawn0 w w')
    case atStart => exact ⟨(0), (by rfl), H', ⟨Nat.le_refl _⟩, by repeat (exact Drawn0.refl _)⟩
    case round =>
      clear H'
      clear c3b0
      clear c3b1
      clear c3b2
      obtain ⟨x5_1, rfl, HA, HK1, ⟨m1, rfl⟩⟩ := hrel
      cases gk with
      | zero => exact absurd HA.out (by simp [laws_sameInts.l0])
      | succ k1 =>
        have H := HA.out
        clear HA
        simp only [laws_sameInts.l0] at H
        by_cases c4 : x5_1 < (l0.length : Int)
        · rw [if_pos c4] at H
          have c4b0 : decide (x5_1 < (l0.length : Int)) = true := decide_eq_true c4
          clear c4
          by_cases c5 : 0 ≤ x5_1
          · rw [if_pos c5] at H
            have c5b0 : decide (0 ≤ x5_1) = true := decide_eq_true c5
            clear c5
            by_cases c6 : x5_1 < (l1.length : Int)
            · rw [if_pos c6] at H
              have c6b0 : decide (x5_1 < (l1.length : Int)) = true := decide_eq_true c6
              clear c6
              by_cases c7 : (rd l0 x5_1) = (rd l1 x5_1)
              · rw [if_pos c7] at H
                have c7b0 : ((rd l0 x5_1) == (rd l1 x5_1)) = true := beq_iff_eq.mpr c7
                have c7b1 : ((rd l0 x5_1) != (rd l1 x5_1)) = false := bne_eq_false_iff_eq.mpr c7
                clear c7
                have H' := Aside0.mk H
                clear H
                have p723 : 0 ≤ (x5_1 : Int) := of_decide_eq_true (by (with_reducible assumption))
                have q723 : x5_1 < (l0.length : Int) := of_decide_eq_true (by (with_reducible assumption))
                obtain ⟨ad723, e723, hx723_0⟩ := Kd.at_int HR0.out x5_1 p723 q723
                cases e723
                replace p723 := eq_true p723
                replace q723 := eq_true q723
                have p724 : 0 ≤ (x5_1 : Int) := of_decide_eq_true (by (with_reducible assumption))
                have q724 : x5_1 < (l1.length : Int) := of_decide_eq_true (by (with_reducible assumption))
                obtain ⟨ad724, e724, hx724_0⟩ := Kd.at_int HR1.out x5_1 p724 q724
                cases e724
                replace p724 := eq_true p724
                replace q724 := eq_true q724
                go_wp2
                repeat (go_quiet (fail); try go_wp2)
                go_roundg k1
                case measure => have := HK1.out; omega
                case rel => exact ⟨(wrap64 (x5_1 + 1)), (by rfl), H', ⟨by have := HK1.out; omega⟩, by repeat (first | exact Drawn0.refl _ | apply Drawn0.step)⟩
              · rw [if_neg c7] at H
                have c7b0 : ((rd l0 x5_1) == (rd l1 x5_1)) = false := beq_eq_false_iff_ne.mpr c7
                have c7b1 : ((rd l0 x5_1) != (rd l1 x5_1)) = true := bne_iff_ne.mpr c7
                obtain rfl := Option.some.inj H
                have p723 : 0 ≤ (x5_1 : Int) := of_decide_eq_true (by (with_reducible assumption))
                have q723 : x5_1 < (l0.length : Int) := of_decide_eq_true (by (with_reducible assumption))
                obtain ⟨ad723, e723, hx723_0⟩ := Kd.at_int HR0.out x5_1 p723 q723
                cases e723
                replace p723 := eq_true p723
                replace q723 := eq_true q723
                have p724 : 0 ≤ (x5_1 : Int) := of_decide_eq_true (by (with_reducible assumption))
                have q724 : x5_1 < (l1.length : Int) := of_decide_eq_true (by (with_reducible assumption))
                obtain ⟨ad724, e724, hx724_0⟩ := Kd.at_int HR1.out x5_1 p724 q724
                cases e724
                replace p724 := eq_true p724
                replace q724 := eq_true q724
                go_wp2
                repeat (go_quiet (fail); try go_wp2)
                go_ret
                exact ⟨by rfl, by repeat (first | exact Drawn0.refl _ | apply Drawn0.step)⟩
            · rw [if_neg c6] at H
              exact absurd H (by simp)
          · rw [if_neg c5] at H
            exact absurd H (by simp)
        · rw [if_neg c4] at H
          have c4b0 : decide (x5_1 < (l0.length : Int)) = false := decide_eq_false c4
          clear c4
          obtain rfl := Option.some.inj H
          go_wp2
          go_ret
          exact ⟨by rfl, by repeat (first | exact Drawn0.refl _ | apply Drawn0.step)⟩
  · rw [if_neg c3] at H
    have c3b0 : ((l0.length : Int) == (l1.length : Int)) = false := beq_eq_false_iff_ne.mpr c3
    have c3b1 : ((l0.length : Int) != (l1.length : Int)) = true := bne_iff_ne.mpr c3
    have c3b2 : (l0.length == l1.length) = false := by (simp at c3 ⊢; omega)
    obtain rfl := Option.some.inj H
    go_enter Try.func91, Try.ntmps91
    go_wp2
    go_ret
    exact ⟨by rfl, by repeat (exact Drawn0.refl _)⟩
mutual
def laws_sameSketch.j0 : Nat → Bool → List (List Int) → Int → List (List Int) → Int → Option (Bool)
  | 0, _, _, _, _, _ => none
  | k + 1, x19, x726000, x726001, x727000, x727001 => if x19 = true then (some false) else (laws_sameSketch.l0 k 0 x726000 x726001 x727000 x727001)
def laws_sameSketch.l0 : Nat → Int → List (List Int) → Int → List (List Int) → Int → Option (Bool)
  | 0, _, _, _, _, _ => none
  | k + 1, x5, x726000, x726001, x727000, x727001 => if x5 < (x726000.length : Int) then (if 0 ≤ x5 then (if x5 < (x727000.length : Int) then ((laws_sameInts.f k (rd_L2 x726000 x5) (rd_L2 x727000 x5)).bind fun t729 => (if t729 = true then (laws_sameSketch.l0 k (wrap64 (x5 + 1)) x726000 x726001 x727000 x727001) else (some false))) else (none)) else (none)) else (some true)
end
def laws_sameSketch.f (k : Nat) (l0_0 : List (List Int)) (a0_1 : Int) (l1_0 : List (List Int)) (a1_1 : Int) : Option (Bool) := if a0_1 = a1_1 then (laws_sameSketch.j0 k ((l0_0.length : Int) != (l1_0.length : Int)) l0_0 a0_1 l1_0 a1_1) else (laws_sameSketch.j0 k true l0_0 a0_1 l1_0 a1_1)
set_option maxHeartbeats 8000000 in
set_option maxRecDepth 100000 in
theorem laws_sameSketch.calls (k : Nat) (A0_0 : Option Addr) (c0_0 : Nat) (l0_0 : List (List Int)) (a0_1 : Int) (A1_0 : Option Addr) (c1_0 : Nat) (l1_0 : List (List Int)) (a1_1 : Int) (r : Bool) (w : World) (hr0_0 : Kd.C (Kd.slice 3 (Kd.int .i64)) w A0_0 l0_0.length l0_0) (hc0_0 : l0_0.length ≤ c0_0) (hr1_0 : Kd.C (Kd.slice 3 (Kd.int .i64)) w A1_0 l1_0.length l1_0) (hc1_0 : l1_0.length ≤ c1_0) (h : laws_sameSketch.f k l0_0 a0_1 l1_0 a1_1 = some r) :
    Calls Try.prog 51 #[.agg #[.slice A0_0 l0_0.length c0_0, .int .i64 a0_1], .agg #[.slice A1_0 l1_0.length c1_0, .int .i64 a1_1]] w fun e w' => e = .returned (.bool r) ∧ Below w.heap.size w w' := by
  have hu26 := Try.underlying26
  have HR0_0 := Aside0.mk hr0_0
  have HC0_0 := Aside0.mk hc0_0
  clear hr0_0 hc0_0
  have HR1_0 := Aside0.mk hr1_0
  have HC1_0 := Aside0.mk hc1_0
  clear hr1_0 hc1_0
  have HB := Aside0.mk (Below.refl w.heap.size w)
  have H : (if a0_1 = a1_1 then (laws_sameSketch.j0 k ((l0_0.length : Int) != (l1_0.length : Int)) l0_0 a0_1 l1_0 a1_1) else (laws_sameSketch.j0 k true l0_0 a0_1 l1_0 a1_1)) = some r := h
  clear h
  have HC3 := Aside0.mk H
  clear H
  go_enter Try.func51, Try.ntmps51
  go_upto_region 1 with (first | ((with_reducible refine gate_dst (N := 2) rfl ?_); (try (refine gate_guard (by rfl) ?_; dsimp only)); refine box_event ?hg (N := 2) ?hd (cs := #[.slice A0_0 l0_0.length c0_0, .int .i64 a0_1]) (t := 26) ?hr ?_; (case hd => rfl); (case hg => rfl); (case hr => (go_simp; done)); intro gb725 hg w4 hbox hb; have n0_ := Aside0.mk (below_step (by repeat ((with_reducible exact HB.out))) hb); have n1_ := Aside0.mk (hbox); have n2_ := Aside0.mk ((by rw [hg]; exact (below_size (by repeat ((with_reducible exact HB.out)))) : w.heap.size ≤ gb725)); have n3_ := Aside0.mk ((by rw [hg]; exact (below_size (by repeat ((with_reducible exact HB.out)))) : w.heap.size ≤ gb725)); clear HB; have HB := n0_; have BK725 := n1_; have GW725 := n2_; have GE725 := n3_; clear n0_ n1_ n2_ n3_; clear hb hbox hg) | ((with_reducible refine gate_dst (N := 3) rfl ?_); (try (refine gate_guard (by rfl) ?_; dsimp only)); refine box_event ?hg (N := 3) ?hd (cs := #[.slice A1_0 l1_0.length c1_0, .int .i64 a1_1]) (t := 26) ?hr ?_; (case hd => rfl); (case hg => rfl); (case hr => (go_simp; done)); intro gb726 hg w5 hbox hb; have n0_ := Aside0.mk (blk_below (g := gb725) (o := .cells #[.slice A0_0 l0_0.length c0_0, .int .i64 a0_1] 26 (0, 0)) (by (with_reducible repeat (first | refine blk_drewN ?_ _ | refine blk_drew ?_ | refine blk_alloc ?_ _ )); exact BK725.out) hb); have n1_ := Aside0.mk (below_step (by repeat ((with_reducible exact HB.out))) hb); have n2_ := Aside0.mk (hbox); have n3_ := Aside0.mk ((by rw [hg]; exact (below_size (by repeat ((with_reducible exact HB.out)))) : w.heap.size ≤ gb726)); have n4_ := Aside0.mk ((by rw [hg]; exact (below_size (by repeat ((with_reducible exact HB.out)))) : w.heap.size ≤ gb726)); have n5_ := Aside0.mk ((by rw [hg]; exact Nat.ne_of_lt (blk_lt (g := gb725) (o := .cells #[.slice A0_0 l0_0.length c0_0, .int .i64 a0_1] 26 (0, 0)) (by (with_reducible repeat (first | refine blk_drewN ?_ _ | refine blk_drew ?_ | refine blk_alloc ?_ _ )); exact BK725.out)) : gb725 ≠ gb726)); have n6_ := Aside0.mk ((by rw [hg]; exact Nat.ne_of_gt (blk_lt (g := gb725) (o := .cells #[.slice A0_0 l0_0.length c0_0, .int .i64 a0_1] 26 (0, 0)) (by (with_reducible repeat (first | refine blk_drewN ?_ _ | refine blk_drew ?_ | refine blk_alloc ?_ _ )); exact BK725.out)) : gb726 ≠ gb725)); clear BK725; clear HB; have BK725 := n0_; have HB := n1_; have BK726 := n2_; have GW726 := n3_; have GE726 := n4_; have NB725_726 := n5_; have NB726_725 := n6_; clear n0_ n1_ n2_ n3_ n4_ n5_ n6_; clear hb hbox hg))
  (try simp only [Act.put, List.setIfInBounds_toArray, List.set_cons_zero, List.set_cons_succ])
  go_cut [19] (fun v19 wc => ∃ (kq : Nat) (x19_2 : Bool), v19 = .bool x19_2 ∧ Aside0 (laws_sameSketch.j0 kq x19_2 l0_0 a0_1 l1_0 a1_1 = some r) ∧ Aside0 (kq ≤ k) ∧ Aside0 (wc.heap[gb725]? = some (.cells #[(.slice A0_0 l0_0.length c0_0), .int .i64 a0_1] 26 (0, 0))) ∧ Aside0 (wc.heap[gb726]? = some (.cells #[(.slice A1_0 l1_0.length c1_0), .int .i64 a1_1] 26 (0, 0))) ∧ Aside0 (Below w.heap.size w wc))
  case first =>
    have H := HC3.out
    clear HC3
    by_cases c6 : a0_1 = a1_1
    · rw [if_pos c6] at H
      have c6b0 : (a0_1 == a1_1) = true := beq_iff_eq.mpr c6
      have c6b1 : (a0_1 != a1_1) = false := bne_eq_false_iff_eq.mpr c6
      clear c6
      (skip)
      have H' := Aside0.mk H
      clear H
      have hnb7 := NB725_726.out
      have hnc7 := NB726_725.out
      have hcz8_0 : w5.cell? ⟨gb725, 0, none⟩ = some (.slice A0_0 l0_0.length c0_0) := (blk_cell BK725.out 0).trans rfl
      have hcz8_1 : w5.cell? ⟨gb725, 1, none⟩ = some (.int .i64 a0_1) := (blk_cell BK725.out 1).trans rfl
      have hfz8_0 := blk_frozen BK725.out 0
      have hfz8_1 := blk_frozen BK725.out 1
      have hcz9_0 : w5.cell? ⟨gb726, 0, none⟩ = some (.slice A1_0 l1_0.length c1_0) := (blk_cell BK726.out 0).trans rfl
      have hcz9_1 : w5.cell? ⟨gb726, 1, none⟩ = some (.int .i64 a1_1) := (blk_cell BK726.out 1).trans rfl
      have hfz9_0 := blk_frozen BK726.out 0
      have hfz9_1 := blk_frozen BK726.out 1
      go_wp2
      go_meet
      case rel => exact ⟨_, (((l0_0.length : Int) != (l1_0.length : Int))), (by rfl), H', ⟨by omega⟩, ⟨by (with_reducible repeat (first | refine blk_drewN ?_ _ | refine blk_drew ?_ | refine blk_alloc ?_ _ )); exact BK725.out⟩, ⟨by (with_reducible repeat (first | refine blk_drewN ?_ _ | refine blk_drew ?_ | refine blk_alloc ?_ _ )); exact BK726.out⟩, ⟨by repeat ((with_reducible exact HB.out))⟩⟩
    · rw [if_neg c6] at H
      have c6b0 : (a0_1 == a1_1) = false := beq_eq_false_iff_ne.mpr c6
      have c6b1 : (a0_1 != a1_1) = true := bne_iff_ne.mpr c6
      (skip)
      have H' := Aside0.mk H
      clear H
      have hnb10 := NB725_726.out
      have hnc10 := NB726_725.out
      have hcz11_0 : w5.cell? ⟨gb725, 0, none⟩ = some (.slice A0_0 l0_0.length c0_0) := (blk_cell BK725.out 0).trans rfl
      have hcz11_1 : w5.cell? ⟨gb725, 1, none⟩ = some (.int .i64 a0_1) := (blk_cell BK725.out 1).trans rfl
      have hfz11_0 := blk_frozen BK725.out 0
      have hfz11_1 := blk_frozen BK725.out 1
      have hcz12_0 : w5.cell? ⟨gb726, 0, none⟩ = some (.slice A1_0 l1_0.length c1_0) := (blk_cell BK726.out 0).trans rfl
      have hcz12_1 : w5.cell? ⟨gb726, 1, none⟩ = some (.int .i64 a1_1) := (blk_cell BK726.out 1).trans rfl
      have hfz12_0 := blk_frozen BK726.out 0
      have hfz12_1 := blk_frozen BK726.out 1
      go_wp2
      go_meet
      case rel => exact ⟨_, (true), (by rfl), H', ⟨by omega⟩, ⟨by (with_reducible repeat (first | refine blk_drewN ?_ _ | refine blk_drew ?_ | refine blk_alloc ?_ _ )); exact BK725.out⟩, ⟨by (with_reducible repeat (first | refine blk_drewN ?_ _ | refine blk_drew ?_ | refine blk_alloc ?_ _ )); exact BK726.out⟩, ⟨by repeat ((with_reducible exact HB.out))⟩⟩
  case rest =>
    clear HC3
    obtain ⟨kq, x19_2, rfl, HA, HJ2, BK725, BK726, HB⟩ := hcut
    cases kq with
    | zero => exact absurd HA.out (by simp [laws_sameSketch.j0])
    | succ kj2 =>
      have H := HA.out
      clear HA
      simp only [laws_sameSketch.j0] at H
      by_cases c13 : x19_2 = true
      · subst c13
        have H1 : (some false) = some r := by rw [if_pos rfl] at H; exact H
        clear H
        have H := H1
        clear H1
        obtain rfl := Option.some.inj H
        go_wp2
        go_ret
        exact ⟨by rfl, by repeat ((with_reducible exact HB.out))⟩
      · replace c13 := Bool.eq_false_iff.mpr c13
        subst c13
        have H1 : (laws_sameSketch.l0 kj2 0 l0_0 a0_1 l1_0 a1_1) = some r := by rw [if_neg (show ¬ (false = true) by decide)] at H; exact H
        clear H
        have H := H1
        clear H1
        have H' := Aside0.mk H
        clear H
        go_wp2
        go_loopg [5] kj2 (fun kq v5 w' => ∃ (x5_2 : Int), v5 = .int .i64 x5_2 ∧ Aside0 (laws_sameSketch.l0 kq x5_2 l0_0 a0_1 l1_0 a1_1 = some r) ∧ Aside0 (kq ≤ kj2) ∧ Aside0 (w'.heap[gb725]? = some (.cells #[(.slice A0_0 l0_0.length c0_0), .int .i64 a0_1] 26 (0, 0))) ∧ Aside0 (w'.heap[gb726]? = some (.cells #[(.slice A1_0 l1_0.length c1_0), .int .i64 a1_1] 26 (0, 0))) ∧ Aside0 (Below w.heap.size w w'))
        case atStart => exact ⟨(0), (by rfl), H', ⟨Nat.le_refl _⟩, ⟨by (with_reducible repeat (first | refine blk_drewN ?_ _ | refine blk_drew ?_ | refine blk_alloc ?_ _ )); exact BK725.out⟩, ⟨by (with_reducible repeat (first | refine blk_drewN ?_ _ | refine blk_drew ?_ | refine blk_alloc ?_ _ )); exact BK726.out⟩, ⟨by repeat ((with_reducible exact HB.out))⟩⟩
        case round =>
          clear H'
          obtain ⟨x5_2, rfl, HA, HK2, BK725, BK726, HB⟩ := hrel
          cases gk with
          | zero => exact absurd HA.out (by simp [laws_sameSketch.l0])
          | succ k2 =>
            have H := HA.out
            clear HA
            simp only [laws_sameSketch.l0] at H
            by_cases c14 : x5_2 < (l0_0.length : Int)
            · rw [if_pos c14] at H
              have c14b0 : decide (x5_2 < (l0_0.length : Int)) = true := decide_eq_true c14
              clear c14
              by_cases c15 : 0 ≤ x5_2
              · rw [if_pos c15] at H
                have c15b0 : decide (0 ≤ x5_2) = true := decide_eq_true c15
                clear c15
                by_cases c16 : x5_2 < (l1_0.length : Int)
                · rw [if_pos c16] at H
                  have c16b0 : decide (x5_2 < (l1_0.length : Int)) = true := decide_eq_true c16
                  clear c16
                  replace H := Option.bind_eq_some_iff.mp H
                  obtain ⟨t729, A170, H⟩ := H
                  replace H : (if t729 = true then (laws_sameSketch.l0 k2 (wrap64 (x5_2 + 1)) l0_0 a0_1 l1_0 a1_1) else (some false)) = some r := H
                  have A17 := Aside0.mk A170
                  clear A170
                  have HS18 := Aside0.mk H
                  clear H
                  have hnb19 := NB725_726.out
                  have hnc19 := NB726_725.out
                  have hcz20_0 : wr.cell? ⟨gb725, 0, none⟩ = some (.slice A0_0 l0_0.length c0_0) := (blk_cell BK725.out 0).trans rfl
                  have hcz20_1 : wr.cell? ⟨gb725, 1, none⟩ = some (.int .i64 a0_1) := (blk_cell BK725.out 1).trans rfl
                  have hfz20_0 := blk_frozen BK725.out 0
                  have hfz20_1 := blk_frozen BK725.out 1
                  have p727 : 0 ≤ (x5_2 : Int) := of_decide_eq_true (by (with_reducible assumption))
                  have q727 : x5_2 < (l0_0.length : Int) := of_decide_eq_true (by (with_reducible assumption))
                  obtain ⟨ad727, A727_0, c727_0, e727, hx727_0, hl727_0, hi727_0⟩ := at_L2 HR0_0.out x5_2 p727 q727
                  cases e727
                  replace hx727_0 := (HB.out.cell (World.block_lt_of_cell? w _ hx727_0)).trans hx727_0
                  have HR727_0 := Aside0.mk hi727_0
                  have HC727_0 := Aside0.mk hl727_0
                  clear hi727_0 hl727_0
                  replace p727 := eq_true p727
                  replace q727 := eq_true q727
                  have hcz21_0 : wr.cell? ⟨gb726, 0, none⟩ = some (.slice A1_0 l1_0.length c1_0) := (blk_cell BK726.out 0).trans rfl
                  have hcz21_1 : wr.cell? ⟨gb726, 1, none⟩ = some (.int .i64 a1_1) := (blk_cell BK726.out 1).trans rfl
                  have hfz21_0 := blk_frozen BK726.out 0
                  have hfz21_1 := blk_frozen BK726.out 1
                  have p728 : 0 ≤ (x5_2 : Int) := of_decide_eq_true (by (with_reducible assumption))
                  have q728 : x5_2 < (l1_0.length : Int) := of_decide_eq_true (by (with_reducible assumption))
                  obtain ⟨ad728, A728_0, c728_0, e728, hx728_0, hl728_0, hi728_0⟩ := at_L2 HR1_0.out x5_2 p728 q728
                  cases e728
                  replace hx728_0 := (HB.out.cell (World.block_lt_of_cell? w _ hx728_0)).trans hx728_0
                  have HR728_0 := Aside0.mk hi728_0
                  have HC728_0 := Aside0.mk hl728_0
                  clear hi728_0 hl728_0
                  replace p728 := eq_true p728
                  replace q728 := eq_true q728
                  go_upto_if 38 with (first | (go_at_call 91; (with_reducible refine (laws_sameInts.calls k2 _ _ (rd_L2 l0_0 x5_2) _ _ (rd_L2 l1_0 x5_2) t729 _ ?side1 ?side2 ?side3 ?side4 A17.out).mono ?_); (case side1 => repeat (first | exact (Kd.C_below HR727_0.out HB.out) | (with_reducible refine Kd.C_alloc ?_ _) | (with_reducible refine Kd.C_drewN ?_ _) | (with_reducible refine Kd.C_drew ?_) )); (case side2 => exact HC727_0.out); (case side3 => repeat (first | exact (Kd.C_below HR728_0.out HB.out) | (with_reducible refine Kd.C_alloc ?_ _) | (with_reducible refine Kd.C_drewN ?_ _) | (with_reducible refine Kd.C_drew ?_) )); (case side4 => exact HC728_0.out); rintro e w' ⟨rfl, ⟨nd, rfl⟩⟩; (try first | exact ⟨rfl, _, World.drewN_drewN _ _ _⟩ | exact ⟨rfl, _, Eq.trans (World.drewN_drewN _ _ _) (congrArg (World.drewN _) (Nat.add_assoc _ _ _))⟩ )) )
                  repeat (go_quiet ((go_at_call 91; (with_reducible refine (laws_sameInts.calls k2 _ _ (rd_L2 l0_0 x5_2) _ _ (rd_L2 l1_0 x5_2) t729 _ ?side1 ?side2 ?side3 ?side4 A17.out).mono ?_); (case side1 => repeat (first | exact (Kd.C_below HR727_0.out HB.out) | (with_reducible refine Kd.C_drewN ?_ _))); (case side2 => exact HC727_0.out); (case side3 => repeat (first | exact (Kd.C_below HR728_0.out HB.out) | (with_reducible refine Kd.C_drewN ?_ _))); (case side4 => exact HC728_0.out); rintro e w' ⟨rfl, ⟨nd, rfl⟩⟩; (try exact ⟨rfl, _, World.drewN_drewN _ _ _⟩))); go_upto_if 38 with (first | (go_at_call 91; (with_reducible refine (laws_sameInts.calls k2 _ _ (rd_L2 l0_0 x5_2) _ _ (rd_L2 l1_0 x5_2) t729 _ ?side1 ?side2 ?side3 ?side4 A17.out).mono ?_); (case side1 => repeat (first | exact (Kd.C_below HR727_0.out HB.out) | (with_reducible refine Kd.C_alloc ?_ _) | (with_reducible refine Kd.C_drewN ?_ _) | (with_reducible refine Kd.C_drew ?_) )); (case side2 => exact HC727_0.out); (case side3 => repeat (first | exact (Kd.C_below HR728_0.out HB.out) | (with_reducible refine Kd.C_alloc ?_ _) | (with_reducible refine Kd.C_drewN ?_ _) | (with_reducible refine Kd.C_drew ?_) )); (case side4 => exact HC728_0.out); rintro e w' ⟨rfl, ⟨nd, rfl⟩⟩; (try first | exact ⟨rfl, _, World.drewN_drewN _ _ _⟩ | exact ⟨rfl, _, Eq.trans (World.drewN_drewN _ _ _) (congrArg (World.drewN _) (Nat.add_assoc _ _ _))⟩ )) ))
                  (try simp only [Act.put, List.setIfInBounds_toArray, List.set_cons_zero, List.set_cons_succ])
                  have H := HS18.out
                  clear HS18
                  by_cases c22 : t729 = true
                  · subst c22
                    have H1 : (laws_sameSketch.l0 k2 (wrap64 (x5_2 + 1)) l0_0 a0_1 l1_0 a1_1) = some r := by rw [if_pos rfl] at H; exact H
                    clear H
                    have H := H1
                    clear H1
                    have H' := Aside0.mk H
                    clear H
                    go_wp2
                    go_roundg k2
                    case measure => have := HJ2.out; have := HK2.out; omega
                    case rel => exact ⟨(wrap64 (x5_2 + 1)), (by rfl), H', ⟨by have := HJ2.out; have := HK2.out; omega⟩, ⟨by (with_reducible repeat (refine blk_drewN ?_ _)); exact BK725.out⟩, ⟨by (with_reducible repeat (refine blk_drewN ?_ _)); exact BK726.out⟩, ⟨by repeat ((with_reducible first | exact HB.out | apply pw_below_drewN))⟩⟩
                  · replace c22 := Bool.eq_false_iff.mpr c22
                    subst c22
                    have H1 : (some false) = some r := by rw [if_neg (show ¬ (false = true) by decide)] at H; exact H
                    clear H
                    have H := H1
                    clear H1
                    obtain rfl := Option.some.inj H
                    go_wp2
                    go_ret
                    exact ⟨by rfl, by repeat ((with_reducible first | exact HB.out | apply pw_below_drewN))⟩
                · rw [if_neg c16] at H
                  exact absurd H (by simp)
              · rw [if_neg c15] at H
                exact absurd H (by simp)
            · rw [if_neg c14] at H
              have c14b0 : decide (x5_2 < (l0_0.length : Int)) = false := decide_eq_false c14
              clear c14
              obtain rfl := Option.some.inj H
              have hnb23 := NB725_726.out
              have hnc23 := NB726_725.out
              have hcz24_0 : wr.cell? ⟨gb725, 0, none⟩ = some (.slice A0_0 l0_0.length c0_0) := (blk_cell BK725.out 0).trans rfl
              have hcz24_1 : wr.cell? ⟨gb725, 1, none⟩ = some (.int .i64 a0_1) := (blk_cell BK725.out 1).trans rfl
              have hfz24_0 := blk_frozen BK725.out 0
              have hfz24_1 := blk_frozen BK725.out 1
              go_wp2
              go_ret
              exact ⟨by rfl, by repeat ((with_reducible exact HB.out))⟩
end Go.Proofs.Ytoopdknphikgkaa.Q
