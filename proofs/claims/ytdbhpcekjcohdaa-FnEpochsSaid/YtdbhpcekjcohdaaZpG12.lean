import Derived.Test.YtdbhpcekjcohdaaZpB0
import Derived.Test.YtdbhpcekjcohdaaZpG13
import Derived.Test.YtdbhpcekjcohdaaZpG24
import Derived.Test.YtdbhpcekjcohdaaZpG67
import Derived.Test.YtdbhpcekjcohdaaZpG70
import Derived.Test.YtdbhpcekjcohdaaZpWords
namespace Go.Proofs.Ytdbhpcekjcohdaa.Q
open Go.RowKit Go.Proofs.YtdbhpcekjcohdaaW.PrintWords Go.Proofs.YtdbhpcekjcohdaaW.PrintLast Go.Proofs.YtdbhpcekjcohdaaW.PrintMore
attribute [local go_sem] max2_int min2_int max_two min_two max_three min_three max_four min_four   -- for this text's walks alone
set_option linter.unusedVariables false
set_option linter.unusedSimpArgs false
def laws_FnEpochs.f (k : Nat) (l0 : List Int) : Option (Bool) := (laws_big.f l0).bind fun t1149 => (if t1149 = true then (some true) else ((spec_DrawPinLook.f k l0).bind fun bt1150 => ((impl_PinLook.f k bt1150.1 bt1150.2.1 bt1150.2.2.1 bt1150.2.2.2).bind fun bt1159 => ((spec_PinLook.f k bt1150.1 bt1150.2.1 bt1150.2.2.1 bt1150.2.2.2).bind fun bt1168 => ((impl_UnpinLook.f k bt1150.1 bt1150.2.1 bt1150.2.2.1 bt1150.2.2.2).bind fun bt1177 => ((spec_UnpinLook.f k bt1150.1 bt1150.2.1 bt1150.2.2.1 bt1150.2.2.2).bind fun bt1186 => ((spec_DrawRetireNode.f k l0).bind fun bt1195 => ((impl_RetireNode.f k bt1195.1 bt1195.2.1 bt1195.2.2.1 bt1195.2.2.2).bind fun bt1204 => ((spec_RetireNode.f k bt1195.1 bt1195.2.1 bt1195.2.2.1 bt1195.2.2.2).bind fun bt1213 => ((impl_AdvanceEpoch.f k bt1195.1 bt1195.2.1 bt1195.2.2.1).bind fun bt1222 => ((spec_AdvanceEpoch.f k bt1195.1 bt1195.2.1 bt1195.2.2.1).bind fun bt1231 => ((impl_FreeNodes.f k bt1195.1 bt1195.2.1 bt1195.2.2.1).bind fun bt1240 => ((spec_FreeNodes.f k bt1195.1 bt1195.2.1 bt1195.2.2.1).bind fun bt1251 => (if (bt1159.2.2.2 == bt1168.2.2.2) = true then ((laws_sameEpochs.f k bt1159.1 bt1159.2.1 bt1159.2.2.1 bt1168.1 bt1168.2.1 bt1168.2.2.1).bind fun t1262 => (if t1262 = true then (if bt1159.2.2.2 = true then (if (bt1177.2.2.2 == bt1186.2.2.2) = true then ((laws_sameEpochs.f k bt1177.1 bt1177.2.1 bt1177.2.2.1 bt1186.1 bt1186.2.1 bt1186.2.2.1).bind fun t1263 => (if t1263 = true then (if (bt1204.2.2.2 == bt1213.2.2.2) = true then ((laws_sameEpochs.f k bt1204.1 bt1204.2.1 bt1204.2.2.1 bt1213.1 bt1213.2.1 bt1213.2.2.1).bind fun t1264 => (if t1264 = true then (if (bt1222.2.2.2 == bt1231.2.2.2) = true then ((laws_sameEpochs.f k bt1222.1 bt1222.2.1 bt1222.2.2.1 bt1231.1 bt1231.2.1 bt1231.2.2.1).bind fun t1265 => (if t1265 = true then ((laws_sameInts.f k bt1240.2.2.2 bt1251.2.2.2).bind fun t1266 => (if t1266 = true then ((laws_sameEpochs.f k bt1240.1 bt1240.2.1 bt1240.2.2.1 bt1251.1 bt1251.2.1 bt1251.2.2.1).bind fun t1267 => (if t1267 = true then ((impl_EpochsOk.f k bt1150.1 bt1150.2.1 bt1150.2.2.1).bind fun t1268 => ((spec_EpochsOk.f k bt1150.1 bt1150.2.1 bt1150.2.2.1).bind fun t1269 => (if (t1268 == t1269) = true then ((impl_EpochsNew.f 9).bind fun bt1270 => (some ((bt1270.2.1.length : Int) == 4))) else (none)))) else (none))) else (none))) else (none))) else (none)) else (none))) else (none)) else (none))) else (none)) else ((laws_sameEpochs.f k bt1159.1 bt1159.2.1 bt1159.2.2.1 bt1150.1 bt1150.2.1 bt1150.2.2.1).bind fun t1277 => (if t1277 = true then (if (bt1177.2.2.2 == bt1186.2.2.2) = true then ((laws_sameEpochs.f k bt1177.1 bt1177.2.1 bt1177.2.2.1 bt1186.1 bt1186.2.1 bt1186.2.2.1).bind fun t1278 => (if t1278 = true then (if (bt1204.2.2.2 == bt1213.2.2.2) = true then ((laws_sameEpochs.f k bt1204.1 bt1204.2.1 bt1204.2.2.1 bt1213.1 bt1213.2.1 bt1213.2.2.1).bind fun t1279 => (if t1279 = true then (if (bt1222.2.2.2 == bt1231.2.2.2) = true then ((laws_sameEpochs.f k bt1222.1 bt1222.2.1 bt1222.2.2.1 bt1231.1 bt1231.2.1 bt1231.2.2.1).bind fun t1280 => (if t1280 = true then ((laws_sameInts.f k bt1240.2.2.2 bt1251.2.2.2).bind fun t1281 => (if t1281 = true then ((laws_sameEpochs.f k bt1240.1 bt1240.2.1 bt1240.2.2.1 bt1251.1 bt1251.2.1 bt1251.2.2.1).bind fun t1282 => (if t1282 = true then ((impl_EpochsOk.f k bt1150.1 bt1150.2.1 bt1150.2.2.1).bind fun t1283 => ((spec_EpochsOk.f k bt1150.1 bt1150.2.1 bt1150.2.2.1).bind fun t1284 => (if (t1283 == t1284) = true then ((impl_EpochsNew.f 9).bind fun bt1285 => (some ((bt1285.2.1.length : Int) == 4))) else (none)))) else (none))) else (none))) else (none))) else (none)) else (none))) else (none)) else (none))) else (none)) else (none)))) else (none))) else (none)))))))))))))))
/-- The first n of seventy events are over. -/
def laws_FnEpochs.d (n : Nat) : Array Bool := ⟨List.replicate n true ++ List.replicate (70 - n) false⟩
structure Ep (W : World) (g : Nat) (a : Int) (A1 : Option Addr) (c1 : Nat) (l1 : List Int) (A2 : Option Addr) (c2 : Nat) (l2 : List S57) : Prop where
  r1 : Kd.C (Kd.int .i64) W A1 l1.length l1
  k1 : l1.length ≤ c1
  r2 : Kd.C k57 W A2 l2.length l2
  k2 : l2.length ≤ c2
  b : W.heap[g]? = some (.cells #[.int .i64 a, .slice A1 l1.length c1, .slice A2 l2.length c2] 25 (0, 0))
theorem Ep.up {W W1 : World} {g : Nat} {a : Int} {A1 : Option Addr} {c1 : Nat} {l1 : List Int} {A2 : Option Addr} {c2 : Nat} {l2 : List S57} (h : Ep W g a A1 c1 l1 A2 c2 l2) (hb : Below W.heap.size W W1) : Ep W1 g a A1 c1 l1 A2 c2 l2 :=
  ⟨Kd.C_below h.r1 hb, h.k1, Kd.C_below h.r2 hb, h.k2, blk_below h.b hb⟩
theorem Ep.drewN {W : World} {g : Nat} {a : Int} {A1 : Option Addr} {c1 : Nat} {l1 : List Int} {A2 : Option Addr} {c2 : Nat} {l2 : List S57} (h : Ep W g a A1 c1 l1 A2 c2 l2) (m : Nat) : Ep (W.drewN m) g a A1 c1 l1 A2 c2 l2 := h.up (pw_below_drewN (Below.refl _ _) m)
theorem Ep.drew {W : World} {g : Nat} {a : Int} {A1 : Option Addr} {c1 : Nat} {l1 : List Int} {A2 : Option Addr} {c2 : Nat} {l2 : List S57} (h : Ep W g a A1 c1 l1 A2 c2 l2) : Ep W.drew g a A1 c1 l1 A2 c2 l2 := h.up (below_drew1 (Below.refl _ _))
theorem Ep.put3 {W0 W : World} {g : Nat} {a : Int} {A1 : Option Addr} {c1 : Nat} {l1 : List Int} {A2 : Option Addr} {c2 : Nat} {l2 : List S57} (b : W.heap[g]? = some (.cells #[.int .i64 0, .slice none 0 0, .slice none 0 0] 25 (0, 0))) (hg : W0.heap.size ≤ g) (hX : Below W0.heap.size W0 W) (r1 : Kd.C (Kd.int .i64) W0 A1 l1.length l1) (k1 : l1.length ≤ c1) (r2 : Kd.C k57 W0 A2 l2.length l2) (k2 : l2.length ≤ c2) :
    Ep (((W.setCell ⟨g, 0, none⟩ (.int .i64 a)).setCell ⟨g, 1, none⟩ (.slice A1 l1.length c1)).setCell ⟨g, 2, none⟩ (.slice A2 l2.length c2)) g a A1 c1 l1 A2 c2 l2 :=
  ⟨Kd.C_below r1 (below_set (below_set (below_set hX hg) hg) hg), k1, Kd.C_below r2 (below_set (below_set (below_set hX hg) hg) hg), k2,
    blk_put (cs := #[.int .i64 a, .slice A1 l1.length c1, .slice none 0 0]) (blk_put (cs := #[.int .i64 a, .slice none 0 0, .slice none 0 0]) (blk_put (cs := #[.int .i64 0, .slice none 0 0, .slice none 0 0]) b 0 _ rfl) 1 _ rfl) 2 _ rfl⟩
/-- A row of numbers that is read. -/
structure Ls (W : World) (A : Option Addr) (c : Nat) (l : List Int) : Prop where
  r : Kd.C (Kd.int .i64) W A l.length l
  k : l.length ≤ c
theorem Ls.up {W W1 : World} {A : Option Addr} {c : Nat} {l : List Int} (h : Ls W A c l) (hb : Below W.heap.size W W1) : Ls W1 A c l := ⟨Kd.C_below h.r hb, h.k⟩
/-- What stays as long as memory only grows. -/
def Stay (p : World → Prop) (W : World) : Prop := ∀ W1, Below W.heap.size W W1 → p W1
theorem Stay.up {p : World → Prop} {W W1 : World} (h : Stay p W) (hb : Below W.heap.size W W1) : Stay p W1 := fun W2 h2 => h W2 (below_step hb h2)
theorem Stay.at_ {p : World → Prop} {W : World} (h : Stay p W) : p W := h W (Below.refl _ _)
theorem Stay.drewN {p : World → Prop} {W : World} (h : Stay p W) (m : Nat) : Stay p (W.drewN m) := h.up (pw_below_drewN (Below.refl _ _) m)
theorem Stay.drew {p : World → Prop} {W : World} (h : Stay p W) : Stay p W.drew := h.up (below_drew1 (Below.refl _ _))
def laws_FnEpochs.T15 : Bool × List (List Nat × List Nat) := (true, [([], []), ([], []), ([0, 1], [0, 1]), ([2], [2]), ([3], [3]), ([3], [3]), ([4, 5, 3, 3], [3, 4, 5]), ([3, 6], [3, 6]), ([7, 6], [7]), ([8], [8]), ([9, 8, 8], [8, 9]), ([10], [10]), ([10], [10]), ([11, 12, 10, 10], [10, 11, 12]), ([10, 13, 8], [8, 10, 13]), ([8, 14], [8, 14]), ([15, 13], [15]), ([16], [16]), ([16], [16]), ([17, 18, 16], [16, 17, 18]), ([16, 19], [16, 19]), ([20, 16], [20]), ([21], [21]), ([21], [21]), ([22, 23, 21, 21], [21, 22, 23]), ([21, 24], [21, 24]), ([25, 24], [25]), ([26], [26]), ([26], [26]), ([27, 28, 26], [26, 27, 28]), ([26, 29], [26, 29]), ([30, 26], [30]), ([31], [31]), ([31], [31]), ([32, 33, 31, 31], [31, 32, 33]), ([31, 34], [31, 34]), ([35, 34], [35]), ([36], [36]), ([36], [36]), ([37, 38, 36], [36, 37, 38]), ([36, 39], [36, 39]), ([40, 36], [40]), ([41], [41]), ([41], [41]), ([42, 43, 41, 41], [41, 42, 43]), ([41, 44], [41, 44]), ([45, 44], [45]), ([46], [46]), ([46], [46]), ([47, 48, 46, 46], [46, 47, 48]), ([46, 49], [46, 49]), ([50, 49], [50]), ([51], [51]), ([51], [51]), ([52, 53, 51, 51], [51, 52, 53]), ([51, 54], [51, 54]), ([55, 54], [55]), ([56], [56]), ([57, 56, 56], [56, 57]), ([56], [56]), ([59, 58, 56], [56, 59]), ([58, 60, 56], [56, 58, 60]), ([56, 61], [56, 61]), ([62, 60], [62]), ([63, 63], [63]), ([64, 63], [63, 64]), ([65, 63], [63, 65]), ([66, 63], [63, 66]), ([63, 67], [63, 67]), ([68, 64, 0, 1, 2, 3, 4, 5, 6, 7, 8, 9, 10, 11, 12, 13, 14, 15, 16, 17, 18, 19, 20, 21, 22, 23, 24, 25, 26, 27, 28, 29, 30, 31, 32, 33, 34, 35, 36, 37, 38, 39, 40, 41, 42, 43, 44, 45, 46, 47, 48, 49, 50, 51, 52, 53, 54, 55, 56, 57, 58, 59, 60, 61, 62, 63, 64, 65, 66, 67, 68], [68])])
def laws_FnEpochs.B15 : List Nat := [0, 0, 3, 7, 15, 15, 63, 127, 255, 511, 1023, 2047, 2047, 8191, 16383, 32767, 65535, 131071, 131071, 524287, 1048575, 2097151, 4194303, 4194303, 16777215, 33554431, 67108863, 134217727, 134217727, 536870911, 1073741823, 2147483647, 4294967295, 4294967295, 17179869183, 34359738367, 68719476735, 137438953471, 137438953471, 549755813887, 1099511627775, 2199023255551, 4398046511103, 4398046511103, 17592186044415, 35184372088831, 70368744177663, 140737488355327, 140737488355327, 562949953421311, 1125899906842623, 2251799813685247, 4503599627370495, 4503599627370495, 18014398509481983, 36028797018963967, 72057594037927935, 144115188075855871, 288230376151711743, 144115188075855871, 1152921504606846975, 2305843009213693951, 4611686018427387903, 9223372036854775807, 18446744073709551615, 36893488147419103231, 73786976294838206463, 147573952589676412927, 295147905179352825855, 590295810358705651711]
theorem laws_FnEpochs.tab15 : rtab .any (opsOf Try.f12 15) = laws_FnEpochs.T15 := by kernel_rfl
theorem laws_FnEpochs.bits15 : waitsOk laws_FnEpochs.T15.2 laws_FnEpochs.B15 = true := by kernel_rfl
set_option maxHeartbeats 8000000 in
set_option maxRecDepth 100000 in
theorem laws_FnEpochs.calls (k : Nat) (A0 : Option Addr) (c0 : Nat) (l0 : List Int) (r : Bool) (w : World) (hr0 : Kd.C (Kd.int .u8) w A0 l0.length l0) (hc0 : l0.length ≤ c0) (h : laws_FnEpochs.f k l0 = some r) :
    Calls Try.prog 12 #[.slice A0 l0.length c0] w fun e w' => e = .returned (.bool r) ∧ Below w.heap.size w w' := by
  have hu25 := Try.underlying25
  have HR0 := Aside0.mk hr0
  have HC0 := Aside0.mk hc0
  clear hr0 hc0
  have HB := Aside0.mk (Below.refl w.heap.size w)
  have H : ((laws_big.f l0).bind fun t1149 => (if t1149 = true then (some true) else ((spec_DrawPinLook.f k l0).bind fun bt1150 => ((impl_PinLook.f k bt1150.1 bt1150.2.1 bt1150.2.2.1 bt1150.2.2.2).bind fun bt1159 => ((spec_PinLook.f k bt1150.1 bt1150.2.1 bt1150.2.2.1 bt1150.2.2.2).bind fun bt1168 => ((impl_UnpinLook.f k bt1150.1 bt1150.2.1 bt1150.2.2.1 bt1150.2.2.2).bind fun bt1177 => ((spec_UnpinLook.f k bt1150.1 bt1150.2.1 bt1150.2.2.1 bt1150.2.2.2).bind fun bt1186 => ((spec_DrawRetireNode.f k l0).bind fun bt1195 => ((impl_RetireNode.f k bt1195.1 bt1195.2.1 bt1195.2.2.1 bt1195.2.2.2).bind fun bt1204 => ((spec_RetireNode.f k bt1195.1 bt1195.2.1 bt1195.2.2.1 bt1195.2.2.2).bind fun bt1213 => ((impl_AdvanceEpoch.f k bt1195.1 bt1195.2.1 bt1195.2.2.1).bind fun bt1222 => ((spec_AdvanceEpoch.f k bt1195.1 bt1195.2.1 bt1195.2.2.1).bind fun bt1231 => ((impl_FreeNodes.f k bt1195.1 bt1195.2.1 bt1195.2.2.1).bind fun bt1240 => ((spec_FreeNodes.f k bt1195.1 bt1195.2.1 bt1195.2.2.1).bind fun bt1251 => (if (bt1159.2.2.2 == bt1168.2.2.2) = true then ((laws_sameEpochs.f k bt1159.1 bt1159.2.1 bt1159.2.2.1 bt1168.1 bt1168.2.1 bt1168.2.2.1).bind fun t1262 => (if t1262 = true then (if bt1159.2.2.2 = true then (if (bt1177.2.2.2 == bt1186.2.2.2) = true then ((laws_sameEpochs.f k bt1177.1 bt1177.2.1 bt1177.2.2.1 bt1186.1 bt1186.2.1 bt1186.2.2.1).bind fun t1263 => (if t1263 = true then (if (bt1204.2.2.2 == bt1213.2.2.2) = true then ((laws_sameEpochs.f k bt1204.1 bt1204.2.1 bt1204.2.2.1 bt1213.1 bt1213.2.1 bt1213.2.2.1).bind fun t1264 => (if t1264 = true then (if (bt1222.2.2.2 == bt1231.2.2.2) = true then ((laws_sameEpochs.f k bt1222.1 bt1222.2.1 bt1222.2.2.1 bt1231.1 bt1231.2.1 bt1231.2.2.1).bind fun t1265 => (if t1265 = true then ((laws_sameInts.f k bt1240.2.2.2 bt1251.2.2.2).bind fun t1266 => (if t1266 = true then ((laws_sameEpochs.f k bt1240.1 bt1240.2.1 bt1240.2.2.1 bt1251.1 bt1251.2.1 bt1251.2.2.1).bind fun t1267 => (if t1267 = true then ((impl_EpochsOk.f k bt1150.1 bt1150.2.1 bt1150.2.2.1).bind fun t1268 => ((spec_EpochsOk.f k bt1150.1 bt1150.2.1 bt1150.2.2.1).bind fun t1269 => (if (t1268 == t1269) = true then ((impl_EpochsNew.f 9).bind fun bt1270 => (some ((bt1270.2.1.length : Int) == 4))) else (none)))) else (none))) else (none))) else (none))) else (none)) else (none))) else (none)) else (none))) else (none)) else ((laws_sameEpochs.f k bt1159.1 bt1159.2.1 bt1159.2.2.1 bt1150.1 bt1150.2.1 bt1150.2.2.1).bind fun t1277 => (if t1277 = true then (if (bt1177.2.2.2 == bt1186.2.2.2) = true then ((laws_sameEpochs.f k bt1177.1 bt1177.2.1 bt1177.2.2.1 bt1186.1 bt1186.2.1 bt1186.2.2.1).bind fun t1278 => (if t1278 = true then (if (bt1204.2.2.2 == bt1213.2.2.2) = true then ((laws_sameEpochs.f k bt1204.1 bt1204.2.1 bt1204.2.2.1 bt1213.1 bt1213.2.1 bt1213.2.2.1).bind fun t1279 => (if t1279 = true then (if (bt1222.2.2.2 == bt1231.2.2.2) = true then ((laws_sameEpochs.f k bt1222.1 bt1222.2.1 bt1222.2.2.1 bt1231.1 bt1231.2.1 bt1231.2.2.1).bind fun t1280 => (if t1280 = true then ((laws_sameInts.f k bt1240.2.2.2 bt1251.2.2.2).bind fun t1281 => (if t1281 = true then ((laws_sameEpochs.f k bt1240.1 bt1240.2.1 bt1240.2.2.1 bt1251.1 bt1251.2.1 bt1251.2.2.1).bind fun t1282 => (if t1282 = true then ((impl_EpochsOk.f k bt1150.1 bt1150.2.1 bt1150.2.2.1).bind fun t1283 => ((spec_EpochsOk.f k bt1150.1 bt1150.2.1 bt1150.2.2.1).bind fun t1284 => (if (t1283 == t1284) = true then ((impl_EpochsNew.f 9).bind fun bt1285 => (some ((bt1285.2.1.length : Int) == 4))) else (none)))) else (none))) else (none))) else (none))) else (none)) else (none))) else (none)) else (none))) else (none)) else (none)))) else (none))) else (none)))))))))))))))) = some r := h
  clear h
  replace H := Option.bind_eq_some_iff.mp H
  obtain ⟨t1149, A20, H⟩ := H
  replace H : (if t1149 = true then (some true) else ((spec_DrawPinLook.f k l0).bind fun bt1150 => ((impl_PinLook.f k bt1150.1 bt1150.2.1 bt1150.2.2.1 bt1150.2.2.2).bind fun bt1159 => ((spec_PinLook.f k bt1150.1 bt1150.2.1 bt1150.2.2.1 bt1150.2.2.2).bind fun bt1168 => ((impl_UnpinLook.f k bt1150.1 bt1150.2.1 bt1150.2.2.1 bt1150.2.2.2).bind fun bt1177 => ((spec_UnpinLook.f k bt1150.1 bt1150.2.1 bt1150.2.2.1 bt1150.2.2.2).bind fun bt1186 => ((spec_DrawRetireNode.f k l0).bind fun bt1195 => ((impl_RetireNode.f k bt1195.1 bt1195.2.1 bt1195.2.2.1 bt1195.2.2.2).bind fun bt1204 => ((spec_RetireNode.f k bt1195.1 bt1195.2.1 bt1195.2.2.1 bt1195.2.2.2).bind fun bt1213 => ((impl_AdvanceEpoch.f k bt1195.1 bt1195.2.1 bt1195.2.2.1).bind fun bt1222 => ((spec_AdvanceEpoch.f k bt1195.1 bt1195.2.1 bt1195.2.2.1).bind fun bt1231 => ((impl_FreeNodes.f k bt1195.1 bt1195.2.1 bt1195.2.2.1).bind fun bt1240 => ((spec_FreeNodes.f k bt1195.1 bt1195.2.1 bt1195.2.2.1).bind fun bt1251 => (if (bt1159.2.2.2 == bt1168.2.2.2) = true then ((laws_sameEpochs.f k bt1159.1 bt1159.2.1 bt1159.2.2.1 bt1168.1 bt1168.2.1 bt1168.2.2.1).bind fun t1262 => (if t1262 = true then (if bt1159.2.2.2 = true then (if (bt1177.2.2.2 == bt1186.2.2.2) = true then ((laws_sameEpochs.f k bt1177.1 bt1177.2.1 bt1177.2.2.1 bt1186.1 bt1186.2.1 bt1186.2.2.1).bind fun t1263 => (if t1263 = true then (if (bt1204.2.2.2 == bt1213.2.2.2) = true then ((laws_sameEpochs.f k bt1204.1 bt1204.2.1 bt1204.2.2.1 bt1213.1 bt1213.2.1 bt1213.2.2.1).bind fun t1264 => (if t1264 = true then (if (bt1222.2.2.2 == bt1231.2.2.2) = true then ((laws_sameEpochs.f k bt1222.1 bt1222.2.1 bt1222.2.2.1 bt1231.1 bt1231.2.1 bt1231.2.2.1).bind fun t1265 => (if t1265 = true then ((laws_sameInts.f k bt1240.2.2.2 bt1251.2.2.2).bind fun t1266 => (if t1266 = true then ((laws_sameEpochs.f k bt1240.1 bt1240.2.1 bt1240.2.2.1 bt1251.1 bt1251.2.1 bt1251.2.2.1).bind fun t1267 => (if t1267 = true then ((impl_EpochsOk.f k bt1150.1 bt1150.2.1 bt1150.2.2.1).bind fun t1268 => ((spec_EpochsOk.f k bt1150.1 bt1150.2.1 bt1150.2.2.1).bind fun t1269 => (if (t1268 == t1269) = true then ((impl_EpochsNew.f 9).bind fun bt1270 => (some ((bt1270.2.1.length : Int) == 4))) else (none)))) else (none))) else (none))) else (none))) else (none)) else (none))) else (none)) else (none))) else (none)) else ((laws_sameEpochs.f k bt1159.1 bt1159.2.1 bt1159.2.2.1 bt1150.1 bt1150.2.1 bt1150.2.2.1).bind fun t1277 => (if t1277 = true then (if (bt1177.2.2.2 == bt1186.2.2.2) = true then ((laws_sameEpochs.f k bt1177.1 bt1177.2.1 bt1177.2.2.1 bt1186.1 bt1186.2.1 bt1186.2.2.1).bind fun t1278 => (if t1278 = true then (if (bt1204.2.2.2 == bt1213.2.2.2) = true then ((laws_sameEpochs.f k bt1204.1 bt1204.2.1 bt1204.2.2.1 bt1213.1 bt1213.2.1 bt1213.2.2.1).bind fun t1279 => (if t1279 = true then (if (bt1222.2.2.2 == bt1231.2.2.2) = true then ((laws_sameEpochs.f k bt1222.1 bt1222.2.1 bt1222.2.2.1 bt1231.1 bt1231.2.1 bt1231.2.2.1).bind fun t1280 => (if t1280 = true then ((laws_sameInts.f k bt1240.2.2.2 bt1251.2.2.2).bind fun t1281 => (if t1281 = true then ((laws_sameEpochs.f k bt1240.1 bt1240.2.1 bt1240.2.2.1 bt1251.1 bt1251.2.1 bt1251.2.2.1).bind fun t1282 => (if t1282 = true then ((impl_EpochsOk.f k bt1150.1 bt1150.2.1 bt1150.2.2.1).bind fun t1283 => ((spec_EpochsOk.f k bt1150.1 bt1150.2.1 bt1150.2.2.1).bind fun t1284 => (if (t1283 == t1284) = true then ((impl_EpochsNew.f 9).bind fun bt1285 => (some ((bt1285.2.1.length : Int) == 4))) else (none)))) else (none))) else (none))) else (none))) else (none)) else (none))) else (none)) else (none))) else (none)) else (none)))) else (none))) else (none))))))))))))))) = some r := H
  have A2 := Aside0.mk A20
  clear A20
  have HS3 := Aside0.mk H
  clear H
  have hfdT : ∀ (a : Int) (v1 v2 : Value) (W : World), (Instr.field 25 (.agg #[.int .i64 a, v1, v2]) 1).run Try.prog W = .ok v1 W := fun a v1 v2 W => by kernel_rfl
  go_enter Try.func12, Try.ntmps12
  go_upto_if 28 with (first | ((with_reducible refine gate_callee (f := 35) rfl ?_); refine goesL_ (some 28) rfl rfl Try.func35 (by kernel_rfl) rfl #[.slice A0 l0.length c0] rfl (by (try simp only [List.map_toArray, List.map_cons, List.map_nil]); first | done | rfl | (simp only [List.length_drop, List.length_take]; rfl)) ?_; (with_reducible refine (laws_big.calls _ _ l0 t1149 _ ?side1 ?side2 A2.out).mono ?_); (case side1 => repeat (first | exact HR0.out | (with_reducible refine Kd.C_alloc ?_ _) | (with_reducible refine Kd.C_drewN ?_ _) | (with_reducible refine Kd.C_drew ?_))); (case side2 => exact HC0.out); rintro e w' ⟨rfl, rfl⟩; refine ⟨_, rfl, ?_⟩))
  (try simp only [Act.put, List.setIfInBounds_toArray, List.set_cons_zero, List.set_cons_succ])
  have H := HS3.out
  clear HS3
  by_cases c4 : t1149 = true
  · subst c4
    have H1 : (some true) = some r := by rw [if_pos rfl] at H; exact H
    clear H
    have H := H1
    clear H1
    obtain rfl := Option.some.inj H
    go_wp2
    go_ret
    exact ⟨by first | rfl | (simp [errW_none, errW_some] <;> rfl) | (simp [*, errW_none, errW_some] <;> rfl), by repeat (first | (with_reducible first | exact HB.out | apply below_alloc | apply pw_below_drewN | apply below_drew1) | exact HB.out)⟩
  replace c4 := Bool.eq_false_iff.mpr c4
  subst c4
  have H1 : ((spec_DrawPinLook.f k l0).bind fun bt1150 => ((impl_PinLook.f k bt1150.1 bt1150.2.1 bt1150.2.2.1 bt1150.2.2.2).bind fun bt1159 => ((spec_PinLook.f k bt1150.1 bt1150.2.1 bt1150.2.2.1 bt1150.2.2.2).bind fun bt1168 => ((impl_UnpinLook.f k bt1150.1 bt1150.2.1 bt1150.2.2.1 bt1150.2.2.2).bind fun bt1177 => ((spec_UnpinLook.f k bt1150.1 bt1150.2.1 bt1150.2.2.1 bt1150.2.2.2).bind fun bt1186 => ((spec_DrawRetireNode.f k l0).bind fun bt1195 => ((impl_RetireNode.f k bt1195.1 bt1195.2.1 bt1195.2.2.1 bt1195.2.2.2).bind fun bt1204 => ((spec_RetireNode.f k bt1195.1 bt1195.2.1 bt1195.2.2.1 bt1195.2.2.2).bind fun bt1213 => ((impl_AdvanceEpoch.f k bt1195.1 bt1195.2.1 bt1195.2.2.1).bind fun bt1222 => ((spec_AdvanceEpoch.f k bt1195.1 bt1195.2.1 bt1195.2.2.1).bind fun bt1231 => ((impl_FreeNodes.f k bt1195.1 bt1195.2.1 bt1195.2.2.1).bind fun bt1240 => ((spec_FreeNodes.f k bt1195.1 bt1195.2.1 bt1195.2.2.1).bind fun bt1251 => (if (bt1159.2.2.2 == bt1168.2.2.2) = true then ((laws_sameEpochs.f k bt1159.1 bt1159.2.1 bt1159.2.2.1 bt1168.1 bt1168.2.1 bt1168.2.2.1).bind fun t1262 => (if t1262 = true then (if bt1159.2.2.2 = true then (if (bt1177.2.2.2 == bt1186.2.2.2) = true then ((laws_sameEpochs.f k bt1177.1 bt1177.2.1 bt1177.2.2.1 bt1186.1 bt1186.2.1 bt1186.2.2.1).bind fun t1263 => (if t1263 = true then (if (bt1204.2.2.2 == bt1213.2.2.2) = true then ((laws_sameEpochs.f k bt1204.1 bt1204.2.1 bt1204.2.2.1 bt1213.1 bt1213.2.1 bt1213.2.2.1).bind fun t1264 => (if t1264 = true then (if (bt1222.2.2.2 == bt1231.2.2.2) = true then ((laws_sameEpochs.f k bt1222.1 bt1222.2.1 bt1222.2.2.1 bt1231.1 bt1231.2.1 bt1231.2.2.1).bind fun t1265 => (if t1265 = true then ((laws_sameInts.f k bt1240.2.2.2 bt1251.2.2.2).bind fun t1266 => (if t1266 = true then ((laws_sameEpochs.f k bt1240.1 bt1240.2.1 bt1240.2.2.1 bt1251.1 bt1251.2.1 bt1251.2.2.1).bind fun t1267 => (if t1267 = true then ((impl_EpochsOk.f k bt1150.1 bt1150.2.1 bt1150.2.2.1).bind fun t1268 => ((spec_EpochsOk.f k bt1150.1 bt1150.2.1 bt1150.2.2.1).bind fun t1269 => (if (t1268 == t1269) = true then ((impl_EpochsNew.f 9).bind fun bt1270 => (some ((bt1270.2.1.length : Int) == 4))) else (none)))) else (none))) else (none))) else (none))) else (none)) else (none))) else (none)) else (none))) else (none)) else ((laws_sameEpochs.f k bt1159.1 bt1159.2.1 bt1159.2.2.1 bt1150.1 bt1150.2.1 bt1150.2.2.1).bind fun t1277 => (if t1277 = true then (if (bt1177.2.2.2 == bt1186.2.2.2) = true then ((laws_sameEpochs.f k bt1177.1 bt1177.2.1 bt1177.2.2.1 bt1186.1 bt1186.2.1 bt1186.2.2.1).bind fun t1278 => (if t1278 = true then (if (bt1204.2.2.2 == bt1213.2.2.2) = true then ((laws_sameEpochs.f k bt1204.1 bt1204.2.1 bt1204.2.2.1 bt1213.1 bt1213.2.1 bt1213.2.2.1).bind fun t1279 => (if t1279 = true then (if (bt1222.2.2.2 == bt1231.2.2.2) = true then ((laws_sameEpochs.f k bt1222.1 bt1222.2.1 bt1222.2.2.1 bt1231.1 bt1231.2.1 bt1231.2.2.1).bind fun t1280 => (if t1280 = true then ((laws_sameInts.f k bt1240.2.2.2 bt1251.2.2.2).bind fun t1281 => (if t1281 = true then ((laws_sameEpochs.f k bt1240.1 bt1240.2.1 bt1240.2.2.1 bt1251.1 bt1251.2.1 bt1251.2.2.1).bind fun t1282 => (if t1282 = true then ((impl_EpochsOk.f k bt1150.1 bt1150.2.1 bt1150.2.2.1).bind fun t1283 => ((spec_EpochsOk.f k bt1150.1 bt1150.2.1 bt1150.2.2.1).bind fun t1284 => (if (t1283 == t1284) = true then ((impl_EpochsNew.f 9).bind fun bt1285 => (some ((bt1285.2.1.length : Int) == 4))) else (none)))) else (none))) else (none))) else (none))) else (none)) else (none))) else (none)) else (none))) else (none)) else (none)))) else (none))) else (none)))))))))))))) = some r := by rw [if_neg (show ¬ (false = true) by decide)] at H; exact H
  clear H
  have H := H1
  clear H1
  replace H := Option.bind_eq_some_iff.mp H
  obtain ⟨⟨t1150, t1151, t1154, t1157⟩, A50, H⟩ := H
  replace H : ((impl_PinLook.f k t1150 t1151 t1154 t1157).bind fun bt1159 => ((spec_PinLook.f k t1150 t1151 t1154 t1157).bind fun bt1168 => ((impl_UnpinLook.f k t1150 t1151 t1154 t1157).bind fun bt1177 => ((spec_UnpinLook.f k t1150 t1151 t1154 t1157).bind fun bt1186 => ((spec_DrawRetireNode.f k l0).bind fun bt1195 => ((impl_RetireNode.f k bt1195.1 bt1195.2.1 bt1195.2.2.1 bt1195.2.2.2).bind fun bt1204 => ((spec_RetireNode.f k bt1195.1 bt1195.2.1 bt1195.2.2.1 bt1195.2.2.2).bind fun bt1213 => ((impl_AdvanceEpoch.f k bt1195.1 bt1195.2.1 bt1195.2.2.1).bind fun bt1222 => ((spec_AdvanceEpoch.f k bt1195.1 bt1195.2.1 bt1195.2.2.1).bind fun bt1231 => ((impl_FreeNodes.f k bt1195.1 bt1195.2.1 bt1195.2.2.1).bind fun bt1240 => ((spec_FreeNodes.f k bt1195.1 bt1195.2.1 bt1195.2.2.1).bind fun bt1251 => (if (bt1159.2.2.2 == bt1168.2.2.2) = true then ((laws_sameEpochs.f k bt1159.1 bt1159.2.1 bt1159.2.2.1 bt1168.1 bt1168.2.1 bt1168.2.2.1).bind fun t1262 => (if t1262 = true then (if bt1159.2.2.2 = true then (if (bt1177.2.2.2 == bt1186.2.2.2) = true then ((laws_sameEpochs.f k bt1177.1 bt1177.2.1 bt1177.2.2.1 bt1186.1 bt1186.2.1 bt1186.2.2.1).bind fun t1263 => (if t1263 = true then (if (bt1204.2.2.2 == bt1213.2.2.2) = true then ((laws_sameEpochs.f k bt1204.1 bt1204.2.1 bt1204.2.2.1 bt1213.1 bt1213.2.1 bt1213.2.2.1).bind fun t1264 => (if t1264 = true then (if (bt1222.2.2.2 == bt1231.2.2.2) = true then ((laws_sameEpochs.f k bt1222.1 bt1222.2.1 bt1222.2.2.1 bt1231.1 bt1231.2.1 bt1231.2.2.1).bind fun t1265 => (if t1265 = true then ((laws_sameInts.f k bt1240.2.2.2 bt1251.2.2.2).bind fun t1266 => (if t1266 = true then ((laws_sameEpochs.f k bt1240.1 bt1240.2.1 bt1240.2.2.1 bt1251.1 bt1251.2.1 bt1251.2.2.1).bind fun t1267 => (if t1267 = true then ((impl_EpochsOk.f k t1150 t1151 t1154).bind fun t1268 => ((spec_EpochsOk.f k t1150 t1151 t1154).bind fun t1269 => (if (t1268 == t1269) = true then ((impl_EpochsNew.f 9).bind fun bt1270 => (some ((bt1270.2.1.length : Int) == 4))) else (none)))) else (none))) else (none))) else (none))) else (none)) else (none))) else (none)) else (none))) else (none)) else ((laws_sameEpochs.f k bt1159.1 bt1159.2.1 bt1159.2.2.1 t1150 t1151 t1154).bind fun t1277 => (if t1277 = true then (if (bt1177.2.2.2 == bt1186.2.2.2) = true then ((laws_sameEpochs.f k bt1177.1 bt1177.2.1 bt1177.2.2.1 bt1186.1 bt1186.2.1 bt1186.2.2.1).bind fun t1278 => (if t1278 = true then (if (bt1204.2.2.2 == bt1213.2.2.2) = true then ((laws_sameEpochs.f k bt1204.1 bt1204.2.1 bt1204.2.2.1 bt1213.1 bt1213.2.1 bt1213.2.2.1).bind fun t1279 => (if t1279 = true then (if (bt1222.2.2.2 == bt1231.2.2.2) = true then ((laws_sameEpochs.f k bt1222.1 bt1222.2.1 bt1222.2.2.1 bt1231.1 bt1231.2.1 bt1231.2.2.1).bind fun t1280 => (if t1280 = true then ((laws_sameInts.f k bt1240.2.2.2 bt1251.2.2.2).bind fun t1281 => (if t1281 = true then ((laws_sameEpochs.f k bt1240.1 bt1240.2.1 bt1240.2.2.1 bt1251.1 bt1251.2.1 bt1251.2.2.1).bind fun t1282 => (if t1282 = true then ((impl_EpochsOk.f k t1150 t1151 t1154).bind fun t1283 => ((spec_EpochsOk.f k t1150 t1151 t1154).bind fun t1284 => (if (t1283 == t1284) = true then ((impl_EpochsNew.f 9).bind fun bt1285 => (some ((bt1285.2.1.length : Int) == 4))) else (none)))) else (none))) else (none))) else (none))) else (none)) else (none))) else (none)) else (none))) else (none)) else (none)))) else (none))) else (none))))))))))))) = some r := H
  have A5 := Aside0.mk A50
  clear A50
  replace H := Option.bind_eq_some_iff.mp H
  obtain ⟨⟨t1159, t1160, t1163, t1166⟩, A60, H⟩ := H
  replace H : ((spec_PinLook.f k t1150 t1151 t1154 t1157).bind fun bt1168 => ((impl_UnpinLook.f k t1150 t1151 t1154 t1157).bind fun bt1177 => ((spec_UnpinLook.f k t1150 t1151 t1154 t1157).bind fun bt1186 => ((spec_DrawRetireNode.f k l0).bind fun bt1195 => ((impl_RetireNode.f k bt1195.1 bt1195.2.1 bt1195.2.2.1 bt1195.2.2.2).bind fun bt1204 => ((spec_RetireNode.f k bt1195.1 bt1195.2.1 bt1195.2.2.1 bt1195.2.2.2).bind fun bt1213 => ((impl_AdvanceEpoch.f k bt1195.1 bt1195.2.1 bt1195.2.2.1).bind fun bt1222 => ((spec_AdvanceEpoch.f k bt1195.1 bt1195.2.1 bt1195.2.2.1).bind fun bt1231 => ((impl_FreeNodes.f k bt1195.1 bt1195.2.1 bt1195.2.2.1).bind fun bt1240 => ((spec_FreeNodes.f k bt1195.1 bt1195.2.1 bt1195.2.2.1).bind fun bt1251 => (if (t1166 == bt1168.2.2.2) = true then ((laws_sameEpochs.f k t1159 t1160 t1163 bt1168.1 bt1168.2.1 bt1168.2.2.1).bind fun t1262 => (if t1262 = true then (if t1166 = true then (if (bt1177.2.2.2 == bt1186.2.2.2) = true then ((laws_sameEpochs.f k bt1177.1 bt1177.2.1 bt1177.2.2.1 bt1186.1 bt1186.2.1 bt1186.2.2.1).bind fun t1263 => (if t1263 = true then (if (bt1204.2.2.2 == bt1213.2.2.2) = true then ((laws_sameEpochs.f k bt1204.1 bt1204.2.1 bt1204.2.2.1 bt1213.1 bt1213.2.1 bt1213.2.2.1).bind fun t1264 => (if t1264 = true then (if (bt1222.2.2.2 == bt1231.2.2.2) = true then ((laws_sameEpochs.f k bt1222.1 bt1222.2.1 bt1222.2.2.1 bt1231.1 bt1231.2.1 bt1231.2.2.1).bind fun t1265 => (if t1265 = true then ((laws_sameInts.f k bt1240.2.2.2 bt1251.2.2.2).bind fun t1266 => (if t1266 = true then ((laws_sameEpochs.f k bt1240.1 bt1240.2.1 bt1240.2.2.1 bt1251.1 bt1251.2.1 bt1251.2.2.1).bind fun t1267 => (if t1267 = true then ((impl_EpochsOk.f k t1150 t1151 t1154).bind fun t1268 => ((spec_EpochsOk.f k t1150 t1151 t1154).bind fun t1269 => (if (t1268 == t1269) = true then ((impl_EpochsNew.f 9).bind fun bt1270 => (some ((bt1270.2.1.length : Int) == 4))) else (none)))) else (none))) else (none))) else (none))) else (none)) else (none))) else (none)) else (none))) else (none)) else ((laws_sameEpochs.f k t1159 t1160 t1163 t1150 t1151 t1154).bind fun t1277 => (if t1277 = true then (if (bt1177.2.2.2 == bt1186.2.2.2) = true then ((laws_sameEpochs.f k bt1177.1 bt1177.2.1 bt1177.2.2.1 bt1186.1 bt1186.2.1 bt1186.2.2.1).bind fun t1278 => (if t1278 = true then (if (bt1204.2.2.2 == bt1213.2.2.2) = true then ((laws_sameEpochs.f k bt1204.1 bt1204.2.1 bt1204.2.2.1 bt1213.1 bt1213.2.1 bt1213.2.2.1).bind fun t1279 => (if t1279 = true then (if (bt1222.2.2.2 == bt1231.2.2.2) = true then ((laws_sameEpochs.f k bt1222.1 bt1222.2.1 bt1222.2.2.1 bt1231.1 bt1231.2.1 bt1231.2.2.1).bind fun t1280 => (if t1280 = true then ((laws_sameInts.f k bt1240.2.2.2 bt1251.2.2.2).bind fun t1281 => (if t1281 = true then ((laws_sameEpochs.f k bt1240.1 bt1240.2.1 bt1240.2.2.1 bt1251.1 bt1251.2.1 bt1251.2.2.1).bind fun t1282 => (if t1282 = true then ((impl_EpochsOk.f k t1150 t1151 t1154).bind fun t1283 => ((spec_EpochsOk.f k t1150 t1151 t1154).bind fun t1284 => (if (t1283 == t1284) = true then ((impl_EpochsNew.f 9).bind fun bt1285 => (some ((bt1285.2.1.length : Int) == 4))) else (none)))) else (none))) else (none))) else (none))) else (none)) else (none))) else (none)) else (none))) else (none)) else (none)))) else (none))) else (none)))))))))))) = some r := H
  have A6 := Aside0.mk A60
  clear A60
  replace H := Option.bind_eq_some_iff.mp H
  obtain ⟨⟨t1168, t1169, t1172, t1175⟩, A70, H⟩ := H
  replace H : ((impl_UnpinLook.f k t1150 t1151 t1154 t1157).bind fun bt1177 => ((spec_UnpinLook.f k t1150 t1151 t1154 t1157).bind fun bt1186 => ((spec_DrawRetireNode.f k l0).bind fun bt1195 => ((impl_RetireNode.f k bt1195.1 bt1195.2.1 bt1195.2.2.1 bt1195.2.2.2).bind fun bt1204 => ((spec_RetireNode.f k bt1195.1 bt1195.2.1 bt1195.2.2.1 bt1195.2.2.2).bind fun bt1213 => ((impl_AdvanceEpoch.f k bt1195.1 bt1195.2.1 bt1195.2.2.1).bind fun bt1222 => ((spec_AdvanceEpoch.f k bt1195.1 bt1195.2.1 bt1195.2.2.1).bind fun bt1231 => ((impl_FreeNodes.f k bt1195.1 bt1195.2.1 bt1195.2.2.1).bind fun bt1240 => ((spec_FreeNodes.f k bt1195.1 bt1195.2.1 bt1195.2.2.1).bind fun bt1251 => (if (t1166 == t1175) = true then ((laws_sameEpochs.f k t1159 t1160 t1163 t1168 t1169 t1172).bind fun t1262 => (if t1262 = true then (if t1166 = true then (if (bt1177.2.2.2 == bt1186.2.2.2) = true then ((laws_sameEpochs.f k bt1177.1 bt1177.2.1 bt1177.2.2.1 bt1186.1 bt1186.2.1 bt1186.2.2.1).bind fun t1263 => (if t1263 = true then (if (bt1204.2.2.2 == bt1213.2.2.2) = true then ((laws_sameEpochs.f k bt1204.1 bt1204.2.1 bt1204.2.2.1 bt1213.1 bt1213.2.1 bt1213.2.2.1).bind fun t1264 => (if t1264 = true then (if (bt1222.2.2.2 == bt1231.2.2.2) = true then ((laws_sameEpochs.f k bt1222.1 bt1222.2.1 bt1222.2.2.1 bt1231.1 bt1231.2.1 bt1231.2.2.1).bind fun t1265 => (if t1265 = true then ((laws_sameInts.f k bt1240.2.2.2 bt1251.2.2.2).bind fun t1266 => (if t1266 = true then ((laws_sameEpochs.f k bt1240.1 bt1240.2.1 bt1240.2.2.1 bt1251.1 bt1251.2.1 bt1251.2.2.1).bind fun t1267 => (if t1267 = true then ((impl_EpochsOk.f k t1150 t1151 t1154).bind fun t1268 => ((spec_EpochsOk.f k t1150 t1151 t1154).bind fun t1269 => (if (t1268 == t1269) = true then ((impl_EpochsNew.f 9).bind fun bt1270 => (some ((bt1270.2.1.length : Int) == 4))) else (none)))) else (none))) else (none))) else (none))) else (none)) else (none))) else (none)) else (none))) else (none)) else ((laws_sameEpochs.f k t1159 t1160 t1163 t1150 t1151 t1154).bind fun t1277 => (if t1277 = true then (if (bt1177.2.2.2 == bt1186.2.2.2) = true then ((laws_sameEpochs.f k bt1177.1 bt1177.2.1 bt1177.2.2.1 bt1186.1 bt1186.2.1 bt1186.2.2.1).bind fun t1278 => (if t1278 = true then (if (bt1204.2.2.2 == bt1213.2.2.2) = true then ((laws_sameEpochs.f k bt1204.1 bt1204.2.1 bt1204.2.2.1 bt1213.1 bt1213.2.1 bt1213.2.2.1).bind fun t1279 => (if t1279 = true then (if (bt1222.2.2.2 == bt1231.2.2.2) = true then ((laws_sameEpochs.f k bt1222.1 bt1222.2.1 bt1222.2.2.1 bt1231.1 bt1231.2.1 bt1231.2.2.1).bind fun t1280 => (if t1280 = true then ((laws_sameInts.f k bt1240.2.2.2 bt1251.2.2.2).bind fun t1281 => (if t1281 = true then ((laws_sameEpochs.f k bt1240.1 bt1240.2.1 bt1240.2.2.1 bt1251.1 bt1251.2.1 bt1251.2.2.1).bind fun t1282 => (if t1282 = true then ((impl_EpochsOk.f k t1150 t1151 t1154).bind fun t1283 => ((spec_EpochsOk.f k t1150 t1151 t1154).bind fun t1284 => (if (t1283 == t1284) = true then ((impl_EpochsNew.f 9).bind fun bt1285 => (some ((bt1285.2.1.length : Int) == 4))) else (none)))) else (none))) else (none))) else (none))) else (none)) else (none))) else (none)) else (none))) else (none)) else (none)))) else (none))) else (none))))))))))) = some r := H
  have A7 := Aside0.mk A70
  clear A70
  replace H := Option.bind_eq_some_iff.mp H
  obtain ⟨⟨t1177, t1178, t1181, t1184⟩, A80, H⟩ := H
  replace H : ((spec_UnpinLook.f k t1150 t1151 t1154 t1157).bind fun bt1186 => ((spec_DrawRetireNode.f k l0).bind fun bt1195 => ((impl_RetireNode.f k bt1195.1 bt1195.2.1 bt1195.2.2.1 bt1195.2.2.2).bind fun bt1204 => ((spec_RetireNode.f k bt1195.1 bt1195.2.1 bt1195.2.2.1 bt1195.2.2.2).bind fun bt1213 => ((impl_AdvanceEpoch.f k bt1195.1 bt1195.2.1 bt1195.2.2.1).bind fun bt1222 => ((spec_AdvanceEpoch.f k bt1195.1 bt1195.2.1 bt1195.2.2.1).bind fun bt1231 => ((impl_FreeNodes.f k bt1195.1 bt1195.2.1 bt1195.2.2.1).bind fun bt1240 => ((spec_FreeNodes.f k bt1195.1 bt1195.2.1 bt1195.2.2.1).bind fun bt1251 => (if (t1166 == t1175) = true then ((laws_sameEpochs.f k t1159 t1160 t1163 t1168 t1169 t1172).bind fun t1262 => (if t1262 = true then (if t1166 = true then (if (t1184 == bt1186.2.2.2) = true then ((laws_sameEpochs.f k t1177 t1178 t1181 bt1186.1 bt1186.2.1 bt1186.2.2.1).bind fun t1263 => (if t1263 = true then (if (bt1204.2.2.2 == bt1213.2.2.2) = true then ((laws_sameEpochs.f k bt1204.1 bt1204.2.1 bt1204.2.2.1 bt1213.1 bt1213.2.1 bt1213.2.2.1).bind fun t1264 => (if t1264 = true then (if (bt1222.2.2.2 == bt1231.2.2.2) = true then ((laws_sameEpochs.f k bt1222.1 bt1222.2.1 bt1222.2.2.1 bt1231.1 bt1231.2.1 bt1231.2.2.1).bind fun t1265 => (if t1265 = true then ((laws_sameInts.f k bt1240.2.2.2 bt1251.2.2.2).bind fun t1266 => (if t1266 = true then ((laws_sameEpochs.f k bt1240.1 bt1240.2.1 bt1240.2.2.1 bt1251.1 bt1251.2.1 bt1251.2.2.1).bind fun t1267 => (if t1267 = true then ((impl_EpochsOk.f k t1150 t1151 t1154).bind fun t1268 => ((spec_EpochsOk.f k t1150 t1151 t1154).bind fun t1269 => (if (t1268 == t1269) = true then ((impl_EpochsNew.f 9).bind fun bt1270 => (some ((bt1270.2.1.length : Int) == 4))) else (none)))) else (none))) else (none))) else (none))) else (none)) else (none))) else (none)) else (none))) else (none)) else ((laws_sameEpochs.f k t1159 t1160 t1163 t1150 t1151 t1154).bind fun t1277 => (if t1277 = true then (if (t1184 == bt1186.2.2.2) = true then ((laws_sameEpochs.f k t1177 t1178 t1181 bt1186.1 bt1186.2.1 bt1186.2.2.1).bind fun t1278 => (if t1278 = true then (if (bt1204.2.2.2 == bt1213.2.2.2) = true then ((laws_sameEpochs.f k bt1204.1 bt1204.2.1 bt1204.2.2.1 bt1213.1 bt1213.2.1 bt1213.2.2.1).bind fun t1279 => (if t1279 = true then (if (bt1222.2.2.2 == bt1231.2.2.2) = true then ((laws_sameEpochs.f k bt1222.1 bt1222.2.1 bt1222.2.2.1 bt1231.1 bt1231.2.1 bt1231.2.2.1).bind fun t1280 => (if t1280 = true then ((laws_sameInts.f k bt1240.2.2.2 bt1251.2.2.2).bind fun t1281 => (if t1281 = true then ((laws_sameEpochs.f k bt1240.1 bt1240.2.1 bt1240.2.2.1 bt1251.1 bt1251.2.1 bt1251.2.2.1).bind fun t1282 => (if t1282 = true then ((impl_EpochsOk.f k t1150 t1151 t1154).bind fun t1283 => ((spec_EpochsOk.f k t1150 t1151 t1154).bind fun t1284 => (if (t1283 == t1284) = true then ((impl_EpochsNew.f 9).bind fun bt1285 => (some ((bt1285.2.1.length : Int) == 4))) else (none)))) else (none))) else (none))) else (none))) else (none)) else (none))) else (none)) else (none))) else (none)) else (none)))) else (none))) else (none)))))))))) = some r := H
  have A8 := Aside0.mk A80
  clear A80
  replace H := Option.bind_eq_some_iff.mp H
  obtain ⟨⟨t1186, t1187, t1190, t1193⟩, A90, H⟩ := H
  replace H : ((spec_DrawRetireNode.f k l0).bind fun bt1195 => ((impl_RetireNode.f k bt1195.1 bt1195.2.1 bt1195.2.2.1 bt1195.2.2.2).bind fun bt1204 => ((spec_RetireNode.f k bt1195.1 bt1195.2.1 bt1195.2.2.1 bt1195.2.2.2).bind fun bt1213 => ((impl_AdvanceEpoch.f k bt1195.1 bt1195.2.1 bt1195.2.2.1).bind fun bt1222 => ((spec_AdvanceEpoch.f k bt1195.1 bt1195.2.1 bt1195.2.2.1).bind fun bt1231 => ((impl_FreeNodes.f k bt1195.1 bt1195.2.1 bt1195.2.2.1).bind fun bt1240 => ((spec_FreeNodes.f k bt1195.1 bt1195.2.1 bt1195.2.2.1).bind fun bt1251 => (if (t1166 == t1175) = true then ((laws_sameEpochs.f k t1159 t1160 t1163 t1168 t1169 t1172).bind fun t1262 => (if t1262 = true then (if t1166 = true then (if (t1184 == t1193) = true then ((laws_sameEpochs.f k t1177 t1178 t1181 t1186 t1187 t1190).bind fun t1263 => (if t1263 = true then (if (bt1204.2.2.2 == bt1213.2.2.2) = true then ((laws_sameEpochs.f k bt1204.1 bt1204.2.1 bt1204.2.2.1 bt1213.1 bt1213.2.1 bt1213.2.2.1).bind fun t1264 => (if t1264 = true then (if (bt1222.2.2.2 == bt1231.2.2.2) = true then ((laws_sameEpochs.f k bt1222.1 bt1222.2.1 bt1222.2.2.1 bt1231.1 bt1231.2.1 bt1231.2.2.1).bind fun t1265 => (if t1265 = true then ((laws_sameInts.f k bt1240.2.2.2 bt1251.2.2.2).bind fun t1266 => (if t1266 = true then ((laws_sameEpochs.f k bt1240.1 bt1240.2.1 bt1240.2.2.1 bt1251.1 bt1251.2.1 bt1251.2.2.1).bind fun t1267 => (if t1267 = true then ((impl_EpochsOk.f k t1150 t1151 t1154).bind fun t1268 => ((spec_EpochsOk.f k t1150 t1151 t1154).bind fun t1269 => (if (t1268 == t1269) = true then ((impl_EpochsNew.f 9).bind fun bt1270 => (some ((bt1270.2.1.length : Int) == 4))) else (none)))) else (none))) else (none))) else (none))) else (none)) else (none))) else (none)) else (none))) else (none)) else ((laws_sameEpochs.f k t1159 t1160 t1163 t1150 t1151 t1154).bind fun t1277 => (if t1277 = true then (if (t1184 == t1193) = true then ((laws_sameEpochs.f k t1177 t1178 t1181 t1186 t1187 t1190).bind fun t1278 => (if t1278 = true then (if (bt1204.2.2.2 == bt1213.2.2.2) = true then ((laws_sameEpochs.f k bt1204.1 bt1204.2.1 bt1204.2.2.1 bt1213.1 bt1213.2.1 bt1213.2.2.1).bind fun t1279 => (if t1279 = true then (if (bt1222.2.2.2 == bt1231.2.2.2) = true then ((laws_sameEpochs.f k bt1222.1 bt1222.2.1 bt1222.2.2.1 bt1231.1 bt1231.2.1 bt1231.2.2.1).bind fun t1280 => (if t1280 = true then ((laws_sameInts.f k bt1240.2.2.2 bt1251.2.2.2).bind fun t1281 => (if t1281 = true then ((laws_sameEpochs.f k bt1240.1 bt1240.2.1 bt1240.2.2.1 bt1251.1 bt1251.2.1 bt1251.2.2.1).bind fun t1282 => (if t1282 = true then ((impl_EpochsOk.f k t1150 t1151 t1154).bind fun t1283 => ((spec_EpochsOk.f k t1150 t1151 t1154).bind fun t1284 => (if (t1283 == t1284) = true then ((impl_EpochsNew.f 9).bind fun bt1285 => (some ((bt1285.2.1.length : Int) == 4))) else (none)))) else (none))) else (none))) else (none))) else (none)) else (none))) else (none)) else (none))) else (none)) else (none)))) else (none))) else (none))))))))) = some r := H
  have A9 := Aside0.mk A90
  clear A90
  replace H := Option.bind_eq_some_iff.mp H
  obtain ⟨⟨t1195, t1196, t1199, t1202⟩, A100, H⟩ := H
  replace H : ((impl_RetireNode.f k t1195 t1196 t1199 t1202).bind fun bt1204 => ((spec_RetireNode.f k t1195 t1196 t1199 t1202).bind fun bt1213 => ((impl_AdvanceEpoch.f k t1195 t1196 t1199).bind fun bt1222 => ((spec_AdvanceEpoch.f k t1195 t1196 t1199).bind fun bt1231 => ((impl_FreeNodes.f k t1195 t1196 t1199).bind fun bt1240 => ((spec_FreeNodes.f k t1195 t1196 t1199).bind fun bt1251 => (if (t1166 == t1175) = true then ((laws_sameEpochs.f k t1159 t1160 t1163 t1168 t1169 t1172).bind fun t1262 => (if t1262 = true then (if t1166 = true then (if (t1184 == t1193) = true then ((laws_sameEpochs.f k t1177 t1178 t1181 t1186 t1187 t1190).bind fun t1263 => (if t1263 = true then (if (bt1204.2.2.2 == bt1213.2.2.2) = true then ((laws_sameEpochs.f k bt1204.1 bt1204.2.1 bt1204.2.2.1 bt1213.1 bt1213.2.1 bt1213.2.2.1).bind fun t1264 => (if t1264 = true then (if (bt1222.2.2.2 == bt1231.2.2.2) = true then ((laws_sameEpochs.f k bt1222.1 bt1222.2.1 bt1222.2.2.1 bt1231.1 bt1231.2.1 bt1231.2.2.1).bind fun t1265 => (if t1265 = true then ((laws_sameInts.f k bt1240.2.2.2 bt1251.2.2.2).bind fun t1266 => (if t1266 = true then ((laws_sameEpochs.f k bt1240.1 bt1240.2.1 bt1240.2.2.1 bt1251.1 bt1251.2.1 bt1251.2.2.1).bind fun t1267 => (if t1267 = true then ((impl_EpochsOk.f k t1150 t1151 t1154).bind fun t1268 => ((spec_EpochsOk.f k t1150 t1151 t1154).bind fun t1269 => (if (t1268 == t1269) = true then ((impl_EpochsNew.f 9).bind fun bt1270 => (some ((bt1270.2.1.length : Int) == 4))) else (none)))) else (none))) else (none))) else (none))) else (none)) else (none))) else (none)) else (none))) else (none)) else ((laws_sameEpochs.f k t1159 t1160 t1163 t1150 t1151 t1154).bind fun t1277 => (if t1277 = true then (if (t1184 == t1193) = true then ((laws_sameEpochs.f k t1177 t1178 t1181 t1186 t1187 t1190).bind fun t1278 => (if t1278 = true then (if (bt1204.2.2.2 == bt1213.2.2.2) = true then ((laws_sameEpochs.f k bt1204.1 bt1204.2.1 bt1204.2.2.1 bt1213.1 bt1213.2.1 bt1213.2.2.1).bind fun t1279 => (if t1279 = true then (if (bt1222.2.2.2 == bt1231.2.2.2) = true then ((laws_sameEpochs.f k bt1222.1 bt1222.2.1 bt1222.2.2.1 bt1231.1 bt1231.2.1 bt1231.2.2.1).bind fun t1280 => (if t1280 = true then ((laws_sameInts.f k bt1240.2.2.2 bt1251.2.2.2).bind fun t1281 => (if t1281 = true then ((laws_sameEpochs.f k bt1240.1 bt1240.2.1 bt1240.2.2.1 bt1251.1 bt1251.2.1 bt1251.2.2.1).bind fun t1282 => (if t1282 = true then ((impl_EpochsOk.f k t1150 t1151 t1154).bind fun t1283 => ((spec_EpochsOk.f k t1150 t1151 t1154).bind fun t1284 => (if (t1283 == t1284) = true then ((impl_EpochsNew.f 9).bind fun bt1285 => (some ((bt1285.2.1.length : Int) == 4))) else (none)))) else (none))) else (none))) else (none))) else (none)) else (none))) else (none)) else (none))) else (none)) else (none)))) else (none))) else (none)))))))) = some r := H
  have A10 := Aside0.mk A100
  clear A100
  replace H := Option.bind_eq_some_iff.mp H
  obtain ⟨⟨t1204, t1205, t1208, t1211⟩, A110, H⟩ := H
  replace H : ((spec_RetireNode.f k t1195 t1196 t1199 t1202).bind fun bt1213 => ((impl_AdvanceEpoch.f k t1195 t1196 t1199).bind fun bt1222 => ((spec_AdvanceEpoch.f k t1195 t1196 t1199).bind fun bt1231 => ((impl_FreeNodes.f k t1195 t1196 t1199).bind fun bt1240 => ((spec_FreeNodes.f k t1195 t1196 t1199).bind fun bt1251 => (if (t1166 == t1175) = true then ((laws_sameEpochs.f k t1159 t1160 t1163 t1168 t1169 t1172).bind fun t1262 => (if t1262 = true then (if t1166 = true then (if (t1184 == t1193) = true then ((laws_sameEpochs.f k t1177 t1178 t1181 t1186 t1187 t1190).bind fun t1263 => (if t1263 = true then (if (t1211 == bt1213.2.2.2) = true then ((laws_sameEpochs.f k t1204 t1205 t1208 bt1213.1 bt1213.2.1 bt1213.2.2.1).bind fun t1264 => (if t1264 = true then (if (bt1222.2.2.2 == bt1231.2.2.2) = true then ((laws_sameEpochs.f k bt1222.1 bt1222.2.1 bt1222.2.2.1 bt1231.1 bt1231.2.1 bt1231.2.2.1).bind fun t1265 => (if t1265 = true then ((laws_sameInts.f k bt1240.2.2.2 bt1251.2.2.2).bind fun t1266 => (if t1266 = true then ((laws_sameEpochs.f k bt1240.1 bt1240.2.1 bt1240.2.2.1 bt1251.1 bt1251.2.1 bt1251.2.2.1).bind fun t1267 => (if t1267 = true then ((impl_EpochsOk.f k t1150 t1151 t1154).bind fun t1268 => ((spec_EpochsOk.f k t1150 t1151 t1154).bind fun t1269 => (if (t1268 == t1269) = true then ((impl_EpochsNew.f 9).bind fun bt1270 => (some ((bt1270.2.1.length : Int) == 4))) else (none)))) else (none))) else (none))) else (none))) else (none)) else (none))) else (none)) else (none))) else (none)) else ((laws_sameEpochs.f k t1159 t1160 t1163 t1150 t1151 t1154).bind fun t1277 => (if t1277 = true then (if (t1184 == t1193) = true then ((laws_sameEpochs.f k t1177 t1178 t1181 t1186 t1187 t1190).bind fun t1278 => (if t1278 = true then (if (t1211 == bt1213.2.2.2) = true then ((laws_sameEpochs.f k t1204 t1205 t1208 bt1213.1 bt1213.2.1 bt1213.2.2.1).bind fun t1279 => (if t1279 = true then (if (bt1222.2.2.2 == bt1231.2.2.2) = true then ((laws_sameEpochs.f k bt1222.1 bt1222.2.1 bt1222.2.2.1 bt1231.1 bt1231.2.1 bt1231.2.2.1).bind fun t1280 => (if t1280 = true then ((laws_sameInts.f k bt1240.2.2.2 bt1251.2.2.2).bind fun t1281 => (if t1281 = true then ((laws_sameEpochs.f k bt1240.1 bt1240.2.1 bt1240.2.2.1 bt1251.1 bt1251.2.1 bt1251.2.2.1).bind fun t1282 => (if t1282 = true then ((impl_EpochsOk.f k t1150 t1151 t1154).bind fun t1283 => ((spec_EpochsOk.f k t1150 t1151 t1154).bind fun t1284 => (if (t1283 == t1284) = true then ((impl_EpochsNew.f 9).bind fun bt1285 => (some ((bt1285.2.1.length : Int) == 4))) else (none)))) else (none))) else (none))) else (none))) else (none)) else (none))) else (none)) else (none))) else (none)) else (none)))) else (none))) else (none))))))) = some r := H
  have A11 := Aside0.mk A110
  clear A110
  replace H := Option.bind_eq_some_iff.mp H
  obtain ⟨⟨t1213, t1214, t1217, t1220⟩, A120, H⟩ := H
  replace H : ((impl_AdvanceEpoch.f k t1195 t1196 t1199).bind fun bt1222 => ((spec_AdvanceEpoch.f k t1195 t1196 t1199).bind fun bt1231 => ((impl_FreeNodes.f k t1195 t1196 t1199).bind fun bt1240 => ((spec_FreeNodes.f k t1195 t1196 t1199).bind fun bt1251 => (if (t1166 == t1175) = true then ((laws_sameEpochs.f k t1159 t1160 t1163 t1168 t1169 t1172).bind fun t1262 => (if t1262 = true then (if t1166 = true then (if (t1184 == t1193) = true then ((laws_sameEpochs.f k t1177 t1178 t1181 t1186 t1187 t1190).bind fun t1263 => (if t1263 = true then (if (t1211 == t1220) = true then ((laws_sameEpochs.f k t1204 t1205 t1208 t1213 t1214 t1217).bind fun t1264 => (if t1264 = true then (if (bt1222.2.2.2 == bt1231.2.2.2) = true then ((laws_sameEpochs.f k bt1222.1 bt1222.2.1 bt1222.2.2.1 bt1231.1 bt1231.2.1 bt1231.2.2.1).bind fun t1265 => (if t1265 = true then ((laws_sameInts.f k bt1240.2.2.2 bt1251.2.2.2).bind fun t1266 => (if t1266 = true then ((laws_sameEpochs.f k bt1240.1 bt1240.2.1 bt1240.2.2.1 bt1251.1 bt1251.2.1 bt1251.2.2.1).bind fun t1267 => (if t1267 = true then ((impl_EpochsOk.f k t1150 t1151 t1154).bind fun t1268 => ((spec_EpochsOk.f k t1150 t1151 t1154).bind fun t1269 => (if (t1268 == t1269) = true then ((impl_EpochsNew.f 9).bind fun bt1270 => (some ((bt1270.2.1.length : Int) == 4))) else (none)))) else (none))) else (none))) else (none))) else (none)) else (none))) else (none)) else (none))) else (none)) else ((laws_sameEpochs.f k t1159 t1160 t1163 t1150 t1151 t1154).bind fun t1277 => (if t1277 = true then (if (t1184 == t1193) = true then ((laws_sameEpochs.f k t1177 t1178 t1181 t1186 t1187 t1190).bind fun t1278 => (if t1278 = true then (if (t1211 == t1220) = true then ((laws_sameEpochs.f k t1204 t1205 t1208 t1213 t1214 t1217).bind fun t1279 => (if t1279 = true then (if (bt1222.2.2.2 == bt1231.2.2.2) = true then ((laws_sameEpochs.f k bt1222.1 bt1222.2.1 bt1222.2.2.1 bt1231.1 bt1231.2.1 bt1231.2.2.1).bind fun t1280 => (if t1280 = true then ((laws_sameInts.f k bt1240.2.2.2 bt1251.2.2.2).bind fun t1281 => (if t1281 = true then ((laws_sameEpochs.f k bt1240.1 bt1240.2.1 bt1240.2.2.1 bt1251.1 bt1251.2.1 bt1251.2.2.1).bind fun t1282 => (if t1282 = true then ((impl_EpochsOk.f k t1150 t1151 t1154).bind fun t1283 => ((spec_EpochsOk.f k t1150 t1151 t1154).bind fun t1284 => (if (t1283 == t1284) = true then ((impl_EpochsNew.f 9).bind fun bt1285 => (some ((bt1285.2.1.length : Int) == 4))) else (none)))) else (none))) else (none))) else (none))) else (none)) else (none))) else (none)) else (none))) else (none)) else (none)))) else (none))) else (none)))))) = some r := H
  have A12 := Aside0.mk A120
  clear A120
  replace H := Option.bind_eq_some_iff.mp H
  obtain ⟨⟨t1222, t1223, t1226, t1229⟩, A130, H⟩ := H
  replace H : ((spec_AdvanceEpoch.f k t1195 t1196 t1199).bind fun bt1231 => ((impl_FreeNodes.f k t1195 t1196 t1199).bind fun bt1240 => ((spec_FreeNodes.f k t1195 t1196 t1199).bind fun bt1251 => (if (t1166 == t1175) = true then ((laws_sameEpochs.f k t1159 t1160 t1163 t1168 t1169 t1172).bind fun t1262 => (if t1262 = true then (if t1166 = true then (if (t1184 == t1193) = true then ((laws_sameEpochs.f k t1177 t1178 t1181 t1186 t1187 t1190).bind fun t1263 => (if t1263 = true then (if (t1211 == t1220) = true then ((laws_sameEpochs.f k t1204 t1205 t1208 t1213 t1214 t1217).bind fun t1264 => (if t1264 = true then (if (t1229 == bt1231.2.2.2) = true then ((laws_sameEpochs.f k t1222 t1223 t1226 bt1231.1 bt1231.2.1 bt1231.2.2.1).bind fun t1265 => (if t1265 = true then ((laws_sameInts.f k bt1240.2.2.2 bt1251.2.2.2).bind fun t1266 => (if t1266 = true then ((laws_sameEpochs.f k bt1240.1 bt1240.2.1 bt1240.2.2.1 bt1251.1 bt1251.2.1 bt1251.2.2.1).bind fun t1267 => (if t1267 = true then ((impl_EpochsOk.f k t1150 t1151 t1154).bind fun t1268 => ((spec_EpochsOk.f k t1150 t1151 t1154).bind fun t1269 => (if (t1268 == t1269) = true then ((impl_EpochsNew.f 9).bind fun bt1270 => (some ((bt1270.2.1.length : Int) == 4))) else (none)))) else (none))) else (none))) else (none))) else (none)) else (none))) else (none)) else (none))) else (none)) else ((laws_sameEpochs.f k t1159 t1160 t1163 t1150 t1151 t1154).bind fun t1277 => (if t1277 = true then (if (t1184 == t1193) = true then ((laws_sameEpochs.f k t1177 t1178 t1181 t1186 t1187 t1190).bind fun t1278 => (if t1278 = true then (if (t1211 == t1220) = true then ((laws_sameEpochs.f k t1204 t1205 t1208 t1213 t1214 t1217).bind fun t1279 => (if t1279 = true then (if (t1229 == bt1231.2.2.2) = true then ((laws_sameEpochs.f k t1222 t1223 t1226 bt1231.1 bt1231.2.1 bt1231.2.2.1).bind fun t1280 => (if t1280 = true then ((laws_sameInts.f k bt1240.2.2.2 bt1251.2.2.2).bind fun t1281 => (if t1281 = true then ((laws_sameEpochs.f k bt1240.1 bt1240.2.1 bt1240.2.2.1 bt1251.1 bt1251.2.1 bt1251.2.2.1).bind fun t1282 => (if t1282 = true then ((impl_EpochsOk.f k t1150 t1151 t1154).bind fun t1283 => ((spec_EpochsOk.f k t1150 t1151 t1154).bind fun t1284 => (if (t1283 == t1284) = true then ((impl_EpochsNew.f 9).bind fun bt1285 => (some ((bt1285.2.1.length : Int) == 4))) else (none)))) else (none))) else (none))) else (none))) else (none)) else (none))) else (none)) else (none))) else (none)) else (none)))) else (none))) else (none))))) = some r := H
  have A13 := Aside0.mk A130
  clear A130
  replace H := Option.bind_eq_some_iff.mp H
  obtain ⟨⟨t1231, t1232, t1235, t1238⟩, A140, H⟩ := H
  replace H : ((impl_FreeNodes.f k t1195 t1196 t1199).bind fun bt1240 => ((spec_FreeNodes.f k t1195 t1196 t1199).bind fun bt1251 => (if (t1166 == t1175) = true then ((laws_sameEpochs.f k t1159 t1160 t1163 t1168 t1169 t1172).bind fun t1262 => (if t1262 = true then (if t1166 = true then (if (t1184 == t1193) = true then ((laws_sameEpochs.f k t1177 t1178 t1181 t1186 t1187 t1190).bind fun t1263 => (if t1263 = true then (if (t1211 == t1220) = true then ((laws_sameEpochs.f k t1204 t1205 t1208 t1213 t1214 t1217).bind fun t1264 => (if t1264 = true then (if (t1229 == t1238) = true then ((laws_sameEpochs.f k t1222 t1223 t1226 t1231 t1232 t1235).bind fun t1265 => (if t1265 = true then ((laws_sameInts.f k bt1240.2.2.2 bt1251.2.2.2).bind fun t1266 => (if t1266 = true then ((laws_sameEpochs.f k bt1240.1 bt1240.2.1 bt1240.2.2.1 bt1251.1 bt1251.2.1 bt1251.2.2.1).bind fun t1267 => (if t1267 = true then ((impl_EpochsOk.f k t1150 t1151 t1154).bind fun t1268 => ((spec_EpochsOk.f k t1150 t1151 t1154).bind fun t1269 => (if (t1268 == t1269) = true then ((impl_EpochsNew.f 9).bind fun bt1270 => (some ((bt1270.2.1.length : Int) == 4))) else (none)))) else (none))) else (none))) else (none))) else (none)) else (none))) else (none)) else (none))) else (none)) else ((laws_sameEpochs.f k t1159 t1160 t1163 t1150 t1151 t1154).bind fun t1277 => (if t1277 = true then (if (t1184 == t1193) = true then ((laws_sameEpochs.f k t1177 t1178 t1181 t1186 t1187 t1190).bind fun t1278 => (if t1278 = true then (if (t1211 == t1220) = true then ((laws_sameEpochs.f k t1204 t1205 t1208 t1213 t1214 t1217).bind fun t1279 => (if t1279 = true then (if (t1229 == t1238) = true then ((laws_sameEpochs.f k t1222 t1223 t1226 t1231 t1232 t1235).bind fun t1280 => (if t1280 = true then ((laws_sameInts.f k bt1240.2.2.2 bt1251.2.2.2).bind fun t1281 => (if t1281 = true then ((laws_sameEpochs.f k bt1240.1 bt1240.2.1 bt1240.2.2.1 bt1251.1 bt1251.2.1 bt1251.2.2.1).bind fun t1282 => (if t1282 = true then ((impl_EpochsOk.f k t1150 t1151 t1154).bind fun t1283 => ((spec_EpochsOk.f k t1150 t1151 t1154).bind fun t1284 => (if (t1283 == t1284) = true then ((impl_EpochsNew.f 9).bind fun bt1285 => (some ((bt1285.2.1.length : Int) == 4))) else (none)))) else (none))) else (none))) else (none))) else (none)) else (none))) else (none)) else (none))) else (none)) else (none)))) else (none))) else (none)))) = some r := H
  have A14 := Aside0.mk A140
  clear A140
  replace H := Option.bind_eq_some_iff.mp H
  obtain ⟨⟨t1240, t1241, t1244, t1247⟩, A150, H⟩ := H
  replace H : ((spec_FreeNodes.f k t1195 t1196 t1199).bind fun bt1251 => (if (t1166 == t1175) = true then ((laws_sameEpochs.f k t1159 t1160 t1163 t1168 t1169 t1172).bind fun t1262 => (if t1262 = true then (if t1166 = true then (if (t1184 == t1193) = true then ((laws_sameEpochs.f k t1177 t1178 t1181 t1186 t1187 t1190).bind fun t1263 => (if t1263 = true then (if (t1211 == t1220) = true then ((laws_sameEpochs.f k t1204 t1205 t1208 t1213 t1214 t1217).bind fun t1264 => (if t1264 = true then (if (t1229 == t1238) = true then ((laws_sameEpochs.f k t1222 t1223 t1226 t1231 t1232 t1235).bind fun t1265 => (if t1265 = true then ((laws_sameInts.f k t1247 bt1251.2.2.2).bind fun t1266 => (if t1266 = true then ((laws_sameEpochs.f k t1240 t1241 t1244 bt1251.1 bt1251.2.1 bt1251.2.2.1).bind fun t1267 => (if t1267 = true then ((impl_EpochsOk.f k t1150 t1151 t1154).bind fun t1268 => ((spec_EpochsOk.f k t1150 t1151 t1154).bind fun t1269 => (if (t1268 == t1269) = true then ((impl_EpochsNew.f 9).bind fun bt1270 => (some ((bt1270.2.1.length : Int) == 4))) else (none)))) else (none))) else (none))) else (none))) else (none)) else (none))) else (none)) else (none))) else (none)) else ((laws_sameEpochs.f k t1159 t1160 t1163 t1150 t1151 t1154).bind fun t1277 => (if t1277 = true then (if (t1184 == t1193) = true then ((laws_sameEpochs.f k t1177 t1178 t1181 t1186 t1187 t1190).bind fun t1278 => (if t1278 = true then (if (t1211 == t1220) = true then ((laws_sameEpochs.f k t1204 t1205 t1208 t1213 t1214 t1217).bind fun t1279 => (if t1279 = true then (if (t1229 == t1238) = true then ((laws_sameEpochs.f k t1222 t1223 t1226 t1231 t1232 t1235).bind fun t1280 => (if t1280 = true then ((laws_sameInts.f k t1247 bt1251.2.2.2).bind fun t1281 => (if t1281 = true then ((laws_sameEpochs.f k t1240 t1241 t1244 bt1251.1 bt1251.2.1 bt1251.2.2.1).bind fun t1282 => (if t1282 = true then ((impl_EpochsOk.f k t1150 t1151 t1154).bind fun t1283 => ((spec_EpochsOk.f k t1150 t1151 t1154).bind fun t1284 => (if (t1283 == t1284) = true then ((impl_EpochsNew.f 9).bind fun bt1285 => (some ((bt1285.2.1.length : Int) == 4))) else (none)))) else (none))) else (none))) else (none))) else (none)) else (none))) else (none)) else (none))) else (none)) else (none)))) else (none))) else (none))) = some r := H
  have A15 := Aside0.mk A150
  clear A150
  replace H := Option.bind_eq_some_iff.mp H
  obtain ⟨⟨t1251, t1252, t1255, t1258⟩, A160, H⟩ := H
  replace H : (if (t1166 == t1175) = true then ((laws_sameEpochs.f k t1159 t1160 t1163 t1168 t1169 t1172).bind fun t1262 => (if t1262 = true then (if t1166 = true then (if (t1184 == t1193) = true then ((laws_sameEpochs.f k t1177 t1178 t1181 t1186 t1187 t1190).bind fun t1263 => (if t1263 = true then (if (t1211 == t1220) = true then ((laws_sameEpochs.f k t1204 t1205 t1208 t1213 t1214 t1217).bind fun t1264 => (if t1264 = true then (if (t1229 == t1238) = true then ((laws_sameEpochs.f k t1222 t1223 t1226 t1231 t1232 t1235).bind fun t1265 => (if t1265 = true then ((laws_sameInts.f k t1247 t1258).bind fun t1266 => (if t1266 = true then ((laws_sameEpochs.f k t1240 t1241 t1244 t1251 t1252 t1255).bind fun t1267 => (if t1267 = true then ((impl_EpochsOk.f k t1150 t1151 t1154).bind fun t1268 => ((spec_EpochsOk.f k t1150 t1151 t1154).bind fun t1269 => (if (t1268 == t1269) = true then ((impl_EpochsNew.f 9).bind fun bt1270 => (some ((bt1270.2.1.length : Int) == 4))) else (none)))) else (none))) else (none))) else (none))) else (none)) else (none))) else (none)) else (none))) else (none)) else ((laws_sameEpochs.f k t1159 t1160 t1163 t1150 t1151 t1154).bind fun t1277 => (if t1277 = true then (if (t1184 == t1193) = true then ((laws_sameEpochs.f k t1177 t1178 t1181 t1186 t1187 t1190).bind fun t1278 => (if t1278 = true then (if (t1211 == t1220) = true then ((laws_sameEpochs.f k t1204 t1205 t1208 t1213 t1214 t1217).bind fun t1279 => (if t1279 = true then (if (t1229 == t1238) = true then ((laws_sameEpochs.f k t1222 t1223 t1226 t1231 t1232 t1235).bind fun t1280 => (if t1280 = true then ((laws_sameInts.f k t1247 t1258).bind fun t1281 => (if t1281 = true then ((laws_sameEpochs.f k t1240 t1241 t1244 t1251 t1252 t1255).bind fun t1282 => (if t1282 = true then ((impl_EpochsOk.f k t1150 t1151 t1154).bind fun t1283 => ((spec_EpochsOk.f k t1150 t1151 t1154).bind fun t1284 => (if (t1283 == t1284) = true then ((impl_EpochsNew.f 9).bind fun bt1285 => (some ((bt1285.2.1.length : Int) == 4))) else (none)))) else (none))) else (none))) else (none))) else (none)) else (none))) else (none)) else (none))) else (none)) else (none)))) else (none))) else (none)) = some r := H
  have A16 := Aside0.mk A160
  clear A160
  have HS17 := Aside0.mk H
  clear H
  go_upto_region 15 with (first
    | ((with_reducible refine gate_callee (f := 39) rfl ?_); refine goesL_ (some 31) rfl rfl Try.func39 (by kernel_rfl) rfl #[.slice A0 l0.length c0] rfl (by (try simp only [List.map_toArray, List.map_cons, List.map_nil]); first | done | rfl | (simp only [List.length_drop, List.length_take]; rfl)) ?_; (with_reducible refine (spec_DrawPinLook.calls k _ _ l0 t1150 t1151 t1154 t1157 _ ?side1 ?side2 A5.out).mono ?_); (case side1 => exact Kd.C_below HR0.out (below_step HB.out (by repeat (first | (with_reducible first | exact Below.refl _ _ | apply pw_below_drewN | apply below_drew1) | exact Below.refl _ _)))); (case side2 => exact HC0.out); rintro e w18 ⟨v1152, v1155, rfl, ho0, ho1, hb⟩; refine ⟨_, rfl, ?_⟩; have hu : Below w.heap.size w w18 := below_step (by repeat (first | (with_reducible first | exact Below.refl _ _ | apply pw_below_drewN | apply below_drew1) | exact Below.refl _ _)) hb; replace HB := Aside0.mk (below_step HB.out hu); clear hu; have H0_ := Aside0.mk ho0; have H1_ := Aside0.mk ho1; (try clear hb); clear ho0; clear ho1)
    | ((with_reducible refine gate_dst (N := 3) rfl ?_); (try (refine gate_guard (by rfl) ?_; dsimp only)); refine box_event ?hg (N := 3) ?hd (cs := #[.int .i64 0, .slice none 0 0, .slice none 0 0]) (t := 25) ?hr ?_; (case hd => rfl); (case hg => rfl); (case hr => first | (go_simp; done) | (go_simp; rfl)); intro gb1158 hg w19 hbox hb; have X : Aside0 (Below w18.heap.size w18 w19) := Aside0.mk (below_step (by repeat (first | (with_reducible first | exact Below.refl _ _ | apply pw_below_drewN | apply below_drew1) | exact Below.refl _ _)) hb); have BK := Aside0.mk hbox; have G : Aside0 (w18.heap.size ≤ gb1158) := Aside0.mk (by rw [hg]; first | done | exact below_size (by repeat (first | (with_reducible first | exact Below.refl _ _ | apply pw_below_drewN | apply below_drew1) | exact Below.refl _ _))); clear hb hbox hg; obtain ⟨Ao21, co21, eo21, _⟩ := Kd.Q_slice H0_.out; subst eo21; have RA := Aside0.mk (Kd.Q_reads' H0_.out).2.2; have KA := Aside0.mk (Kd.Q_reads' H0_.out).2.1; obtain ⟨Ao22, co22, eo22⟩ := Kd.R_slice H1_.out; subst eo22; have RB := Aside0.mk (Kd.R_reads' H1_.out).2.2; have KB := Aside0.mk (Kd.R_reads' H1_.out).2.1; clear H0_; clear H1_; have hcz20_0 : w19.cell? ⟨gb1158, 0, none⟩ = some (.int .i64 0) := (blk_cell BK.out 0).trans rfl; have hcz20_1 : w19.cell? ⟨gb1158, 1, none⟩ = some (.slice none 0 0) := (blk_cell BK.out 1).trans rfl; have hcz20_2 : w19.cell? ⟨gb1158, 2, none⟩ = some (.slice none 0 0) := (blk_cell BK.out 2).trans rfl; have hfz20_0 := blk_frozen BK.out 0; have hfz20_1 := blk_frozen BK.out 1; have hfz20_2 := blk_frozen BK.out 2)
    | ((with_reducible refine gate_callee (f := 23) rfl ?_); refine goesL_ (some 37) rfl rfl Try.func23 (by kernel_rfl) rfl #[.agg #[.int .i64 t1150, .slice Ao21 t1151.length co21, .slice Ao22 t1154.length co22], .int .i64 t1157] rfl (by (try simp only [List.map_toArray, List.map_cons, List.map_nil]); first | done | rfl | (simp only [List.length_drop, List.length_take]; rfl)) ?_; (with_reducible refine (impl_PinLook.calls k t1150 _ _ t1151 _ _ t1154 t1157 t1159 t1160 t1163 t1166 _ ?side1 ?side2 ?side3 ?side4 A6.out).mono ?_); (case side1 => exact Kd.C_below RA.out (by repeat (first | (with_reducible first | exact X.out | apply pw_below_drewN | apply below_drew1 | refine below_set ?_ G.out) | exact X.out))); (case side2 => exact KA.out); (case side3 => exact Kd.C_below RB.out (by repeat (first | (with_reducible first | exact X.out | apply pw_below_drewN | apply below_drew1 | refine below_set ?_ G.out) | exact X.out))); (case side4 => exact KB.out); rintro e w23 ⟨v1161, v1164, rfl, ho0, ho1, hb⟩; refine ⟨_, rfl, ?_⟩; have hu : Below w18.heap.size w18 w23 := below_step (by repeat (first | (with_reducible first | exact X.out | apply pw_below_drewN | apply below_drew1 | refine below_set ?_ G.out) | exact X.out)) hb; have E1158 : Aside0 (Ep w23 gb1158 t1150 Ao21 co21 t1151 Ao22 co22 t1154) := Aside0.mk (Ep.up (by (with_reducible repeat (first | refine Ep.drewN ?_ _ | refine Ep.drew ?_)); exact Ep.put3 BK.out G.out X.out RA.out KA.out RB.out KB.out) hb); clear BK G X RA KA RB KB; replace HB := Aside0.mk (below_step HB.out hu); clear hu; have H0_ := Aside0.mk ho0; have H1_ := Aside0.mk ho1; (try clear hb); clear ho0; clear ho1)
    | ((with_reducible refine gate_dst (N := 5) rfl ?_); (try (refine gate_guard (by rfl) ?_; dsimp only)); refine box_event ?hg (N := 5) ?hd (cs := #[.int .i64 0, .slice none 0 0, .slice none 0 0]) (t := 25) ?hr ?_; (case hd => rfl); (case hg => rfl); (case hr => first | (go_simp; done) | (go_simp; rfl)); intro gb1167 hg w24 hbox hb; have X : Aside0 (Below w23.heap.size w23 w24) := Aside0.mk (below_step (by repeat (first | (with_reducible first | exact Below.refl _ _ | apply pw_below_drewN | apply below_drew1) | exact Below.refl _ _)) hb); have BK := Aside0.mk hbox; have G : Aside0 (w23.heap.size ≤ gb1167) := Aside0.mk (by rw [hg]; first | done | exact below_size (by repeat (first | (with_reducible first | exact Below.refl _ _ | apply pw_below_drewN | apply below_drew1) | exact Below.refl _ _))); clear hb hbox hg; obtain ⟨Ao27, co27, eo27⟩ := Kd.R_slice H0_.out; subst eo27; have RA := Aside0.mk (Kd.R_reads' H0_.out).2.2; have KA := Aside0.mk (Kd.R_reads' H0_.out).2.1; obtain ⟨Ao28, co28, eo28⟩ := Kd.R_slice H1_.out; subst eo28; have RB := Aside0.mk (Kd.R_reads' H1_.out).2.2; have KB := Aside0.mk (Kd.R_reads' H1_.out).2.1; clear H0_; clear H1_; have hcz26_0 : w24.cell? ⟨gb1167, 0, none⟩ = some (.int .i64 0) := (blk_cell BK.out 0).trans rfl; have hcz26_1 : w24.cell? ⟨gb1167, 1, none⟩ = some (.slice none 0 0) := (blk_cell BK.out 1).trans rfl; have hcz26_2 : w24.cell? ⟨gb1167, 2, none⟩ = some (.slice none 0 0) := (blk_cell BK.out 2).trans rfl; have hfz26_0 := blk_frozen BK.out 0; have hfz26_1 := blk_frozen BK.out 1; have hfz26_2 := blk_frozen BK.out 2; have E_ := Ep.up E1158.out X.out; have hcz29_0 : w24.cell? ⟨gb1158, 0, none⟩ = some (.int .i64 t1150) := (blk_cell E_.b 0).trans rfl; have hcz29_1 : w24.cell? ⟨gb1158, 1, none⟩ = some (.slice Ao21 t1151.length co21) := (blk_cell E_.b 1).trans rfl; have hcz29_2 : w24.cell? ⟨gb1158, 2, none⟩ = some (.slice Ao22 t1154.length co22) := (blk_cell E_.b 2).trans rfl; have hfz29_0 := blk_frozen E_.b 0; have hfz29_1 := blk_frozen E_.b 1; have hfz29_2 := blk_frozen E_.b 2; have hnb25 : gb1167 ≠ gb1158 := Nat.ne_of_gt (Nat.lt_of_lt_of_le (blk_lt E1158.out.b) G.out); have hnc25 : gb1158 ≠ gb1167 := Nat.ne_of_lt (Nat.lt_of_lt_of_le (blk_lt E1158.out.b) G.out); clear E_)
    | ((with_reducible refine gate_callee (f := 22) rfl ?_); refine goesL_ (some 43) rfl rfl Try.func22 (by kernel_rfl) rfl #[.agg #[.int .i64 t1150, .slice Ao21 t1151.length co21, .slice Ao22 t1154.length co22], .int .i64 t1157] rfl (by (try simp only [List.map_toArray, List.map_cons, List.map_nil]); first | done | rfl | (simp only [List.length_drop, List.length_take]; rfl)) ?_; (with_reducible refine (spec_PinLook.calls k t1150 _ _ t1151 _ _ t1154 t1157 t1168 t1169 t1172 t1175 _ ?side1 ?side2 ?side3 ?side4 A7.out).mono ?_); (case side1 => exact Kd.C_below E1158.out.r1 (by repeat (first | (with_reducible first | exact X.out | apply pw_below_drewN | apply below_drew1 | refine below_set ?_ G.out) | exact X.out))); (case side2 => exact E1158.out.k1); (case side3 => exact Kd.C_below E1158.out.r2 (by repeat (first | (with_reducible first | exact X.out | apply pw_below_drewN | apply below_drew1 | refine below_set ?_ G.out) | exact X.out))); (case side4 => exact E1158.out.k2); rintro e w30 ⟨v1170, v1173, rfl, ho0, ho1, hb⟩; refine ⟨_, rfl, ?_⟩; have hu : Below w23.heap.size w23 w30 := below_step (by repeat (first | (with_reducible first | exact X.out | apply pw_below_drewN | apply below_drew1 | refine below_set ?_ G.out) | exact X.out)) hb; replace E1158 := Aside0.mk (Ep.up E1158.out hu); have E1167 : Aside0 (Ep w30 gb1167 t1159 Ao27 co27 t1160 Ao28 co28 t1163) := Aside0.mk (Ep.up (by (with_reducible repeat (first | refine Ep.drewN ?_ _ | refine Ep.drew ?_)); exact Ep.put3 BK.out G.out X.out RA.out KA.out RB.out KB.out) hb); clear BK G X RA KA RB KB; replace HB := Aside0.mk (below_step HB.out hu); clear hu; have H0_ := Aside0.mk ho0; have H1_ := Aside0.mk ho1; (try clear hb); clear ho0; clear ho1)
    | ((with_reducible refine gate_dst (N := 7) rfl ?_); (try (refine gate_guard (by rfl) ?_; dsimp only)); refine box_event ?hg (N := 7) ?hd (cs := #[.int .i64 0, .slice none 0 0, .slice none 0 0]) (t := 25) ?hr ?_; (case hd => rfl); (case hg => rfl); (case hr => first | (go_simp; done) | (go_simp; rfl)); intro gb1176 hg w31 hbox hb; have X : Aside0 (Below w30.heap.size w30 w31) := Aside0.mk (below_step (by repeat (first | (with_reducible first | exact Below.refl _ _ | apply pw_below_drewN | apply below_drew1) | exact Below.refl _ _)) hb); have BK := Aside0.mk hbox; have G : Aside0 (w30.heap.size ≤ gb1176) := Aside0.mk (by rw [hg]; first | done | exact below_size (by repeat (first | (with_reducible first | exact Below.refl _ _ | apply pw_below_drewN | apply below_drew1) | exact Below.refl _ _))); clear hb hbox hg; obtain ⟨Ao35, co35, eo35⟩ := Kd.R_slice H0_.out; subst eo35; have RA := Aside0.mk (Kd.R_reads' H0_.out).2.2; have KA := Aside0.mk (Kd.R_reads' H0_.out).2.1; obtain ⟨Ao36, co36, eo36⟩ := Kd.R_slice H1_.out; subst eo36; have RB := Aside0.mk (Kd.R_reads' H1_.out).2.2; have KB := Aside0.mk (Kd.R_reads' H1_.out).2.1; clear H0_; clear H1_; have hcz34_0 : w31.cell? ⟨gb1176, 0, none⟩ = some (.int .i64 0) := (blk_cell BK.out 0).trans rfl; have hcz34_1 : w31.cell? ⟨gb1176, 1, none⟩ = some (.slice none 0 0) := (blk_cell BK.out 1).trans rfl; have hcz34_2 : w31.cell? ⟨gb1176, 2, none⟩ = some (.slice none 0 0) := (blk_cell BK.out 2).trans rfl; have hfz34_0 := blk_frozen BK.out 0; have hfz34_1 := blk_frozen BK.out 1; have hfz34_2 := blk_frozen BK.out 2; have E_ := Ep.up E1158.out X.out; have hcz37_0 : w31.cell? ⟨gb1158, 0, none⟩ = some (.int .i64 t1150) := (blk_cell E_.b 0).trans rfl; have hcz37_1 : w31.cell? ⟨gb1158, 1, none⟩ = some (.slice Ao21 t1151.length co21) := (blk_cell E_.b 1).trans rfl; have hcz37_2 : w31.cell? ⟨gb1158, 2, none⟩ = some (.slice Ao22 t1154.length co22) := (blk_cell E_.b 2).trans rfl; have hfz37_0 := blk_frozen E_.b 0; have hfz37_1 := blk_frozen E_.b 1; have hfz37_2 := blk_frozen E_.b 2; have hnb32 : gb1176 ≠ gb1158 := Nat.ne_of_gt (Nat.lt_of_lt_of_le (blk_lt E1158.out.b) G.out); have hnc32 : gb1158 ≠ gb1176 := Nat.ne_of_lt (Nat.lt_of_lt_of_le (blk_lt E1158.out.b) G.out); clear E_)
    | ((with_reducible refine gate_callee (f := 25) rfl ?_); refine goesL_ (some 49) rfl rfl Try.func25 (by kernel_rfl) rfl #[.agg #[.int .i64 t1150, .slice Ao21 t1151.length co21, .slice Ao22 t1154.length co22], .int .i64 t1157] rfl (by (try simp only [List.map_toArray, List.map_cons, List.map_nil]); first | done | rfl | (simp only [List.length_drop, List.length_take]; rfl)) ?_; (with_reducible refine (impl_UnpinLook.calls k t1150 _ _ t1151 _ _ t1154 t1157 t1177 t1178 t1181 t1184 _ ?side1 ?side2 ?side3 ?side4 A8.out).mono ?_); (case side1 => exact Kd.C_below E1158.out.r1 (by repeat (first | (with_reducible first | exact X.out | apply pw_below_drewN | apply below_drew1 | refine below_set ?_ G.out) | exact X.out))); (case side2 => exact E1158.out.k1); (case side3 => exact Kd.C_below E1158.out.r2 (by repeat (first | (with_reducible first | exact X.out | apply pw_below_drewN | apply below_drew1 | refine below_set ?_ G.out) | exact X.out))); (case side4 => exact E1158.out.k2); rintro e w38 ⟨v1179, v1182, rfl, ho0, ho1, hb⟩; refine ⟨_, rfl, ?_⟩; have hu : Below w30.heap.size w30 w38 := below_step (by repeat (first | (with_reducible first | exact X.out | apply pw_below_drewN | apply below_drew1 | refine below_set ?_ G.out) | exact X.out)) hb; replace E1158 := Aside0.mk (Ep.up E1158.out hu); replace E1167 := Aside0.mk (Ep.up E1167.out hu); have E1176 : Aside0 (Ep w38 gb1176 t1168 Ao35 co35 t1169 Ao36 co36 t1172) := Aside0.mk (Ep.up (by (with_reducible repeat (first | refine Ep.drewN ?_ _ | refine Ep.drew ?_)); exact Ep.put3 BK.out G.out X.out RA.out KA.out RB.out KB.out) hb); clear BK G X RA KA RB KB; replace HB := Aside0.mk (below_step HB.out hu); clear hu; have H0_ := Aside0.mk ho0; have H1_ := Aside0.mk ho1; (try clear hb); clear ho0; clear ho1)
    | ((with_reducible refine gate_dst (N := 9) rfl ?_); (try (refine gate_guard (by rfl) ?_; dsimp only)); refine box_event ?hg (N := 9) ?hd (cs := #[.int .i64 0, .slice none 0 0, .slice none 0 0]) (t := 25) ?hr ?_; (case hd => rfl); (case hg => rfl); (case hr => first | (go_simp; done) | (go_simp; rfl)); intro gb1185 hg w39 hbox hb; have X : Aside0 (Below w38.heap.size w38 w39) := Aside0.mk (below_step (by repeat (first | (with_reducible first | exact Below.refl _ _ | apply pw_below_drewN | apply below_drew1) | exact Below.refl _ _)) hb); have BK := Aside0.mk hbox; have G : Aside0 (w38.heap.size ≤ gb1185) := Aside0.mk (by rw [hg]; first | done | exact below_size (by repeat (first | (with_reducible first | exact Below.refl _ _ | apply pw_below_drewN | apply below_drew1) | exact Below.refl _ _))); clear hb hbox hg; obtain ⟨Ao44, co44, eo44⟩ := Kd.R_slice H0_.out; subst eo44; have RA := Aside0.mk (Kd.R_reads' H0_.out).2.2; have KA := Aside0.mk (Kd.R_reads' H0_.out).2.1; obtain ⟨Ao45, co45, eo45⟩ := Kd.R_slice H1_.out; subst eo45; have RB := Aside0.mk (Kd.R_reads' H1_.out).2.2; have KB := Aside0.mk (Kd.R_reads' H1_.out).2.1; clear H0_; clear H1_; have hcz43_0 : w39.cell? ⟨gb1185, 0, none⟩ = some (.int .i64 0) := (blk_cell BK.out 0).trans rfl; have hcz43_1 : w39.cell? ⟨gb1185, 1, none⟩ = some (.slice none 0 0) := (blk_cell BK.out 1).trans rfl; have hcz43_2 : w39.cell? ⟨gb1185, 2, none⟩ = some (.slice none 0 0) := (blk_cell BK.out 2).trans rfl; have hfz43_0 := blk_frozen BK.out 0; have hfz43_1 := blk_frozen BK.out 1; have hfz43_2 := blk_frozen BK.out 2; have E_ := Ep.up E1158.out X.out; have hcz46_0 : w39.cell? ⟨gb1158, 0, none⟩ = some (.int .i64 t1150) := (blk_cell E_.b 0).trans rfl; have hcz46_1 : w39.cell? ⟨gb1158, 1, none⟩ = some (.slice Ao21 t1151.length co21) := (blk_cell E_.b 1).trans rfl; have hcz46_2 : w39.cell? ⟨gb1158, 2, none⟩ = some (.slice Ao22 t1154.length co22) := (blk_cell E_.b 2).trans rfl; have hfz46_0 := blk_frozen E_.b 0; have hfz46_1 := blk_frozen E_.b 1; have hfz46_2 := blk_frozen E_.b 2; have hnb40 : gb1185 ≠ gb1158 := Nat.ne_of_gt (Nat.lt_of_lt_of_le (blk_lt E1158.out.b) G.out); have hnc40 : gb1158 ≠ gb1185 := Nat.ne_of_lt (Nat.lt_of_lt_of_le (blk_lt E1158.out.b) G.out); clear E_)
    | ((with_reducible refine gate_callee (f := 24) rfl ?_); refine goesL_ (some 55) rfl rfl Try.func24 (by kernel_rfl) rfl #[.agg #[.int .i64 t1150, .slice Ao21 t1151.length co21, .slice Ao22 t1154.length co22], .int .i64 t1157] rfl (by (try simp only [List.map_toArray, List.map_cons, List.map_nil]); first | done | rfl | (simp only [List.length_drop, List.length_take]; rfl)) ?_; (with_reducible refine (spec_UnpinLook.calls k t1150 _ _ t1151 _ _ t1154 t1157 t1186 t1187 t1190 t1193 _ ?side1 ?side2 ?side3 ?side4 A9.out).mono ?_); (case side1 => exact Kd.C_below E1158.out.r1 (by repeat (first | (with_reducible first | exact X.out | apply pw_below_drewN | apply below_drew1 | refine below_set ?_ G.out) | exact X.out))); (case side2 => exact E1158.out.k1); (case side3 => exact Kd.C_below E1158.out.r2 (by repeat (first | (with_reducible first | exact X.out | apply pw_below_drewN | apply below_drew1 | refine below_set ?_ G.out) | exact X.out))); (case side4 => exact E1158.out.k2); rintro e w47 ⟨v1188, v1191, rfl, ho0, ho1, hb⟩; refine ⟨_, rfl, ?_⟩; have hu : Below w38.heap.size w38 w47 := below_step (by repeat (first | (with_reducible first | exact X.out | apply pw_below_drewN | apply below_drew1 | refine below_set ?_ G.out) | exact X.out)) hb; replace E1158 := Aside0.mk (Ep.up E1158.out hu); replace E1167 := Aside0.mk (Ep.up E1167.out hu); replace E1176 := Aside0.mk (Ep.up E1176.out hu); have E1185 : Aside0 (Ep w47 gb1185 t1177 Ao44 co44 t1178 Ao45 co45 t1181) := Aside0.mk (Ep.up (by (with_reducible repeat (first | refine Ep.drewN ?_ _ | refine Ep.drew ?_)); exact Ep.put3 BK.out G.out X.out RA.out KA.out RB.out KB.out) hb); clear BK G X RA KA RB KB; replace HB := Aside0.mk (below_step HB.out hu); clear hu; have H0_ := Aside0.mk ho0; have H1_ := Aside0.mk ho1; (try clear hb); clear ho0; clear ho1)
    | ((with_reducible refine gate_dst (N := 11) rfl ?_); (try (refine gate_guard (by rfl) ?_; dsimp only)); refine box_event ?hg (N := 11) ?hd (cs := #[.int .i64 0, .slice none 0 0, .slice none 0 0]) (t := 25) ?hr ?_; (case hd => rfl); (case hg => rfl); (case hr => first | (go_simp; done) | (go_simp; rfl)); intro gb1194 hg w48 hbox hb; have X : Aside0 (Below w47.heap.size w47 w48) := Aside0.mk (below_step (by repeat (first | (with_reducible first | exact Below.refl _ _ | apply pw_below_drewN | apply below_drew1) | exact Below.refl _ _)) hb); have BK := Aside0.mk hbox; have G : Aside0 (w47.heap.size ≤ gb1194) := Aside0.mk (by rw [hg]; first | done | exact below_size (by repeat (first | (with_reducible first | exact Below.refl _ _ | apply pw_below_drewN | apply below_drew1) | exact Below.refl _ _))); clear hb hbox hg; obtain ⟨Ao54, co54, eo54⟩ := Kd.R_slice H0_.out; subst eo54; have RA := Aside0.mk (Kd.R_reads' H0_.out).2.2; have KA := Aside0.mk (Kd.R_reads' H0_.out).2.1; obtain ⟨Ao55, co55, eo55⟩ := Kd.R_slice H1_.out; subst eo55; have RB := Aside0.mk (Kd.R_reads' H1_.out).2.2; have KB := Aside0.mk (Kd.R_reads' H1_.out).2.1; clear H0_; clear H1_; have hcz53_0 : w48.cell? ⟨gb1194, 0, none⟩ = some (.int .i64 0) := (blk_cell BK.out 0).trans rfl; have hcz53_1 : w48.cell? ⟨gb1194, 1, none⟩ = some (.slice none 0 0) := (blk_cell BK.out 1).trans rfl; have hcz53_2 : w48.cell? ⟨gb1194, 2, none⟩ = some (.slice none 0 0) := (blk_cell BK.out 2).trans rfl; have hfz53_0 := blk_frozen BK.out 0; have hfz53_1 := blk_frozen BK.out 1; have hfz53_2 := blk_frozen BK.out 2)
    | ((with_reducible refine gate_callee (f := 40) rfl ?_); refine goesL_ (some 60) rfl rfl Try.func40 (by kernel_rfl) rfl #[.slice A0 l0.length c0] rfl (by (try simp only [List.map_toArray, List.map_cons, List.map_nil]); first | done | rfl | (simp only [List.length_drop, List.length_take]; rfl)) ?_; (with_reducible refine (spec_DrawRetireNode.calls k _ _ l0 t1195 t1196 t1199 t1202 _ ?side1 ?side2 A10.out).mono ?_); (case side1 => exact Kd.C_below HR0.out (below_step HB.out (by repeat (first | (with_reducible first | exact X.out | apply pw_below_drewN | apply below_drew1 | refine below_set ?_ G.out) | exact X.out)))); (case side2 => exact HC0.out); rintro e w56 ⟨v1197, v1200, rfl, ho0, ho1, hb⟩; refine ⟨_, rfl, ?_⟩; have hu : Below w47.heap.size w47 w56 := below_step (by repeat (first | (with_reducible first | exact X.out | apply pw_below_drewN | apply below_drew1 | refine below_set ?_ G.out) | exact X.out)) hb; replace E1158 := Aside0.mk (Ep.up E1158.out hu); replace E1167 := Aside0.mk (Ep.up E1167.out hu); replace E1176 := Aside0.mk (Ep.up E1176.out hu); replace E1185 := Aside0.mk (Ep.up E1185.out hu); have E1194 : Aside0 (Ep w56 gb1194 t1186 Ao54 co54 t1187 Ao55 co55 t1190) := Aside0.mk (Ep.up (by (with_reducible repeat (first | refine Ep.drewN ?_ _ | refine Ep.drew ?_)); exact Ep.put3 BK.out G.out X.out RA.out KA.out RB.out KB.out) hb); clear BK G X RA KA RB KB; replace HB := Aside0.mk (below_step HB.out hu); clear hu; have H0_ := Aside0.mk ho0; have H1_ := Aside0.mk ho1; (try clear hb); clear ho0; clear ho1)
    | ((with_reducible refine gate_dst (N := 13) rfl ?_); (try (refine gate_guard (by rfl) ?_; dsimp only)); refine box_event ?hg (N := 13) ?hd (cs := #[.int .i64 0, .slice none 0 0, .slice none 0 0]) (t := 25) ?hr ?_; (case hd => rfl); (case hg => rfl); (case hr => first | (go_simp; done) | (go_simp; rfl)); intro gb1203 hg w57 hbox hb; have X : Aside0 (Below w56.heap.size w56 w57) := Aside0.mk (below_step (by repeat (first | (with_reducible first | exact Below.refl _ _ | apply pw_below_drewN | apply below_drew1) | exact Below.refl _ _)) hb); have BK := Aside0.mk hbox; have G : Aside0 (w56.heap.size ≤ gb1203) := Aside0.mk (by rw [hg]; first | done | exact below_size (by repeat (first | (with_reducible first | exact Below.refl _ _ | apply pw_below_drewN | apply below_drew1) | exact Below.refl _ _))); clear hb hbox hg; obtain ⟨Ao64, co64, eo64, _⟩ := Kd.Q_slice H0_.out; subst eo64; have RA := Aside0.mk (Kd.Q_reads' H0_.out).2.2; have KA := Aside0.mk (Kd.Q_reads' H0_.out).2.1; obtain ⟨Ao65, co65, eo65⟩ := Kd.R_slice H1_.out; subst eo65; have RB := Aside0.mk (Kd.R_reads' H1_.out).2.2; have KB := Aside0.mk (Kd.R_reads' H1_.out).2.1; clear H0_; clear H1_; have hcz63_0 : w57.cell? ⟨gb1203, 0, none⟩ = some (.int .i64 0) := (blk_cell BK.out 0).trans rfl; have hcz63_1 : w57.cell? ⟨gb1203, 1, none⟩ = some (.slice none 0 0) := (blk_cell BK.out 1).trans rfl; have hcz63_2 : w57.cell? ⟨gb1203, 2, none⟩ = some (.slice none 0 0) := (blk_cell BK.out 2).trans rfl; have hfz63_0 := blk_frozen BK.out 0; have hfz63_1 := blk_frozen BK.out 1; have hfz63_2 := blk_frozen BK.out 2)
    | ((with_reducible refine gate_callee (f := 34) rfl ?_); refine goesL_ (some 66) rfl rfl Try.func34 (by kernel_rfl) rfl #[.agg #[.int .i64 t1195, .slice Ao64 t1196.length co64, .slice Ao65 t1199.length co65], .int .i64 t1202] rfl (by (try simp only [List.map_toArray, List.map_cons, List.map_nil]); first | done | rfl | (simp only [List.length_drop, List.length_take]; rfl)) ?_; (with_reducible refine (impl_RetireNode.calls k t1195 _ _ t1196 _ _ t1199 t1202 t1204 t1205 t1208 t1211 _ ?side1 ?side2 ?side3 ?side4 A11.out).mono ?_); (case side1 => exact Kd.C_below RA.out (by repeat (first | (with_reducible first | exact X.out | apply pw_below_drewN | apply below_drew1 | refine below_set ?_ G.out) | exact X.out))); (case side2 => exact KA.out); (case side3 => exact Kd.C_below RB.out (by repeat (first | (with_reducible first | exact X.out | apply pw_below_drewN | apply below_drew1 | refine below_set ?_ G.out) | exact X.out))); (case side4 => exact KB.out); rintro e w66 ⟨v1206, v1209, rfl, ho0, ho1, hb⟩; refine ⟨_, rfl, ?_⟩; have hu : Below w56.heap.size w56 w66 := below_step (by repeat (first | (with_reducible first | exact X.out | apply pw_below_drewN | apply below_drew1 | refine below_set ?_ G.out) | exact X.out)) hb; replace E1158 := Aside0.mk (Ep.up E1158.out hu); replace E1167 := Aside0.mk (Ep.up E1167.out hu); replace E1176 := Aside0.mk (Ep.up E1176.out hu); replace E1185 := Aside0.mk (Ep.up E1185.out hu); replace E1194 := Aside0.mk (Ep.up E1194.out hu); have E1203 : Aside0 (Ep w66 gb1203 t1195 Ao64 co64 t1196 Ao65 co65 t1199) := Aside0.mk (Ep.up (by (with_reducible repeat (first | refine Ep.drewN ?_ _ | refine Ep.drew ?_)); exact Ep.put3 BK.out G.out X.out RA.out KA.out RB.out KB.out) hb); clear BK G X RA KA RB KB; replace HB := Aside0.mk (below_step HB.out hu); clear hu; have H0_ := Aside0.mk ho0; have H1_ := Aside0.mk ho1; (try clear hb); clear ho0; clear ho1)
    | ((with_reducible refine gate_dst (N := 15) rfl ?_); (try (refine gate_guard (by rfl) ?_; dsimp only)); refine box_event ?hg (N := 15) ?hd (cs := #[.int .i64 0, .slice none 0 0, .slice none 0 0]) (t := 25) ?hr ?_; (case hd => rfl); (case hg => rfl); (case hr => first | (go_simp; done) | (go_simp; rfl)); intro gb1212 hg w67 hbox hb; have X : Aside0 (Below w66.heap.size w66 w67) := Aside0.mk (below_step (by repeat (first | (with_reducible first | exact Below.refl _ _ | apply pw_below_drewN | apply below_drew1) | exact Below.refl _ _)) hb); have BK := Aside0.mk hbox; have G : Aside0 (w66.heap.size ≤ gb1212) := Aside0.mk (by rw [hg]; first | done | exact below_size (by repeat (first | (with_reducible first | exact Below.refl _ _ | apply pw_below_drewN | apply below_drew1) | exact Below.refl _ _))); clear hb hbox hg; obtain ⟨Ao75, co75, eo75⟩ := Kd.R_slice H0_.out; subst eo75; have RA := Aside0.mk (Kd.R_reads' H0_.out).2.2; have KA := Aside0.mk (Kd.R_reads' H0_.out).2.1; obtain ⟨Ao76, co76, eo76⟩ := Kd.R_slice H1_.out; subst eo76; have RB := Aside0.mk (Kd.R_reads' H1_.out).2.2; have KB := Aside0.mk (Kd.R_reads' H1_.out).2.1; clear H0_; clear H1_; have hcz74_0 : w67.cell? ⟨gb1212, 0, none⟩ = some (.int .i64 0) := (blk_cell BK.out 0).trans rfl; have hcz74_1 : w67.cell? ⟨gb1212, 1, none⟩ = some (.slice none 0 0) := (blk_cell BK.out 1).trans rfl; have hcz74_2 : w67.cell? ⟨gb1212, 2, none⟩ = some (.slice none 0 0) := (blk_cell BK.out 2).trans rfl; have hfz74_0 := blk_frozen BK.out 0; have hfz74_1 := blk_frozen BK.out 1; have hfz74_2 := blk_frozen BK.out 2; have E_ := Ep.up E1203.out X.out; have hcz77_0 : w67.cell? ⟨gb1203, 0, none⟩ = some (.int .i64 t1195) := (blk_cell E_.b 0).trans rfl; have hcz77_1 : w67.cell? ⟨gb1203, 1, none⟩ = some (.slice Ao64 t1196.length co64) := (blk_cell E_.b 1).trans rfl; have hcz77_2 : w67.cell? ⟨gb1203, 2, none⟩ = some (.slice Ao65 t1199.length co65) := (blk_cell E_.b 2).trans rfl; have hfz77_0 := blk_frozen E_.b 0; have hfz77_1 := blk_frozen E_.b 1; have hfz77_2 := blk_frozen E_.b 2; have hnb73 : gb1212 ≠ gb1203 := Nat.ne_of_gt (Nat.lt_of_lt_of_le (blk_lt E1203.out.b) G.out); have hnc73 : gb1203 ≠ gb1212 := Nat.ne_of_lt (Nat.lt_of_lt_of_le (blk_lt E1203.out.b) G.out); clear E_)
    | ((with_reducible refine gate_callee (f := 33) rfl ?_); refine goesL_ (some 72) rfl rfl Try.func33 (by kernel_rfl) rfl #[.agg #[.int .i64 t1195, .slice Ao64 t1196.length co64, .slice Ao65 t1199.length co65], .int .i64 t1202] rfl (by (try simp only [List.map_toArray, List.map_cons, List.map_nil]); first | done | rfl | (simp only [List.length_drop, List.length_take]; rfl)) ?_; (with_reducible refine (spec_RetireNode.calls k t1195 _ _ t1196 _ _ t1199 t1202 t1213 t1214 t1217 t1220 _ ?side1 ?side2 ?side3 ?side4 A12.out).mono ?_); (case side1 => exact Kd.C_below E1203.out.r1 (by repeat (first | (with_reducible first | exact X.out | apply pw_below_drewN | apply below_drew1 | refine below_set ?_ G.out) | exact X.out))); (case side2 => exact E1203.out.k1); (case side3 => exact Kd.C_below E1203.out.r2 (by repeat (first | (with_reducible first | exact X.out | apply pw_below_drewN | apply below_drew1 | refine below_set ?_ G.out) | exact X.out))); (case side4 => exact E1203.out.k2); rintro e w78 ⟨v1215, v1218, rfl, ho0, ho1, hb⟩; refine ⟨_, rfl, ?_⟩; have hu : Below w66.heap.size w66 w78 := below_step (by repeat (first | (with_reducible first | exact X.out | apply pw_below_drewN | apply below_drew1 | refine below_set ?_ G.out) | exact X.out)) hb; replace E1158 := Aside0.mk (Ep.up E1158.out hu); replace E1167 := Aside0.mk (Ep.up E1167.out hu); replace E1176 := Aside0.mk (Ep.up E1176.out hu); replace E1185 := Aside0.mk (Ep.up E1185.out hu); replace E1194 := Aside0.mk (Ep.up E1194.out hu); replace E1203 := Aside0.mk (Ep.up E1203.out hu); have E1212 : Aside0 (Ep w78 gb1212 t1204 Ao75 co75 t1205 Ao76 co76 t1208) := Aside0.mk (Ep.up (by (with_reducible repeat (first | refine Ep.drewN ?_ _ | refine Ep.drew ?_)); exact Ep.put3 BK.out G.out X.out RA.out KA.out RB.out KB.out) hb); clear BK G X RA KA RB KB; replace HB := Aside0.mk (below_step HB.out hu); clear hu; have H0_ := Aside0.mk ho0; have H1_ := Aside0.mk ho1; (try clear hb); clear ho0; clear ho1)
    | ((with_reducible refine gate_dst (N := 17) rfl ?_); (try (refine gate_guard (by rfl) ?_; dsimp only)); refine box_event ?hg (N := 17) ?hd (cs := #[.int .i64 0, .slice none 0 0, .slice none 0 0]) (t := 25) ?hr ?_; (case hd => rfl); (case hg => rfl); (case hr => first | (go_simp; done) | (go_simp; rfl)); intro gb1221 hg w79 hbox hb; have X : Aside0 (Below w78.heap.size w78 w79) := Aside0.mk (below_step (by repeat (first | (with_reducible first | exact Below.refl _ _ | apply pw_below_drewN | apply below_drew1) | exact Below.refl _ _)) hb); have BK := Aside0.mk hbox; have G : Aside0 (w78.heap.size ≤ gb1221) := Aside0.mk (by rw [hg]; first | done | exact below_size (by repeat (first | (with_reducible first | exact Below.refl _ _ | apply pw_below_drewN | apply below_drew1) | exact Below.refl _ _))); clear hb hbox hg; obtain ⟨Ao88, co88, eo88⟩ := Kd.R_slice H0_.out; subst eo88; have RA := Aside0.mk (Kd.R_reads' H0_.out).2.2; have KA := Aside0.mk (Kd.R_reads' H0_.out).2.1; obtain ⟨Ao89, co89, eo89⟩ := Kd.R_slice H1_.out; subst eo89; have RB := Aside0.mk (Kd.R_reads' H1_.out).2.2; have KB := Aside0.mk (Kd.R_reads' H1_.out).2.1; clear H0_; clear H1_; have hcz87_0 : w79.cell? ⟨gb1221, 0, none⟩ = some (.int .i64 0) := (blk_cell BK.out 0).trans rfl; have hcz87_1 : w79.cell? ⟨gb1221, 1, none⟩ = some (.slice none 0 0) := (blk_cell BK.out 1).trans rfl; have hcz87_2 : w79.cell? ⟨gb1221, 2, none⟩ = some (.slice none 0 0) := (blk_cell BK.out 2).trans rfl; have hfz87_0 := blk_frozen BK.out 0; have hfz87_1 := blk_frozen BK.out 1; have hfz87_2 := blk_frozen BK.out 2; have E_ := Ep.up E1203.out X.out; have hcz90_0 : w79.cell? ⟨gb1203, 0, none⟩ = some (.int .i64 t1195) := (blk_cell E_.b 0).trans rfl; have hcz90_1 : w79.cell? ⟨gb1203, 1, none⟩ = some (.slice Ao64 t1196.length co64) := (blk_cell E_.b 1).trans rfl; have hcz90_2 : w79.cell? ⟨gb1203, 2, none⟩ = some (.slice Ao65 t1199.length co65) := (blk_cell E_.b 2).trans rfl; have hfz90_0 := blk_frozen E_.b 0; have hfz90_1 := blk_frozen E_.b 1; have hfz90_2 := blk_frozen E_.b 2; have hnb85 : gb1221 ≠ gb1203 := Nat.ne_of_gt (Nat.lt_of_lt_of_le (blk_lt E1203.out.b) G.out); have hnc85 : gb1203 ≠ gb1221 := Nat.ne_of_lt (Nat.lt_of_lt_of_le (blk_lt E1203.out.b) G.out); clear E_)
    | ((with_reducible refine gate_callee (f := 32) rfl ?_); refine goesL_ (some 77) rfl rfl Try.func32 (by kernel_rfl) rfl #[.agg #[.int .i64 t1195, .slice Ao64 t1196.length co64, .slice Ao65 t1199.length co65]] rfl (by (try simp only [List.map_toArray, List.map_cons, List.map_nil]); first | done | rfl | (simp only [List.length_drop, List.length_take]; rfl)) ?_; (with_reducible refine (impl_AdvanceEpoch.calls k t1195 _ _ t1196 _ _ t1199 t1222 t1223 t1226 t1229 _ ?side1 ?side2 ?side3 ?side4 A13.out).mono ?_); (case side1 => exact Kd.C_below E1203.out.r1 (by repeat (first | (with_reducible first | exact X.out | apply pw_below_drewN | apply below_drew1 | refine below_set ?_ G.out) | exact X.out))); (case side2 => exact E1203.out.k1); (case side3 => exact Kd.C_below E1203.out.r2 (by repeat (first | (with_reducible first | exact X.out | apply pw_below_drewN | apply below_drew1 | refine below_set ?_ G.out) | exact X.out))); (case side4 => exact E1203.out.k2); rintro e w91 ⟨v1224, v1227, rfl, ho0, ho1, hb⟩; refine ⟨_, rfl, ?_⟩; have hu : Below w78.heap.size w78 w91 := below_step (by repeat (first | (with_reducible first | exact X.out | apply pw_below_drewN | apply below_drew1 | refine below_set ?_ G.out) | exact X.out)) hb; replace E1158 := Aside0.mk (Ep.up E1158.out hu); replace E1167 := Aside0.mk (Ep.up E1167.out hu); replace E1176 := Aside0.mk (Ep.up E1176.out hu); replace E1185 := Aside0.mk (Ep.up E1185.out hu); replace E1194 := Aside0.mk (Ep.up E1194.out hu); replace E1203 := Aside0.mk (Ep.up E1203.out hu); replace E1212 := Aside0.mk (Ep.up E1212.out hu); have E1221 : Aside0 (Ep w91 gb1221 t1213 Ao88 co88 t1214 Ao89 co89 t1217) := Aside0.mk (Ep.up (by (with_reducible repeat (first | refine Ep.drewN ?_ _ | refine Ep.drew ?_)); exact Ep.put3 BK.out G.out X.out RA.out KA.out RB.out KB.out) hb); clear BK G X RA KA RB KB; replace HB := Aside0.mk (below_step HB.out hu); clear hu; have H0_ := Aside0.mk ho0; have H1_ := Aside0.mk ho1; (try clear hb); clear ho0; clear ho1)
    | ((with_reducible refine gate_dst (N := 19) rfl ?_); (try (refine gate_guard (by rfl) ?_; dsimp only)); refine box_event ?hg (N := 19) ?hd (cs := #[.int .i64 0, .slice none 0 0, .slice none 0 0]) (t := 25) ?hr ?_; (case hd => rfl); (case hg => rfl); (case hr => first | (go_simp; done) | (go_simp; rfl)); intro gb1230 hg w92 hbox hb; have X : Aside0 (Below w91.heap.size w91 w92) := Aside0.mk (below_step (by repeat (first | (with_reducible first | exact Below.refl _ _ | apply pw_below_drewN | apply below_drew1) | exact Below.refl _ _)) hb); have BK := Aside0.mk hbox; have G : Aside0 (w91.heap.size ≤ gb1230) := Aside0.mk (by rw [hg]; first | done | exact below_size (by repeat (first | (with_reducible first | exact Below.refl _ _ | apply pw_below_drewN | apply below_drew1) | exact Below.refl _ _))); clear hb hbox hg; obtain ⟨Ao102, co102, eo102⟩ := Kd.R_slice H0_.out; subst eo102; have RA := Aside0.mk (Kd.R_reads' H0_.out).2.2; have KA := Aside0.mk (Kd.R_reads' H0_.out).2.1; obtain ⟨Ao103, co103, eo103⟩ := Kd.R_slice H1_.out; subst eo103; have RB := Aside0.mk (Kd.R_reads' H1_.out).2.2; have KB := Aside0.mk (Kd.R_reads' H1_.out).2.1; clear H0_; clear H1_; have hcz101_0 : w92.cell? ⟨gb1230, 0, none⟩ = some (.int .i64 0) := (blk_cell BK.out 0).trans rfl; have hcz101_1 : w92.cell? ⟨gb1230, 1, none⟩ = some (.slice none 0 0) := (blk_cell BK.out 1).trans rfl; have hcz101_2 : w92.cell? ⟨gb1230, 2, none⟩ = some (.slice none 0 0) := (blk_cell BK.out 2).trans rfl; have hfz101_0 := blk_frozen BK.out 0; have hfz101_1 := blk_frozen BK.out 1; have hfz101_2 := blk_frozen BK.out 2; have E_ := Ep.up E1203.out X.out; have hcz104_0 : w92.cell? ⟨gb1203, 0, none⟩ = some (.int .i64 t1195) := (blk_cell E_.b 0).trans rfl; have hcz104_1 : w92.cell? ⟨gb1203, 1, none⟩ = some (.slice Ao64 t1196.length co64) := (blk_cell E_.b 1).trans rfl; have hcz104_2 : w92.cell? ⟨gb1203, 2, none⟩ = some (.slice Ao65 t1199.length co65) := (blk_cell E_.b 2).trans rfl; have hfz104_0 := blk_frozen E_.b 0; have hfz104_1 := blk_frozen E_.b 1; have hfz104_2 := blk_frozen E_.b 2; have hnb98 : gb1230 ≠ gb1203 := Nat.ne_of_gt (Nat.lt_of_lt_of_le (blk_lt E1203.out.b) G.out); have hnc98 : gb1203 ≠ gb1230 := Nat.ne_of_lt (Nat.lt_of_lt_of_le (blk_lt E1203.out.b) G.out); clear E_)
    | ((with_reducible refine gate_callee (f := 31) rfl ?_); refine goesL_ (some 82) rfl rfl Try.func31 (by kernel_rfl) rfl #[.agg #[.int .i64 t1195, .slice Ao64 t1196.length co64, .slice Ao65 t1199.length co65]] rfl (by (try simp only [List.map_toArray, List.map_cons, List.map_nil]); first | done | rfl | (simp only [List.length_drop, List.length_take]; rfl)) ?_; (with_reducible refine (spec_AdvanceEpoch.calls k t1195 _ _ t1196 _ _ t1199 t1231 t1232 t1235 t1238 _ ?side1 ?side2 ?side3 ?side4 A14.out).mono ?_); (case side1 => exact Kd.C_below E1203.out.r1 (by repeat (first | (with_reducible first | exact X.out | apply pw_below_drewN | apply below_drew1 | refine below_set ?_ G.out) | exact X.out))); (case side2 => exact E1203.out.k1); (case side3 => exact Kd.C_below E1203.out.r2 (by repeat (first | (with_reducible first | exact X.out | apply pw_below_drewN | apply below_drew1 | refine below_set ?_ G.out) | exact X.out))); (case side4 => exact E1203.out.k2); rintro e w105 ⟨v1233, v1236, rfl, ho0, ho1, hb⟩; refine ⟨_, rfl, ?_⟩; have hu : Below w91.heap.size w91 w105 := below_step (by repeat (first | (with_reducible first | exact X.out | apply pw_below_drewN | apply below_drew1 | refine below_set ?_ G.out) | exact X.out)) hb; replace E1158 := Aside0.mk (Ep.up E1158.out hu); replace E1167 := Aside0.mk (Ep.up E1167.out hu); replace E1176 := Aside0.mk (Ep.up E1176.out hu); replace E1185 := Aside0.mk (Ep.up E1185.out hu); replace E1194 := Aside0.mk (Ep.up E1194.out hu); replace E1203 := Aside0.mk (Ep.up E1203.out hu); replace E1212 := Aside0.mk (Ep.up E1212.out hu); replace E1221 := Aside0.mk (Ep.up E1221.out hu); have E1230 : Aside0 (Ep w105 gb1230 t1222 Ao102 co102 t1223 Ao103 co103 t1226) := Aside0.mk (Ep.up (by (with_reducible repeat (first | refine Ep.drewN ?_ _ | refine Ep.drew ?_)); exact Ep.put3 BK.out G.out X.out RA.out KA.out RB.out KB.out) hb); clear BK G X RA KA RB KB; replace HB := Aside0.mk (below_step HB.out hu); clear hu; have H0_ := Aside0.mk ho0; have H1_ := Aside0.mk ho1; (try clear hb); clear ho0; clear ho1)
    | ((with_reducible refine gate_dst (N := 21) rfl ?_); (try (refine gate_guard (by rfl) ?_; dsimp only)); refine box_event ?hg (N := 21) ?hd (cs := #[.int .i64 0, .slice none 0 0, .slice none 0 0]) (t := 25) ?hr ?_; (case hd => rfl); (case hg => rfl); (case hr => first | (go_simp; done) | (go_simp; rfl)); intro gb1239 hg w106 hbox hb; have X : Aside0 (Below w105.heap.size w105 w106) := Aside0.mk (below_step (by repeat (first | (with_reducible first | exact Below.refl _ _ | apply pw_below_drewN | apply below_drew1) | exact Below.refl _ _)) hb); have BK := Aside0.mk hbox; have G : Aside0 (w105.heap.size ≤ gb1239) := Aside0.mk (by rw [hg]; first | done | exact below_size (by repeat (first | (with_reducible first | exact Below.refl _ _ | apply pw_below_drewN | apply below_drew1) | exact Below.refl _ _))); clear hb hbox hg; obtain ⟨Ao117, co117, eo117⟩ := Kd.R_slice H0_.out; subst eo117; have RA := Aside0.mk (Kd.R_reads' H0_.out).2.2; have KA := Aside0.mk (Kd.R_reads' H0_.out).2.1; obtain ⟨Ao118, co118, eo118⟩ := Kd.R_slice H1_.out; subst eo118; have RB := Aside0.mk (Kd.R_reads' H1_.out).2.2; have KB := Aside0.mk (Kd.R_reads' H1_.out).2.1; clear H0_; clear H1_; have hcz116_0 : w106.cell? ⟨gb1239, 0, none⟩ = some (.int .i64 0) := (blk_cell BK.out 0).trans rfl; have hcz116_1 : w106.cell? ⟨gb1239, 1, none⟩ = some (.slice none 0 0) := (blk_cell BK.out 1).trans rfl; have hcz116_2 : w106.cell? ⟨gb1239, 2, none⟩ = some (.slice none 0 0) := (blk_cell BK.out 2).trans rfl; have hfz116_0 := blk_frozen BK.out 0; have hfz116_1 := blk_frozen BK.out 1; have hfz116_2 := blk_frozen BK.out 2; have E_ := Ep.up E1203.out X.out; have hcz119_0 : w106.cell? ⟨gb1203, 0, none⟩ = some (.int .i64 t1195) := (blk_cell E_.b 0).trans rfl; have hcz119_1 : w106.cell? ⟨gb1203, 1, none⟩ = some (.slice Ao64 t1196.length co64) := (blk_cell E_.b 1).trans rfl; have hcz119_2 : w106.cell? ⟨gb1203, 2, none⟩ = some (.slice Ao65 t1199.length co65) := (blk_cell E_.b 2).trans rfl; have hfz119_0 := blk_frozen E_.b 0; have hfz119_1 := blk_frozen E_.b 1; have hfz119_2 := blk_frozen E_.b 2; have hnb112 : gb1239 ≠ gb1203 := Nat.ne_of_gt (Nat.lt_of_lt_of_le (blk_lt E1203.out.b) G.out); have hnc112 : gb1203 ≠ gb1239 := Nat.ne_of_lt (Nat.lt_of_lt_of_le (blk_lt E1203.out.b) G.out); clear E_)
    | ((with_reducible refine gate_callee (f := 27) rfl ?_); refine goesL_ (some 87) rfl rfl Try.func27 (by kernel_rfl) rfl #[.agg #[.int .i64 t1195, .slice Ao64 t1196.length co64, .slice Ao65 t1199.length co65]] rfl (by (try simp only [List.map_toArray, List.map_cons, List.map_nil]); first | done | rfl | (simp only [List.length_drop, List.length_take]; rfl)) ?_; (with_reducible refine (impl_FreeNodes.calls k t1195 _ _ t1196 _ _ t1199 t1240 t1241 t1244 t1247 _ ?side1 ?side2 ?side3 ?side4 A15.out).mono ?_); (case side1 => exact Kd.C_below E1203.out.r1 (by repeat (first | (with_reducible first | exact X.out | apply pw_below_drewN | apply below_drew1 | refine below_set ?_ G.out) | exact X.out))); (case side2 => exact E1203.out.k1); (case side3 => exact Kd.C_below E1203.out.r2 (by repeat (first | (with_reducible first | exact X.out | apply pw_below_drewN | apply below_drew1 | refine below_set ?_ G.out) | exact X.out))); (case side4 => exact E1203.out.k2); rintro e w120 ⟨v1242, v1245, v1248, rfl, ho0, ho1, ho2, hb⟩; refine ⟨_, rfl, ?_⟩; have hu : Below w105.heap.size w105 w120 := below_step (by repeat (first | (with_reducible first | exact X.out | apply pw_below_drewN | apply below_drew1 | refine below_set ?_ G.out) | exact X.out)) hb; replace E1158 := Aside0.mk (Ep.up E1158.out hu); replace E1167 := Aside0.mk (Ep.up E1167.out hu); replace E1176 := Aside0.mk (Ep.up E1176.out hu); replace E1185 := Aside0.mk (Ep.up E1185.out hu); replace E1194 := Aside0.mk (Ep.up E1194.out hu); replace E1203 := Aside0.mk (Ep.up E1203.out hu); replace E1212 := Aside0.mk (Ep.up E1212.out hu); replace E1221 := Aside0.mk (Ep.up E1221.out hu); replace E1230 := Aside0.mk (Ep.up E1230.out hu); have E1239 : Aside0 (Ep w120 gb1239 t1231 Ao117 co117 t1232 Ao118 co118 t1235) := Aside0.mk (Ep.up (by (with_reducible repeat (first | refine Ep.drewN ?_ _ | refine Ep.drew ?_)); exact Ep.put3 BK.out G.out X.out RA.out KA.out RB.out KB.out) hb); clear BK G X RA KA RB KB; replace HB := Aside0.mk (below_step HB.out hu); clear hu; have H0_ := Aside0.mk ho0; have H1_ := Aside0.mk ho1; have H2_ := Aside0.mk ho2; (try clear hb); clear ho0; clear ho1; clear ho2)
    | ((with_reducible refine gate_dst (N := 23) rfl ?_); (try (refine gate_guard (by rfl) ?_; dsimp only)); refine box_event ?hg (N := 23) ?hd (cs := #[.int .i64 0, .slice none 0 0, .slice none 0 0]) (t := 25) ?hr ?_; (case hd => rfl); (case hg => rfl); (case hr => first | (go_simp; done) | (go_simp; rfl)); intro gb1250 hg w121 hbox hb; have X : Aside0 (Below w120.heap.size w120 w121) := Aside0.mk (below_step (by repeat (first | (with_reducible first | exact Below.refl _ _ | apply pw_below_drewN | apply below_drew1) | exact Below.refl _ _)) hb); have BK := Aside0.mk hbox; have G : Aside0 (w120.heap.size ≤ gb1250) := Aside0.mk (by rw [hg]; first | done | exact below_size (by repeat (first | (with_reducible first | exact Below.refl _ _ | apply pw_below_drewN | apply below_drew1) | exact Below.refl _ _))); clear hb hbox hg; obtain ⟨Ao133, co133, eo133⟩ := Kd.R_slice H0_.out; subst eo133; have RA := Aside0.mk (Kd.R_reads' H0_.out).2.2; have KA := Aside0.mk (Kd.R_reads' H0_.out).2.1; obtain ⟨Ao134, co134, eo134⟩ := Kd.R_slice H1_.out; subst eo134; have RB := Aside0.mk (Kd.R_reads' H1_.out).2.2; have KB := Aside0.mk (Kd.R_reads' H1_.out).2.1; obtain ⟨Ao179, co179, eo179⟩ := Kd.R_slice H2_.out; subst eo179; have L1249 := Aside0.mk (Ls.mk (Kd.R_reads' H2_.out).2.2 (Kd.R_reads' H2_.out).2.1); clear H0_; clear H1_; clear H2_; have hcz132_0 : w121.cell? ⟨gb1250, 0, none⟩ = some (.int .i64 0) := (blk_cell BK.out 0).trans rfl; have hcz132_1 : w121.cell? ⟨gb1250, 1, none⟩ = some (.slice none 0 0) := (blk_cell BK.out 1).trans rfl; have hcz132_2 : w121.cell? ⟨gb1250, 2, none⟩ = some (.slice none 0 0) := (blk_cell BK.out 2).trans rfl; have hfz132_0 := blk_frozen BK.out 0; have hfz132_1 := blk_frozen BK.out 1; have hfz132_2 := blk_frozen BK.out 2; have E_ := Ep.up E1203.out X.out; have hcz135_0 : w121.cell? ⟨gb1203, 0, none⟩ = some (.int .i64 t1195) := (blk_cell E_.b 0).trans rfl; have hcz135_1 : w121.cell? ⟨gb1203, 1, none⟩ = some (.slice Ao64 t1196.length co64) := (blk_cell E_.b 1).trans rfl; have hcz135_2 : w121.cell? ⟨gb1203, 2, none⟩ = some (.slice Ao65 t1199.length co65) := (blk_cell E_.b 2).trans rfl; have hfz135_0 := blk_frozen E_.b 0; have hfz135_1 := blk_frozen E_.b 1; have hfz135_2 := blk_frozen E_.b 2; have hnb127 : gb1250 ≠ gb1203 := Nat.ne_of_gt (Nat.lt_of_lt_of_le (blk_lt E1203.out.b) G.out); have hnc127 : gb1203 ≠ gb1250 := Nat.ne_of_lt (Nat.lt_of_lt_of_le (blk_lt E1203.out.b) G.out); clear E_)
    | ((with_reducible refine gate_callee (f := 26) rfl ?_); refine goesL_ (some 92) rfl rfl Try.func26 (by kernel_rfl) rfl #[.agg #[.int .i64 t1195, .slice Ao64 t1196.length co64, .slice Ao65 t1199.length co65]] rfl (by (try simp only [List.map_toArray, List.map_cons, List.map_nil]); first | done | rfl | (simp only [List.length_drop, List.length_take]; rfl)) ?_; (with_reducible refine (spec_FreeNodes.calls k t1195 _ _ t1196 _ _ t1199 t1251 t1252 t1255 t1258 _ ?side1 ?side2 ?side3 ?side4 A16.out).mono ?_); (case side1 => exact Kd.C_below E1203.out.r1 (by repeat (first | (with_reducible first | exact X.out | apply pw_below_drewN | apply below_drew1 | refine below_set ?_ G.out) | exact X.out))); (case side2 => exact E1203.out.k1); (case side3 => exact Kd.C_below E1203.out.r2 (by repeat (first | (with_reducible first | exact X.out | apply pw_below_drewN | apply below_drew1 | refine below_set ?_ G.out) | exact X.out))); (case side4 => exact E1203.out.k2); rintro e w136 ⟨v1253, v1256, v1259, rfl, ho0, ho1, ho2, hb⟩; refine ⟨_, rfl, ?_⟩; have hu : Below w120.heap.size w120 w136 := below_step (by repeat (first | (with_reducible first | exact X.out | apply pw_below_drewN | apply below_drew1 | refine below_set ?_ G.out) | exact X.out)) hb; replace E1158 := Aside0.mk (Ep.up E1158.out hu); replace E1167 := Aside0.mk (Ep.up E1167.out hu); replace E1176 := Aside0.mk (Ep.up E1176.out hu); replace E1185 := Aside0.mk (Ep.up E1185.out hu); replace E1194 := Aside0.mk (Ep.up E1194.out hu); replace E1203 := Aside0.mk (Ep.up E1203.out hu); replace E1212 := Aside0.mk (Ep.up E1212.out hu); replace E1221 := Aside0.mk (Ep.up E1221.out hu); replace E1230 := Aside0.mk (Ep.up E1230.out hu); replace E1239 := Aside0.mk (Ep.up E1239.out hu); replace L1249 := Aside0.mk (Ls.up L1249.out hu); have E1250 : Aside0 (Ep w136 gb1250 t1240 Ao133 co133 t1241 Ao134 co134 t1244) := Aside0.mk (Ep.up (by (with_reducible repeat (first | refine Ep.drewN ?_ _ | refine Ep.drew ?_)); exact Ep.put3 BK.out G.out X.out RA.out KA.out RB.out KB.out) hb); clear BK G X RA KA RB KB; replace HB := Aside0.mk (below_step HB.out hu); clear hu; have H0_ := Aside0.mk ho0; have H1_ := Aside0.mk ho1; have H2_ := Aside0.mk ho2; (try clear hb); clear ho0; clear ho1; clear ho2)
    | ((with_reducible refine gate_dst (N := 25) rfl ?_); (try (refine gate_guard (by rfl) ?_; dsimp only)); refine box_event ?hg (N := 25) ?hd (cs := #[.int .i64 0, .slice none 0 0, .slice none 0 0]) (t := 25) ?hr ?_; (case hd => rfl); (case hg => rfl); (case hr => first | (go_simp; done) | (go_simp; rfl)); intro gb1261 hg w137 hbox hb; have X : Aside0 (Below w136.heap.size w136 w137) := Aside0.mk (below_step (by repeat (first | (with_reducible first | exact Below.refl _ _ | apply pw_below_drewN | apply below_drew1) | exact Below.refl _ _)) hb); have BK := Aside0.mk hbox; have G : Aside0 (w136.heap.size ≤ gb1261) := Aside0.mk (by rw [hg]; first | done | exact below_size (by repeat (first | (with_reducible first | exact Below.refl _ _ | apply pw_below_drewN | apply below_drew1) | exact Below.refl _ _))); clear hb hbox hg; obtain ⟨Ao150, co150, eo150⟩ := Kd.R_slice H0_.out; subst eo150; have RA := Aside0.mk (Kd.R_reads' H0_.out).2.2; have KA := Aside0.mk (Kd.R_reads' H0_.out).2.1; obtain ⟨Ao151, co151, eo151⟩ := Kd.R_slice H1_.out; subst eo151; have RB := Aside0.mk (Kd.R_reads' H1_.out).2.2; have KB := Aside0.mk (Kd.R_reads' H1_.out).2.1; obtain ⟨Ao180, co180, eo180⟩ := Kd.R_slice H2_.out; subst eo180; have L1260 := Aside0.mk (Ls.mk (Kd.R_reads' H2_.out).2.2 (Kd.R_reads' H2_.out).2.1); clear H0_; clear H1_; clear H2_; have hcz149_0 : w137.cell? ⟨gb1261, 0, none⟩ = some (.int .i64 0) := (blk_cell BK.out 0).trans rfl; have hcz149_1 : w137.cell? ⟨gb1261, 1, none⟩ = some (.slice none 0 0) := (blk_cell BK.out 1).trans rfl; have hcz149_2 : w137.cell? ⟨gb1261, 2, none⟩ = some (.slice none 0 0) := (blk_cell BK.out 2).trans rfl; have hfz149_0 := blk_frozen BK.out 0; have hfz149_1 := blk_frozen BK.out 1; have hfz149_2 := blk_frozen BK.out 2))
  (try simp only [Act.put, List.setIfInBounds_toArray, List.set_cons_zero, List.set_cons_succ])
  have H := HS17.out
  clear HS17
  by_cases c152 : (t1166 == t1175) = true
  rotate_left
  · rw [if_neg c152] at H
    have c152b0 : (t1166 == t1175) = false := by simpa using c152
    (try (have c152b1 : decide (t1166 = t1175) = false := by simpa using c152))
    (try (have c152b2 : (t1166 == t1175) = false := by simpa using c152))
    (try (have c152b3 : ¬ (t1166 = t1175) := by simpa using c152))
    clear c152
    exact absurd H (by simp)

  rw [if_pos c152] at H
  have c152b0 : (t1166 == t1175) = true := c152
  (try (have c152b1 : decide (t1166 = t1175) = true := by simpa using c152))
  (try (have c152b2 : (t1166 == t1175) = true := by simpa using c152))
  clear c152
  replace H := Option.bind_eq_some_iff.mp H
  obtain ⟨t1262, A1530, H⟩ := H
  replace H : (if t1262 = true then (if t1166 = true then (if (t1184 == t1193) = true then ((laws_sameEpochs.f k t1177 t1178 t1181 t1186 t1187 t1190).bind fun t1263 => (if t1263 = true then (if (t1211 == t1220) = true then ((laws_sameEpochs.f k t1204 t1205 t1208 t1213 t1214 t1217).bind fun t1264 => (if t1264 = true then (if (t1229 == t1238) = true then ((laws_sameEpochs.f k t1222 t1223 t1226 t1231 t1232 t1235).bind fun t1265 => (if t1265 = true then ((laws_sameInts.f k t1247 t1258).bind fun t1266 => (if t1266 = true then ((laws_sameEpochs.f k t1240 t1241 t1244 t1251 t1252 t1255).bind fun t1267 => (if t1267 = true then ((impl_EpochsOk.f k t1150 t1151 t1154).bind fun t1268 => ((spec_EpochsOk.f k t1150 t1151 t1154).bind fun t1269 => (if (t1268 == t1269) = true then ((impl_EpochsNew.f 9).bind fun bt1270 => (some ((bt1270.2.1.length : Int) == 4))) else (none)))) else (none))) else (none))) else (none))) else (none)) else (none))) else (none)) else (none))) else (none)) else ((laws_sameEpochs.f k t1159 t1160 t1163 t1150 t1151 t1154).bind fun t1277 => (if t1277 = true then (if (t1184 == t1193) = true then ((laws_sameEpochs.f k t1177 t1178 t1181 t1186 t1187 t1190).bind fun t1278 => (if t1278 = true then (if (t1211 == t1220) = true then ((laws_sameEpochs.f k t1204 t1205 t1208 t1213 t1214 t1217).bind fun t1279 => (if t1279 = true then (if (t1229 == t1238) = true then ((laws_sameEpochs.f k t1222 t1223 t1226 t1231 t1232 t1235).bind fun t1280 => (if t1280 = true then ((laws_sameInts.f k t1247 t1258).bind fun t1281 => (if t1281 = true then ((laws_sameEpochs.f k t1240 t1241 t1244 t1251 t1252 t1255).bind fun t1282 => (if t1282 = true then ((impl_EpochsOk.f k t1150 t1151 t1154).bind fun t1283 => ((spec_EpochsOk.f k t1150 t1151 t1154).bind fun t1284 => (if (t1283 == t1284) = true then ((impl_EpochsNew.f 9).bind fun bt1285 => (some ((bt1285.2.1.length : Int) == 4))) else (none)))) else (none))) else (none))) else (none))) else (none)) else (none))) else (none)) else (none))) else (none)) else (none)))) else (none)) = some r := H
  have A153 := Aside0.mk A1530
  clear A1530
  by_cases c154 : t1262 = true
  rotate_left
  · replace c154 := Bool.eq_false_iff.mpr c154
    subst c154
    have H1 : (none) = some r := by rw [if_neg (show ¬ (false = true) by decide)] at H; exact H
    clear H
    have H := H1
    clear H1
    exact absurd H (by simp)
  subst c154
  have H1 : (if t1166 = true then (if (t1184 == t1193) = true then ((laws_sameEpochs.f k t1177 t1178 t1181 t1186 t1187 t1190).bind fun t1263 => (if t1263 = true then (if (t1211 == t1220) = true then ((laws_sameEpochs.f k t1204 t1205 t1208 t1213 t1214 t1217).bind fun t1264 => (if t1264 = true then (if (t1229 == t1238) = true then ((laws_sameEpochs.f k t1222 t1223 t1226 t1231 t1232 t1235).bind fun t1265 => (if t1265 = true then ((laws_sameInts.f k t1247 t1258).bind fun t1266 => (if t1266 = true then ((laws_sameEpochs.f k t1240 t1241 t1244 t1251 t1252 t1255).bind fun t1267 => (if t1267 = true then ((impl_EpochsOk.f k t1150 t1151 t1154).bind fun t1268 => ((spec_EpochsOk.f k t1150 t1151 t1154).bind fun t1269 => (if (t1268 == t1269) = true then ((impl_EpochsNew.f 9).bind fun bt1270 => (some ((bt1270.2.1.length : Int) == 4))) else (none)))) else (none))) else (none))) else (none))) else (none)) else (none))) else (none)) else (none))) else (none)) else ((laws_sameEpochs.f k t1159 t1160 t1163 t1150 t1151 t1154).bind fun t1277 => (if t1277 = true then (if (t1184 == t1193) = true then ((laws_sameEpochs.f k t1177 t1178 t1181 t1186 t1187 t1190).bind fun t1278 => (if t1278 = true then (if (t1211 == t1220) = true then ((laws_sameEpochs.f k t1204 t1205 t1208 t1213 t1214 t1217).bind fun t1279 => (if t1279 = true then (if (t1229 == t1238) = true then ((laws_sameEpochs.f k t1222 t1223 t1226 t1231 t1232 t1235).bind fun t1280 => (if t1280 = true then ((laws_sameInts.f k t1247 t1258).bind fun t1281 => (if t1281 = true then ((laws_sameEpochs.f k t1240 t1241 t1244 t1251 t1252 t1255).bind fun t1282 => (if t1282 = true then ((impl_EpochsOk.f k t1150 t1151 t1154).bind fun t1283 => ((spec_EpochsOk.f k t1150 t1151 t1154).bind fun t1284 => (if (t1283 == t1284) = true then ((impl_EpochsNew.f 9).bind fun bt1285 => (some ((bt1285.2.1.length : Int) == 4))) else (none)))) else (none))) else (none))) else (none))) else (none)) else (none))) else (none)) else (none))) else (none)) else (none)))) = some r := by rw [if_pos rfl] at H; exact H
  clear H
  have H := H1
  clear H1
  by_cases c155 : t1166 = true
  · subst c155
    have H1 : (if (t1184 == t1193) = true then ((laws_sameEpochs.f k t1177 t1178 t1181 t1186 t1187 t1190).bind fun t1263 => (if t1263 = true then (if (t1211 == t1220) = true then ((laws_sameEpochs.f k t1204 t1205 t1208 t1213 t1214 t1217).bind fun t1264 => (if t1264 = true then (if (t1229 == t1238) = true then ((laws_sameEpochs.f k t1222 t1223 t1226 t1231 t1232 t1235).bind fun t1265 => (if t1265 = true then ((laws_sameInts.f k t1247 t1258).bind fun t1266 => (if t1266 = true then ((laws_sameEpochs.f k t1240 t1241 t1244 t1251 t1252 t1255).bind fun t1267 => (if t1267 = true then ((impl_EpochsOk.f k t1150 t1151 t1154).bind fun t1268 => ((spec_EpochsOk.f k t1150 t1151 t1154).bind fun t1269 => (if (t1268 == t1269) = true then ((impl_EpochsNew.f 9).bind fun bt1270 => (some ((bt1270.2.1.length : Int) == 4))) else (none)))) else (none))) else (none))) else (none))) else (none)) else (none))) else (none)) else (none))) else (none)) = some r := by rw [if_pos rfl] at H; exact H
    clear H
    have H := H1
    clear H1
    by_cases c156 : (t1184 == t1193) = true
    rotate_left
    · rw [if_neg c156] at H
      have c156b0 : (t1184 == t1193) = false := by simpa using c156
      (try (have c156b1 : decide (t1184 = t1193) = false := by simpa using c156))
      (try (have c156b2 : (t1184 == t1193) = false := by simpa using c156))
      (try (have c156b3 : ¬ (t1184 = t1193) := by simpa using c156))
      clear c156
      exact absurd H (by simp)
    rw [if_pos c156] at H
    have c156b0 : (t1184 == t1193) = true := c156
    (try (have c156b1 : decide (t1184 = t1193) = true := by simpa using c156))
    (try (have c156b2 : (t1184 == t1193) = true := by simpa using c156))
    clear c156
    replace H := Option.bind_eq_some_iff.mp H
    obtain ⟨t1263, A1570, H⟩ := H
    replace H : (if t1263 = true then (if (t1211 == t1220) = true then ((laws_sameEpochs.f k t1204 t1205 t1208 t1213 t1214 t1217).bind fun t1264 => (if t1264 = true then (if (t1229 == t1238) = true then ((laws_sameEpochs.f k t1222 t1223 t1226 t1231 t1232 t1235).bind fun t1265 => (if t1265 = true then ((laws_sameInts.f k t1247 t1258).bind fun t1266 => (if t1266 = true then ((laws_sameEpochs.f k t1240 t1241 t1244 t1251 t1252 t1255).bind fun t1267 => (if t1267 = true then ((impl_EpochsOk.f k t1150 t1151 t1154).bind fun t1268 => ((spec_EpochsOk.f k t1150 t1151 t1154).bind fun t1269 => (if (t1268 == t1269) = true then ((impl_EpochsNew.f 9).bind fun bt1270 => (some ((bt1270.2.1.length : Int) == 4))) else (none)))) else (none))) else (none))) else (none))) else (none)) else (none))) else (none)) else (none)) = some r := H
    have A157 := Aside0.mk A1570
    clear A1570
    by_cases c158 : t1263 = true
    rotate_left
    · replace c158 := Bool.eq_false_iff.mpr c158
      subst c158
      have H1 : (none) = some r := by rw [if_neg (show ¬ (false = true) by decide)] at H; exact H
      clear H
      have H := H1
      clear H1
      exact absurd H (by simp)
    subst c158
    have H1 : (if (t1211 == t1220) = true then ((laws_sameEpochs.f k t1204 t1205 t1208 t1213 t1214 t1217).bind fun t1264 => (if t1264 = true then (if (t1229 == t1238) = true then ((laws_sameEpochs.f k t1222 t1223 t1226 t1231 t1232 t1235).bind fun t1265 => (if t1265 = true then ((laws_sameInts.f k t1247 t1258).bind fun t1266 => (if t1266 = true then ((laws_sameEpochs.f k t1240 t1241 t1244 t1251 t1252 t1255).bind fun t1267 => (if t1267 = true then ((impl_EpochsOk.f k t1150 t1151 t1154).bind fun t1268 => ((spec_EpochsOk.f k t1150 t1151 t1154).bind fun t1269 => (if (t1268 == t1269) = true then ((impl_EpochsNew.f 9).bind fun bt1270 => (some ((bt1270.2.1.length : Int) == 4))) else (none)))) else (none))) else (none))) else (none))) else (none)) else (none))) else (none)) = some r := by rw [if_pos rfl] at H; exact H
    clear H
    have H := H1
    clear H1
    by_cases c159 : (t1211 == t1220) = true
    rotate_left
    · rw [if_neg c159] at H
      have c159b0 : (t1211 == t1220) = false := by simpa using c159
      (try (have c159b1 : decide (t1211 = t1220) = false := by simpa using c159))
      (try (have c159b2 : (t1211 == t1220) = false := by simpa using c159))
      (try (have c159b3 : ¬ (t1211 = t1220) := by simpa using c159))
      clear c159
      exact absurd H (by simp)
    rw [if_pos c159] at H
    have c159b0 : (t1211 == t1220) = true := c159
    (try (have c159b1 : decide (t1211 = t1220) = true := by simpa using c159))
    (try (have c159b2 : (t1211 == t1220) = true := by simpa using c159))
    clear c159
    replace H := Option.bind_eq_some_iff.mp H
    obtain ⟨t1264, A1600, H⟩ := H
    replace H : (if t1264 = true then (if (t1229 == t1238) = true then ((laws_sameEpochs.f k t1222 t1223 t1226 t1231 t1232 t1235).bind fun t1265 => (if t1265 = true then ((laws_sameInts.f k t1247 t1258).bind fun t1266 => (if t1266 = true then ((laws_sameEpochs.f k t1240 t1241 t1244 t1251 t1252 t1255).bind fun t1267 => (if t1267 = true then ((impl_EpochsOk.f k t1150 t1151 t1154).bind fun t1268 => ((spec_EpochsOk.f k t1150 t1151 t1154).bind fun t1269 => (if (t1268 == t1269) = true then ((impl_EpochsNew.f 9).bind fun bt1270 => (some ((bt1270.2.1.length : Int) == 4))) else (none)))) else (none))) else (none))) else (none))) else (none)) else (none)) = some r := H
    have A160 := Aside0.mk A1600
    clear A1600
    by_cases c161 : t1264 = true
    rotate_left
    · replace c161 := Bool.eq_false_iff.mpr c161
      subst c161
      have H1 : (none) = some r := by rw [if_neg (show ¬ (false = true) by decide)] at H; exact H
      clear H
      have H := H1
      clear H1
      exact absurd H (by simp)
    subst c161
    have H1 : (if (t1229 == t1238) = true then ((laws_sameEpochs.f k t1222 t1223 t1226 t1231 t1232 t1235).bind fun t1265 => (if t1265 = true then ((laws_sameInts.f k t1247 t1258).bind fun t1266 => (if t1266 = true then ((laws_sameEpochs.f k t1240 t1241 t1244 t1251 t1252 t1255).bind fun t1267 => (if t1267 = true then ((impl_EpochsOk.f k t1150 t1151 t1154).bind fun t1268 => ((spec_EpochsOk.f k t1150 t1151 t1154).bind fun t1269 => (if (t1268 == t1269) = true then ((impl_EpochsNew.f 9).bind fun bt1270 => (some ((bt1270.2.1.length : Int) == 4))) else (none)))) else (none))) else (none))) else (none))) else (none)) = some r := by rw [if_pos rfl] at H; exact H
    clear H
    have H := H1
    clear H1
    by_cases c162 : (t1229 == t1238) = true
    rotate_left
    · rw [if_neg c162] at H
      have c162b0 : (t1229 == t1238) = false := by simpa using c162
      (try (have c162b1 : decide (t1229 = t1238) = false := by simpa using c162))
      (try (have c162b2 : (t1229 == t1238) = false := by simpa using c162))
      (try (have c162b3 : ¬ (t1229 = t1238) := by simpa using c162))
      clear c162
      exact absurd H (by simp)
    rw [if_pos c162] at H
    have c162b0 : (t1229 == t1238) = true := c162
    (try (have c162b1 : decide (t1229 = t1238) = true := by simpa using c162))
    (try (have c162b2 : (t1229 == t1238) = true := by simpa using c162))
    clear c162
    replace H := Option.bind_eq_some_iff.mp H
    obtain ⟨t1265, A1630, H⟩ := H
    replace H : (if t1265 = true then ((laws_sameInts.f k t1247 t1258).bind fun t1266 => (if t1266 = true then ((laws_sameEpochs.f k t1240 t1241 t1244 t1251 t1252 t1255).bind fun t1267 => (if t1267 = true then ((impl_EpochsOk.f k t1150 t1151 t1154).bind fun t1268 => ((spec_EpochsOk.f k t1150 t1151 t1154).bind fun t1269 => (if (t1268 == t1269) = true then ((impl_EpochsNew.f 9).bind fun bt1270 => (some ((bt1270.2.1.length : Int) == 4))) else (none)))) else (none))) else (none))) else (none)) = some r := H
    have A163 := Aside0.mk A1630
    clear A1630
    by_cases c164 : t1265 = true
    rotate_left
    · replace c164 := Bool.eq_false_iff.mpr c164
      subst c164
      have H1 : (none) = some r := by rw [if_neg (show ¬ (false = true) by decide)] at H; exact H
      clear H
      have H := H1
      clear H1
      exact absurd H (by simp)
    subst c164
    have H1 : ((laws_sameInts.f k t1247 t1258).bind fun t1266 => (if t1266 = true then ((laws_sameEpochs.f k t1240 t1241 t1244 t1251 t1252 t1255).bind fun t1267 => (if t1267 = true then ((impl_EpochsOk.f k t1150 t1151 t1154).bind fun t1268 => ((spec_EpochsOk.f k t1150 t1151 t1154).bind fun t1269 => (if (t1268 == t1269) = true then ((impl_EpochsNew.f 9).bind fun bt1270 => (some ((bt1270.2.1.length : Int) == 4))) else (none)))) else (none))) else (none))) = some r := by rw [if_pos rfl] at H; exact H
    clear H
    have H := H1
    clear H1
    replace H := Option.bind_eq_some_iff.mp H
    obtain ⟨t1266, A1650, H⟩ := H
    replace H : (if t1266 = true then ((laws_sameEpochs.f k t1240 t1241 t1244 t1251 t1252 t1255).bind fun t1267 => (if t1267 = true then ((impl_EpochsOk.f k t1150 t1151 t1154).bind fun t1268 => ((spec_EpochsOk.f k t1150 t1151 t1154).bind fun t1269 => (if (t1268 == t1269) = true then ((impl_EpochsNew.f 9).bind fun bt1270 => (some ((bt1270.2.1.length : Int) == 4))) else (none)))) else (none))) else (none)) = some r := H
    have A165 := Aside0.mk A1650
    clear A1650
    by_cases c166 : t1266 = true
    rotate_left
    · replace c166 := Bool.eq_false_iff.mpr c166
      subst c166
      have H1 : (none) = some r := by rw [if_neg (show ¬ (false = true) by decide)] at H; exact H
      clear H
      have H := H1
      clear H1
      exact absurd H (by simp)
    subst c166
    have H1 : ((laws_sameEpochs.f k t1240 t1241 t1244 t1251 t1252 t1255).bind fun t1267 => (if t1267 = true then ((impl_EpochsOk.f k t1150 t1151 t1154).bind fun t1268 => ((spec_EpochsOk.f k t1150 t1151 t1154).bind fun t1269 => (if (t1268 == t1269) = true then ((impl_EpochsNew.f 9).bind fun bt1270 => (some ((bt1270.2.1.length : Int) == 4))) else (none)))) else (none))) = some r := by rw [if_pos rfl] at H; exact H
    clear H
    have H := H1
    clear H1
    replace H := Option.bind_eq_some_iff.mp H
    obtain ⟨t1267, A1670, H⟩ := H
    replace H : (if t1267 = true then ((impl_EpochsOk.f k t1150 t1151 t1154).bind fun t1268 => ((spec_EpochsOk.f k t1150 t1151 t1154).bind fun t1269 => (if (t1268 == t1269) = true then ((impl_EpochsNew.f 9).bind fun bt1270 => (some ((bt1270.2.1.length : Int) == 4))) else (none)))) else (none)) = some r := H
    have A167 := Aside0.mk A1670
    clear A1670
    by_cases c168 : t1267 = true
    rotate_left
    · replace c168 := Bool.eq_false_iff.mpr c168
      subst c168
      have H1 : (none) = some r := by rw [if_neg (show ¬ (false = true) by decide)] at H; exact H
      clear H
      have H := H1
      clear H1
      exact absurd H (by simp)
    subst c168
    have H1 : ((impl_EpochsOk.f k t1150 t1151 t1154).bind fun t1268 => ((spec_EpochsOk.f k t1150 t1151 t1154).bind fun t1269 => (if (t1268 == t1269) = true then ((impl_EpochsNew.f 9).bind fun bt1270 => (some ((bt1270.2.1.length : Int) == 4))) else (none)))) = some r := by rw [if_pos rfl] at H; exact H
    clear H
    have H := H1
    clear H1
    replace H := Option.bind_eq_some_iff.mp H
    obtain ⟨t1268, A1690, H⟩ := H
    replace H : ((spec_EpochsOk.f k t1150 t1151 t1154).bind fun t1269 => (if (t1268 == t1269) = true then ((impl_EpochsNew.f 9).bind fun bt1270 => (some ((bt1270.2.1.length : Int) == 4))) else (none))) = some r := H
    have A169 := Aside0.mk A1690
    clear A1690
    replace H := Option.bind_eq_some_iff.mp H
    obtain ⟨t1269, A1700, H⟩ := H
    replace H : (if (t1268 == t1269) = true then ((impl_EpochsNew.f 9).bind fun bt1270 => (some ((bt1270.2.1.length : Int) == 4))) else (none)) = some r := H
    have A170 := Aside0.mk A1700
    clear A1700
    by_cases c171 : (t1268 == t1269) = true
    rotate_left
    · rw [if_neg c171] at H
      have c171b0 : (t1268 == t1269) = false := by simpa using c171
      (try (have c171b1 : decide (t1268 = t1269) = false := by simpa using c171))
      (try (have c171b2 : (t1268 == t1269) = false := by simpa using c171))
      (try (have c171b3 : ¬ (t1268 = t1269) := by simpa using c171))
      clear c171
      exact absurd H (by simp)
    rw [if_pos c171] at H
    have c171b0 : (t1268 == t1269) = true := c171
    (try (have c171b1 : decide (t1268 = t1269) = true := by simpa using c171))
    (try (have c171b2 : (t1268 == t1269) = true := by simpa using c171))
    clear c171
    replace H := Option.bind_eq_some_iff.mp H
    obtain ⟨⟨t1270, t1271, t1274⟩, A1720, H⟩ := H
    replace H : (some ((t1271.length : Int) == 4)) = some r := H
    have A172 := Aside0.mk A1720
    clear A1720
    obtain rfl := Option.some.inj H
    try go_wp2
    have hu : Below w136.heap.size w136 (((w137.setCell ⟨gb1261, 0, none⟩ (.int .i64 t1251)).setCell ⟨gb1261, 1, none⟩ (.slice Ao150 t1252.length co150)).setCell ⟨gb1261, 2, none⟩ (.slice Ao151 t1255.length co151)) := by repeat (first | (with_reducible first | exact X.out | apply pw_below_drewN | apply below_drew1 | refine below_set ?_ G.out) | exact X.out)
    replace E1158 := Aside0.mk (Ep.up E1158.out hu)
    replace E1167 := Aside0.mk (Ep.up E1167.out hu)
    replace E1176 := Aside0.mk (Ep.up E1176.out hu)
    replace E1185 := Aside0.mk (Ep.up E1185.out hu)
    replace E1194 := Aside0.mk (Ep.up E1194.out hu)
    replace E1203 := Aside0.mk (Ep.up E1203.out hu)
    replace E1212 := Aside0.mk (Ep.up E1212.out hu)
    replace E1221 := Aside0.mk (Ep.up E1221.out hu)
    replace E1230 := Aside0.mk (Ep.up E1230.out hu)
    replace E1239 := Aside0.mk (Ep.up E1239.out hu)
    replace E1250 := Aside0.mk (Ep.up E1250.out hu)
    replace L1249 := Aside0.mk (Ls.up L1249.out hu)
    replace L1260 := Aside0.mk (Ls.up L1260.out hu)
    have E1261 : Aside0 (Ep (((w137.setCell ⟨gb1261, 0, none⟩ (.int .i64 t1251)).setCell ⟨gb1261, 1, none⟩ (.slice Ao150 t1252.length co150)).setCell ⟨gb1261, 2, none⟩ (.slice Ao151 t1255.length co151)) gb1261 t1251 Ao150 co150 t1252 Ao151 co151 t1255) := Aside0.mk (Ep.put3 BK.out G.out X.out RA.out KA.out RB.out KB.out)
    replace HB := Aside0.mk (below_step HB.out hu)
    clear hu BK G X RA KA RB KB
    have EA : Aside0 (Stay (fun W_ => Ep W_ gb1158 t1150 Ao21 co21 t1151 Ao22 co22 t1154 ∧ Ep W_ gb1167 t1159 Ao27 co27 t1160 Ao28 co28 t1163 ∧ Ep W_ gb1176 t1168 Ao35 co35 t1169 Ao36 co36 t1172 ∧ Ep W_ gb1185 t1177 Ao44 co44 t1178 Ao45 co45 t1181 ∧ Ep W_ gb1194 t1186 Ao54 co54 t1187 Ao55 co55 t1190 ∧ Ep W_ gb1203 t1195 Ao64 co64 t1196 Ao65 co65 t1199 ∧ Ep W_ gb1212 t1204 Ao75 co75 t1205 Ao76 co76 t1208 ∧ Ep W_ gb1221 t1213 Ao88 co88 t1214 Ao89 co89 t1217 ∧ Ep W_ gb1230 t1222 Ao102 co102 t1223 Ao103 co103 t1226 ∧ Ep W_ gb1239 t1231 Ao117 co117 t1232 Ao118 co118 t1235 ∧ Ep W_ gb1250 t1240 Ao133 co133 t1241 Ao134 co134 t1244 ∧ Ep W_ gb1261 t1251 Ao150 co150 t1252 Ao151 co151 t1255 ∧ Ls W_ Ao179 co179 t1247 ∧ Ls W_ Ao180 co180 t1258) (((w137.setCell ⟨gb1261, 0, none⟩ (.int .i64 t1251)).setCell ⟨gb1261, 1, none⟩ (.slice Ao150 t1252.length co150)).setCell ⟨gb1261, 2, none⟩ (.slice Ao151 t1255.length co151))) := Aside0.mk (fun W_ h_ => ⟨Ep.up E1158.out h_, Ep.up E1167.out h_, Ep.up E1176.out h_, Ep.up E1185.out h_, Ep.up E1194.out h_, Ep.up E1203.out h_, Ep.up E1212.out h_, Ep.up E1221.out h_, Ep.up E1230.out h_, Ep.up E1239.out h_, Ep.up E1250.out h_, Ep.up E1261.out h_, Ls.up L1249.out h_, Ls.up L1260.out h_⟩)
    clear E1158 E1167 E1176 E1185 E1194 E1203 E1212 E1221 E1230 E1239 E1250 E1261 L1249 L1260
    generalize (((w137.setCell ⟨gb1261, 0, none⟩ (.int .i64 t1251)).setCell ⟨gb1261, 1, none⟩ (.slice Ao150 t1252.length co150)).setCell ⟨gb1261, 2, none⟩ (.slice Ao151 t1255.length co151)) = w173 at EA HB ⊢
    replace EA := Aside0.mk (Stay.drew EA.out)
    replace HB := Aside0.mk (below_drew1 HB.out)
    have hS : Aside0 (∀ w', Stay (fun W_ => Ep W_ gb1158 t1150 Ao21 co21 t1151 Ao22 co22 t1154 ∧ Ep W_ gb1167 t1159 Ao27 co27 t1160 Ao28 co28 t1163 ∧ Ep W_ gb1176 t1168 Ao35 co35 t1169 Ao36 co36 t1172 ∧ Ep W_ gb1185 t1177 Ao44 co44 t1178 Ao45 co45 t1181 ∧ Ep W_ gb1194 t1186 Ao54 co54 t1187 Ao55 co55 t1190 ∧ Ep W_ gb1203 t1195 Ao64 co64 t1196 Ao65 co65 t1199 ∧ Ep W_ gb1212 t1204 Ao75 co75 t1205 Ao76 co76 t1208 ∧ Ep W_ gb1221 t1213 Ao88 co88 t1214 Ao89 co89 t1217 ∧ Ep W_ gb1230 t1222 Ao102 co102 t1223 Ao103 co103 t1226 ∧ Ep W_ gb1239 t1231 Ao117 co117 t1232 Ao118 co118 t1235 ∧ Ep W_ gb1250 t1240 Ao133 co133 t1241 Ao134 co134 t1244 ∧ Ep W_ gb1261 t1251 Ao150 co150 t1252 Ao151 co151 t1255 ∧ Ls W_ Ao179 co179 t1247 ∧ Ls W_ Ao180 co180 t1258) w' → w'.cell? ⟨gb1167, 0, none⟩ = some (.int .i64 t1159) ∧ w'.cell? ⟨gb1167, 1, none⟩ = some (.slice Ao27 t1160.length co27) ∧ w'.cell? ⟨gb1167, 2, none⟩ = some (.slice Ao28 t1163.length co28) ∧ w'.cell? ⟨gb1176, 0, none⟩ = some (.int .i64 t1168) ∧ w'.cell? ⟨gb1176, 1, none⟩ = some (.slice Ao35 t1169.length co35) ∧ w'.cell? ⟨gb1176, 2, none⟩ = some (.slice Ao36 t1172.length co36) ∧ w'.cell? ⟨gb1185, 0, none⟩ = some (.int .i64 t1177) ∧ w'.cell? ⟨gb1185, 1, none⟩ = some (.slice Ao44 t1178.length co44) ∧ w'.cell? ⟨gb1185, 2, none⟩ = some (.slice Ao45 t1181.length co45) ∧ w'.cell? ⟨gb1194, 0, none⟩ = some (.int .i64 t1186) ∧ w'.cell? ⟨gb1194, 1, none⟩ = some (.slice Ao54 t1187.length co54) ∧ w'.cell? ⟨gb1194, 2, none⟩ = some (.slice Ao55 t1190.length co55) ∧ w'.cell? ⟨gb1212, 0, none⟩ = some (.int .i64 t1204) ∧ w'.cell? ⟨gb1212, 1, none⟩ = some (.slice Ao75 t1205.length co75) ∧ w'.cell? ⟨gb1212, 2, none⟩ = some (.slice Ao76 t1208.length co76) ∧ w'.cell? ⟨gb1221, 0, none⟩ = some (.int .i64 t1213) ∧ w'.cell? ⟨gb1221, 1, none⟩ = some (.slice Ao88 t1214.length co88) ∧ w'.cell? ⟨gb1221, 2, none⟩ = some (.slice Ao89 t1217.length co89) ∧ w'.cell? ⟨gb1230, 0, none⟩ = some (.int .i64 t1222) ∧ w'.cell? ⟨gb1230, 1, none⟩ = some (.slice Ao102 t1223.length co102) ∧ w'.cell? ⟨gb1230, 2, none⟩ = some (.slice Ao103 t1226.length co103) ∧ w'.cell? ⟨gb1239, 0, none⟩ = some (.int .i64 t1231) ∧ w'.cell? ⟨gb1239, 1, none⟩ = some (.slice Ao117 t1232.length co117) ∧ w'.cell? ⟨gb1239, 2, none⟩ = some (.slice Ao118 t1235.length co118) ∧ w'.cell? ⟨gb1250, 0, none⟩ = some (.int .i64 t1240) ∧ w'.cell? ⟨gb1250, 1, none⟩ = some (.slice Ao133 t1241.length co133) ∧ w'.cell? ⟨gb1250, 2, none⟩ = some (.slice Ao134 t1244.length co134) ∧ w'.cell? ⟨gb1261, 0, none⟩ = some (.int .i64 t1251) ∧ w'.cell? ⟨gb1261, 1, none⟩ = some (.slice Ao150 t1252.length co150) ∧ w'.cell? ⟨gb1261, 2, none⟩ = some (.slice Ao151 t1255.length co151) ∧ w'.cell? ⟨gb1158, 0, none⟩ = some (.int .i64 t1150) ∧ w'.cell? ⟨gb1158, 1, none⟩ = some (.slice Ao21 t1151.length co21) ∧ w'.cell? ⟨gb1158, 2, none⟩ = some (.slice Ao22 t1154.length co22)) := Aside0.mk (fun w' h_ => ⟨(blk_cell h_.at_.2.1.b 0).trans rfl, (blk_cell h_.at_.2.1.b 1).trans rfl, (blk_cell h_.at_.2.1.b 2).trans rfl, (blk_cell h_.at_.2.2.1.b 0).trans rfl, (blk_cell h_.at_.2.2.1.b 1).trans rfl, (blk_cell h_.at_.2.2.1.b 2).trans rfl, (blk_cell h_.at_.2.2.2.1.b 0).trans rfl, (blk_cell h_.at_.2.2.2.1.b 1).trans rfl, (blk_cell h_.at_.2.2.2.1.b 2).trans rfl, (blk_cell h_.at_.2.2.2.2.1.b 0).trans rfl, (blk_cell h_.at_.2.2.2.2.1.b 1).trans rfl, (blk_cell h_.at_.2.2.2.2.1.b 2).trans rfl, (blk_cell h_.at_.2.2.2.2.2.2.1.b 0).trans rfl, (blk_cell h_.at_.2.2.2.2.2.2.1.b 1).trans rfl, (blk_cell h_.at_.2.2.2.2.2.2.1.b 2).trans rfl, (blk_cell h_.at_.2.2.2.2.2.2.2.1.b 0).trans rfl, (blk_cell h_.at_.2.2.2.2.2.2.2.1.b 1).trans rfl, (blk_cell h_.at_.2.2.2.2.2.2.2.1.b 2).trans rfl, (blk_cell h_.at_.2.2.2.2.2.2.2.2.1.b 0).trans rfl, (blk_cell h_.at_.2.2.2.2.2.2.2.2.1.b 1).trans rfl, (blk_cell h_.at_.2.2.2.2.2.2.2.2.1.b 2).trans rfl, (blk_cell h_.at_.2.2.2.2.2.2.2.2.2.1.b 0).trans rfl, (blk_cell h_.at_.2.2.2.2.2.2.2.2.2.1.b 1).trans rfl, (blk_cell h_.at_.2.2.2.2.2.2.2.2.2.1.b 2).trans rfl, (blk_cell h_.at_.2.2.2.2.2.2.2.2.2.2.1.b 0).trans rfl, (blk_cell h_.at_.2.2.2.2.2.2.2.2.2.2.1.b 1).trans rfl, (blk_cell h_.at_.2.2.2.2.2.2.2.2.2.2.1.b 2).trans rfl, (blk_cell h_.at_.2.2.2.2.2.2.2.2.2.2.2.1.b 0).trans rfl, (blk_cell h_.at_.2.2.2.2.2.2.2.2.2.2.2.1.b 1).trans rfl, (blk_cell h_.at_.2.2.2.2.2.2.2.2.2.2.2.1.b 2).trans rfl, (blk_cell h_.at_.1.b 0).trans rfl, (blk_cell h_.at_.1.b 1).trans rfl, (blk_cell h_.at_.1.b 2).trans rfl⟩)
    refine start_ (n := 70) (S := fun w' => w'.cell? ⟨gb1167, 0, none⟩ = some (.int .i64 t1159) ∧ w'.cell? ⟨gb1167, 1, none⟩ = some (.slice Ao27 t1160.length co27) ∧ w'.cell? ⟨gb1167, 2, none⟩ = some (.slice Ao28 t1163.length co28) ∧ w'.cell? ⟨gb1176, 0, none⟩ = some (.int .i64 t1168) ∧ w'.cell? ⟨gb1176, 1, none⟩ = some (.slice Ao35 t1169.length co35) ∧ w'.cell? ⟨gb1176, 2, none⟩ = some (.slice Ao36 t1172.length co36) ∧ w'.cell? ⟨gb1185, 0, none⟩ = some (.int .i64 t1177) ∧ w'.cell? ⟨gb1185, 1, none⟩ = some (.slice Ao44 t1178.length co44) ∧ w'.cell? ⟨gb1185, 2, none⟩ = some (.slice Ao45 t1181.length co45) ∧ w'.cell? ⟨gb1194, 0, none⟩ = some (.int .i64 t1186) ∧ w'.cell? ⟨gb1194, 1, none⟩ = some (.slice Ao54 t1187.length co54) ∧ w'.cell? ⟨gb1194, 2, none⟩ = some (.slice Ao55 t1190.length co55) ∧ w'.cell? ⟨gb1212, 0, none⟩ = some (.int .i64 t1204) ∧ w'.cell? ⟨gb1212, 1, none⟩ = some (.slice Ao75 t1205.length co75) ∧ w'.cell? ⟨gb1212, 2, none⟩ = some (.slice Ao76 t1208.length co76) ∧ w'.cell? ⟨gb1221, 0, none⟩ = some (.int .i64 t1213) ∧ w'.cell? ⟨gb1221, 1, none⟩ = some (.slice Ao88 t1214.length co88) ∧ w'.cell? ⟨gb1221, 2, none⟩ = some (.slice Ao89 t1217.length co89) ∧ w'.cell? ⟨gb1230, 0, none⟩ = some (.int .i64 t1222) ∧ w'.cell? ⟨gb1230, 1, none⟩ = some (.slice Ao102 t1223.length co102) ∧ w'.cell? ⟨gb1230, 2, none⟩ = some (.slice Ao103 t1226.length co103) ∧ w'.cell? ⟨gb1239, 0, none⟩ = some (.int .i64 t1231) ∧ w'.cell? ⟨gb1239, 1, none⟩ = some (.slice Ao117 t1232.length co117) ∧ w'.cell? ⟨gb1239, 2, none⟩ = some (.slice Ao118 t1235.length co118) ∧ w'.cell? ⟨gb1250, 0, none⟩ = some (.int .i64 t1240) ∧ w'.cell? ⟨gb1250, 1, none⟩ = some (.slice Ao133 t1241.length co133) ∧ w'.cell? ⟨gb1250, 2, none⟩ = some (.slice Ao134 t1244.length co134) ∧ w'.cell? ⟨gb1261, 0, none⟩ = some (.int .i64 t1251) ∧ w'.cell? ⟨gb1261, 1, none⟩ = some (.slice Ao150 t1252.length co150) ∧ w'.cell? ⟨gb1261, 2, none⟩ = some (.slice Ao151 t1255.length co151) ∧ w'.cell? ⟨gb1158, 0, none⟩ = some (.int .i64 t1150) ∧ w'.cell? ⟨gb1158, 1, none⟩ = some (.slice Ao21 t1151.length co21) ∧ w'.cell? ⟨gb1158, 2, none⟩ = some (.slice Ao22 t1154.length co22)) (ds := []) (laws_FnEpochs.d 0) (by kernel_rfl) rfl rfl (hS.out _ EA.out) (fun hHeld => ?_); refine with_tabW laws_FnEpochs.tab15 laws_FnEpochs.bits15 (fun HT_ HW_ => ?_)
    generalize w173.drew = w174 at EA HB hHeld ⊢
    refine pure_ (i := 0) (N := some 95) (v := ?_) (a' := ?_) (laws_FnEpochs.d 1) rfl rfl (any_of HT_.out (by kernel_rfl)) (fun _ _ _ h => h) (Or.inl ⟨by rfl, ?_⟩) ?_ ?_
    rotate_left
    · intro w'
      go_simp
      with_reducible rfl
    rotate_left
    · simp only [Act.put, List.setIfInBounds_toArray, List.set_cons_zero, List.set_cons_succ, i64_w, i32_w]
      rfl
    refine pure_ (i := 1) (N := some 96) (v := ?_) (a' := ?_) (laws_FnEpochs.d 2) rfl rfl (any_of HT_.out (by kernel_rfl)) (fun _ _ _ h => h) (Or.inl ⟨by rfl, ?_⟩) ?_ ?_
    rotate_left
    · intro w'
      go_simp
      with_reducible rfl
    rotate_left
    · simp only [Act.put, List.setIfInBounds_toArray, List.set_cons_zero, List.set_cons_succ, i64_w, i32_w]
      rfl
    refine pure_ (i := 2) (N := some 97) (v := ?_) (a' := ?_) (laws_FnEpochs.d 3) rfl rfl (any_of HT_.out (by kernel_rfl)) (fun _ _ _ h => h) (Or.inl ⟨by rfl, ?_⟩) ?_ ?_
    rotate_left
    · intro w'
      go_simp
      with_reducible rfl
    rotate_left
    · simp only [Act.put, List.setIfInBounds_toArray, List.set_cons_zero, List.set_cons_succ, i64_w, i32_w]
      rfl
    refine pure_ (i := 3) (N := some 98) (v := ?_) (a' := ?_) (laws_FnEpochs.d 4) rfl rfl (any_of HT_.out (by kernel_rfl)) (fun _ _ _ h => h) (Or.inl ⟨by rfl, ?_⟩) ?_ ?_
    rotate_left
    · intro w'
      go_simp
      with_reducible rfl
    rotate_left
    · simp only [Act.put, List.setIfInBounds_toArray, List.set_cons_zero, List.set_cons_succ, i64_w, i32_w]
      rfl
    refine take_ (i := 4) (N := some 99) (v := ?_) (a' := ?_) (laws_FnEpochs.d 5) rfl rfl (take_ofW HT_.out HW_.out (by kernel_rfl)) (fun _ _ _ h => h) (Or.inl ⟨by rfl, ?_⟩) hHeld ?_ ?_
    rotate_left
    · rintro w' ⟨s0, s1, s2, s3, s4, s5, s6, s7, s8, s9, s10, s11, s12, s13, s14, s15, s16, s17, s18, s19, s20, s21, s22, s23, s24, s25, s26, s27, s28, s29, s30, s31, s32⟩
      go_simp
      with_reducible rfl
    rotate_left
    · simp only [Act.put, List.setIfInBounds_toArray, List.set_cons_zero, List.set_cons_succ, i64_w, i32_w]
      rfl
    refine take_ (i := 5) (N := some 100) (v := ?_) (a' := ?_) (laws_FnEpochs.d 6) rfl rfl (take_ofW HT_.out HW_.out (by kernel_rfl)) (fun _ _ _ h => h) (Or.inl ⟨by rfl, ?_⟩) hHeld ?_ ?_
    rotate_left
    · rintro w' ⟨s0, s1, s2, s3, s4, s5, s6, s7, s8, s9, s10, s11, s12, s13, s14, s15, s16, s17, s18, s19, s20, s21, s22, s23, s24, s25, s26, s27, s28, s29, s30, s31, s32⟩
      go_simp
      with_reducible rfl
    rotate_left
    · simp only [Act.put, List.setIfInBounds_toArray, List.set_cons_zero, List.set_cons_succ, i64_w, i32_w]
      rfl
    refine one_ (i := 6) (N := some 101) (laws_FnEpochs.d 7) rfl rfl (one_of HT_.out (by kernel_rfl)) (by decide) (fun K hK => ?_)
    refine goes_ Try.func41 (by kernel_rfl) rfl #[.agg #[.int .i64 t1159, .slice Ao27 t1160.length co27, .slice Ao28 t1163.length co28], .agg #[.int .i64 t1168, .slice Ao35 t1169.length co35, .slice Ao36 t1172.length co36]] (by rfl) rfl rfl (by (try simp only [List.map_toArray, List.map_cons, List.map_nil]); first | done | rfl | (simp only [List.length_drop, List.length_take]; rfl)) ?_
    with_reducible refine (laws_sameEpochs.calls k t1159 _ _ t1160 _ _ t1163 t1168 _ _ t1169 _ _ t1172 true _ ?side1 ?side2 ?side3 ?side4 ?side5 ?side6 ?side7 ?side8 A153.out).mono ?_
    (case side1 => exact EA.out.at_.2.1.r1)
    (case side2 => exact EA.out.at_.2.1.k1)
    (case side3 => exact EA.out.at_.2.1.r2)
    (case side4 => exact EA.out.at_.2.1.k2)
    (case side5 => exact EA.out.at_.2.2.1.r1)
    (case side6 => exact EA.out.at_.2.2.1.k1)
    (case side7 => exact EA.out.at_.2.2.1.r2)
    (case side8 => exact EA.out.at_.2.2.1.k2)
    rintro e w175 ⟨rfl, hb⟩
    refine ⟨_, rfl, ?_⟩
    replace HB := Aside0.mk (below_step HB.out hb)
    replace EA := Aside0.mk (Stay.up EA.out hb)
    (try clear hb)
    (try clear ho0)
    (try clear ho1)
    refine hK.out _ _ (hS.out _ EA.out) (fun hHeld => ?_)
    clear hK K
    refine norm_ (a' := ?_) ?_ ?_
    rotate_left
    · show Act.put _ (some 101) _ = _
      simp only [Act.put, List.setIfInBounds_toArray, List.set_cons_zero, List.set_cons_succ, i64_w, i32_w]
      rfl
    refine pure_ (i := 7) (N := some 102) (v := ?_) (a' := ?_) (laws_FnEpochs.d 8) rfl rfl (any_of HT_.out (by kernel_rfl)) (fun _ _ _ h => h) (Or.inl ⟨by rfl, ?_⟩) ?_ ?_
    rotate_left
    · intro w'
      go_simp
      with_reducible rfl
    rotate_left
    · simp only [Act.put, List.setIfInBounds_toArray, List.set_cons_zero, List.set_cons_succ, i64_w, i32_w]
      rfl
    refine pure_ (i := 8) (N := some 103) (v := ?_) (a' := ?_) (laws_FnEpochs.d 9) rfl rfl (any_of HT_.out (by kernel_rfl)) (fun _ _ _ h => h) (Or.inl ⟨by rfl, ?_⟩) ?_ ?_
    rotate_left
    · intro w'
      go_simp
      with_reducible rfl
    rotate_left
    · simp only [Act.put, List.setIfInBounds_toArray, List.set_cons_zero, List.set_cons_succ, i64_w, i32_w]
      rfl
    refine pure_ (i := 9) (N := some 104) (v := ?_) (a' := ?_) (laws_FnEpochs.d 10) rfl rfl (any_of HT_.out (by kernel_rfl)) (fun _ _ _ h => h) (Or.inl ⟨by rfl, ?_⟩) ?_ ?_
    rotate_left
    · intro w'
      go_simp
      with_reducible rfl
    rotate_left
    · simp only [Act.put, List.setIfInBounds_toArray, List.set_cons_zero, List.set_cons_succ, i64_w, i32_w]
      rfl
    refine pure_ (i := 10) (N := some 105) (v := ?_) (a' := ?_) (laws_FnEpochs.d 11) rfl rfl (any_of HT_.out (by kernel_rfl)) (fun _ _ _ h => h) (Or.inl ⟨by rfl, ?_⟩) ?_ ?_
    rotate_left
    · intro w'
      go_simp
      with_reducible rfl
    rotate_left
    · simp only [Act.put, List.setIfInBounds_toArray, List.set_cons_zero, List.set_cons_succ, i64_w, i32_w]
      rfl
    refine pure_ (i := 11) (N := some 106) (v := undef) (a' := ?_) (laws_FnEpochs.d 12) rfl rfl (any_of HT_.out (by kernel_rfl)) (fun _ _ _ h => h) (Or.inr ⟨by rfl, rfl⟩) ?_ ?_
    rotate_left
    · simp only [Act.put, List.setIfInBounds_toArray, List.set_cons_zero, List.set_cons_succ, i64_w, i32_w]
      rfl
    refine pure_ (i := 12) (N := some 107) (v := undef) (a' := ?_) (laws_FnEpochs.d 13) rfl rfl (any_of HT_.out (by kernel_rfl)) (fun _ _ _ h => h) (Or.inr ⟨by rfl, rfl⟩) ?_ ?_
    rotate_left
    · simp only [Act.put, List.setIfInBounds_toArray, List.set_cons_zero, List.set_cons_succ, i64_w, i32_w]
      rfl
    refine pure_ (i := 13) (N := some 108) (v := undef) (a' := ?_) (laws_FnEpochs.d 14) rfl rfl (any_of HT_.out (by kernel_rfl)) (fun _ _ _ h => h) (Or.inr ⟨by rfl, rfl⟩) ?_ ?_
    rotate_left
    · simp only [Act.put, List.setIfInBounds_toArray, List.set_cons_zero, List.set_cons_succ, i64_w, i32_w]
      rfl
    refine pure_ (i := 14) (N := some 109) (v := ?_) (a' := ?_) (laws_FnEpochs.d 15) rfl rfl (any_of HT_.out (by kernel_rfl)) (fun _ _ _ h => h) (Or.inl ⟨by rfl, ?_⟩) ?_ ?_
    rotate_left
    · intro w'
      go_simp
      with_reducible rfl
    rotate_left
    · simp only [Act.put, List.setIfInBounds_toArray, List.set_cons_zero, List.set_cons_succ, i64_w, i32_w]
      rfl
    refine pure_ (i := 15) (N := some 110) (v := ?_) (a' := ?_) (laws_FnEpochs.d 16) rfl rfl (any_of HT_.out (by kernel_rfl)) (fun _ _ _ h => h) (Or.inl ⟨by rfl, ?_⟩) ?_ ?_
    rotate_left
    · intro w'
      go_simp
      with_reducible rfl
    rotate_left
    · simp only [Act.put, List.setIfInBounds_toArray, List.set_cons_zero, List.set_cons_succ, i64_w, i32_w]
      rfl
    refine pure_ (i := 16) (N := some 111) (v := ?_) (a' := ?_) (laws_FnEpochs.d 17) rfl rfl (any_of HT_.out (by kernel_rfl)) (fun _ _ _ h => h) (Or.inl ⟨by rfl, ?_⟩) ?_ ?_
    rotate_left
    · intro w'
      go_simp
      with_reducible rfl
    rotate_left
    · simp only [Act.put, List.setIfInBounds_toArray, List.set_cons_zero, List.set_cons_succ, i64_w, i32_w]
      rfl
    refine pure_ (i := 17) (N := some 112) (v := ?_) (a' := ?_) (laws_FnEpochs.d 18) rfl rfl (any_of HT_.out (by kernel_rfl)) (fun _ _ _ h => h) (Or.inl ⟨by rfl, ?_⟩) ?_ ?_
    rotate_left
    · intro w'
      go_simp
      with_reducible rfl
    rotate_left
    · simp only [Act.put, List.setIfInBounds_toArray, List.set_cons_zero, List.set_cons_succ, i64_w, i32_w]
      rfl
    refine pure_ (i := 18) (N := some 113) (v := ?_) (a' := ?_) (laws_FnEpochs.d 19) rfl rfl (any_of HT_.out (by kernel_rfl)) (fun _ _ _ h => h) (Or.inl ⟨by rfl, ?_⟩) ?_ ?_
    rotate_left
    · intro w'
      go_simp
      with_reducible rfl
    rotate_left
    · simp only [Act.put, List.setIfInBounds_toArray, List.set_cons_zero, List.set_cons_succ, i64_w, i32_w]
      rfl
    refine pure_ (i := 19) (N := some 114) (v := ?_) (a' := ?_) (laws_FnEpochs.d 20) rfl rfl (any_of HT_.out (by kernel_rfl)) (fun _ _ _ h => h) (Or.inl ⟨by rfl, ?_⟩) ?_ ?_
    rotate_left
    · intro w'
      go_simp
      with_reducible rfl
    rotate_left
    · simp only [Act.put, List.setIfInBounds_toArray, List.set_cons_zero, List.set_cons_succ, i64_w, i32_w]
      rfl
    refine pure_ (i := 20) (N := some 115) (v := ?_) (a' := ?_) (laws_FnEpochs.d 21) rfl rfl (any_of HT_.out (by kernel_rfl)) (fun _ _ _ h => h) (Or.inl ⟨by rfl, ?_⟩) ?_ ?_
    rotate_left
    · intro w'
      go_simp
      with_reducible rfl
    rotate_left
    · simp only [Act.put, List.setIfInBounds_toArray, List.set_cons_zero, List.set_cons_succ, i64_w, i32_w]
      rfl
    refine pure_ (i := 21) (N := some 116) (v := ?_) (a' := ?_) (laws_FnEpochs.d 22) rfl rfl (any_of HT_.out (by kernel_rfl)) (fun _ _ _ h => h) (Or.inl ⟨by rfl, ?_⟩) ?_ ?_
    rotate_left
    · intro w'
      go_simp
      with_reducible rfl
    rotate_left
    · simp only [Act.put, List.setIfInBounds_toArray, List.set_cons_zero, List.set_cons_succ, i64_w, i32_w]
      rfl
    refine take_ (i := 22) (N := some 117) (v := ?_) (a' := ?_) (laws_FnEpochs.d 23) rfl rfl (take_ofW HT_.out HW_.out (by kernel_rfl)) (fun _ _ _ h => h) (Or.inl ⟨by rfl, ?_⟩) hHeld ?_ ?_
    rotate_left
    · rintro w' ⟨s0, s1, s2, s3, s4, s5, s6, s7, s8, s9, s10, s11, s12, s13, s14, s15, s16, s17, s18, s19, s20, s21, s22, s23, s24, s25, s26, s27, s28, s29, s30, s31, s32⟩
      go_simp
      with_reducible rfl
    rotate_left
    · simp only [Act.put, List.setIfInBounds_toArray, List.set_cons_zero, List.set_cons_succ, i64_w, i32_w]
      rfl
    refine take_ (i := 23) (N := some 118) (v := ?_) (a' := ?_) (laws_FnEpochs.d 24) rfl rfl (take_ofW HT_.out HW_.out (by kernel_rfl)) (fun _ _ _ h => h) (Or.inl ⟨by rfl, ?_⟩) hHeld ?_ ?_
    rotate_left
    · rintro w' ⟨s0, s1, s2, s3, s4, s5, s6, s7, s8, s9, s10, s11, s12, s13, s14, s15, s16, s17, s18, s19, s20, s21, s22, s23, s24, s25, s26, s27, s28, s29, s30, s31, s32⟩
      go_simp
      with_reducible rfl
    rotate_left
    · simp only [Act.put, List.setIfInBounds_toArray, List.set_cons_zero, List.set_cons_succ, i64_w, i32_w]
      rfl
    refine one_ (i := 24) (N := some 119) (laws_FnEpochs.d 25) rfl rfl (one_of HT_.out (by kernel_rfl)) (by decide) (fun K hK => ?_)
    refine goes_ Try.func41 (by kernel_rfl) rfl #[.agg #[.int .i64 t1177, .slice Ao44 t1178.length co44, .slice Ao45 t1181.length co45], .agg #[.int .i64 t1186, .slice Ao54 t1187.length co54, .slice Ao55 t1190.length co55]] (by rfl) rfl rfl (by (try simp only [List.map_toArray, List.map_cons, List.map_nil]); first | done | rfl | (simp only [List.length_drop, List.length_take]; rfl)) ?_
    with_reducible refine (laws_sameEpochs.calls k t1177 _ _ t1178 _ _ t1181 t1186 _ _ t1187 _ _ t1190 true _ ?side1 ?side2 ?side3 ?side4 ?side5 ?side6 ?side7 ?side8 A157.out).mono ?_
    (case side1 => exact EA.out.at_.2.2.2.1.r1)
    (case side2 => exact EA.out.at_.2.2.2.1.k1)
    (case side3 => exact EA.out.at_.2.2.2.1.r2)
    (case side4 => exact EA.out.at_.2.2.2.1.k2)
    (case side5 => exact EA.out.at_.2.2.2.2.1.r1)
    (case side6 => exact EA.out.at_.2.2.2.2.1.k1)
    (case side7 => exact EA.out.at_.2.2.2.2.1.r2)
    (case side8 => exact EA.out.at_.2.2.2.2.1.k2)
    rintro e w176 ⟨rfl, hb⟩
    refine ⟨_, rfl, ?_⟩
    replace HB := Aside0.mk (below_step HB.out hb)
    replace EA := Aside0.mk (Stay.up EA.out hb)
    (try clear hb)
    (try clear ho0)
    (try clear ho1)
    refine hK.out _ _ (hS.out _ EA.out) (fun hHeld => ?_)
    clear hK K
    refine norm_ (a' := ?_) ?_ ?_
    rotate_left
    · show Act.put _ (some 119) _ = _
      simp only [Act.put, List.setIfInBounds_toArray, List.set_cons_zero, List.set_cons_succ, i64_w, i32_w]
      rfl
    refine pure_ (i := 25) (N := some 120) (v := ?_) (a' := ?_) (laws_FnEpochs.d 26) rfl rfl (any_of HT_.out (by kernel_rfl)) (fun _ _ _ h => h) (Or.inl ⟨by rfl, ?_⟩) ?_ ?_
    rotate_left
    · intro w'
      go_simp
      with_reducible rfl
    rotate_left
    · simp only [Act.put, List.setIfInBounds_toArray, List.set_cons_zero, List.set_cons_succ, i64_w, i32_w]
      rfl
    refine pure_ (i := 26) (N := some 121) (v := ?_) (a' := ?_) (laws_FnEpochs.d 27) rfl rfl (any_of HT_.out (by kernel_rfl)) (fun _ _ _ h => h) (Or.inl ⟨by rfl, ?_⟩) ?_ ?_
    rotate_left
    · intro w'
      go_simp
      with_reducible rfl
    rotate_left
    · simp only [Act.put, List.setIfInBounds_toArray, List.set_cons_zero, List.set_cons_succ, i64_w, i32_w]
      rfl
    refine pure_ (i := 27) (N := some 122) (v := ?_) (a' := ?_) (laws_FnEpochs.d 28) rfl rfl (any_of HT_.out (by kernel_rfl)) (fun _ _ _ h => h) (Or.inl ⟨by rfl, ?_⟩) ?_ ?_
    rotate_left
    · intro w'
      go_simp
      with_reducible rfl
    rotate_left
    · simp only [Act.put, List.setIfInBounds_toArray, List.set_cons_zero, List.set_cons_succ, i64_w, i32_w]
      rfl
    refine pure_ (i := 28) (N := some 123) (v := ?_) (a' := ?_) (laws_FnEpochs.d 29) rfl rfl (any_of HT_.out (by kernel_rfl)) (fun _ _ _ h => h) (Or.inl ⟨by rfl, ?_⟩) ?_ ?_
    rotate_left
    · intro w'
      go_simp
      with_reducible rfl
    rotate_left
    · simp only [Act.put, List.setIfInBounds_toArray, List.set_cons_zero, List.set_cons_succ, i64_w, i32_w]
      rfl
    refine pure_ (i := 29) (N := some 124) (v := ?_) (a' := ?_) (laws_FnEpochs.d 30) rfl rfl (any_of HT_.out (by kernel_rfl)) (fun _ _ _ h => h) (Or.inl ⟨by rfl, ?_⟩) ?_ ?_
    rotate_left
    · intro w'
      go_simp
      with_reducible rfl
    rotate_left
    · simp only [Act.put, List.setIfInBounds_toArray, List.set_cons_zero, List.set_cons_succ, i64_w, i32_w]
      rfl
    refine pure_ (i := 30) (N := some 125) (v := ?_) (a' := ?_) (laws_FnEpochs.d 31) rfl rfl (any_of HT_.out (by kernel_rfl)) (fun _ _ _ h => h) (Or.inl ⟨by rfl, ?_⟩) ?_ ?_
    rotate_left
    · intro w'
      go_simp
      with_reducible rfl
    rotate_left
    · simp only [Act.put, List.setIfInBounds_toArray, List.set_cons_zero, List.set_cons_succ, i64_w, i32_w]
      rfl
    refine pure_ (i := 31) (N := some 126) (v := ?_) (a' := ?_) (laws_FnEpochs.d 32) rfl rfl (any_of HT_.out (by kernel_rfl)) (fun _ _ _ h => h) (Or.inl ⟨by rfl, ?_⟩) ?_ ?_
    rotate_left
    · intro w'
      go_simp
      with_reducible rfl
    rotate_left
    · simp only [Act.put, List.setIfInBounds_toArray, List.set_cons_zero, List.set_cons_succ, i64_w, i32_w]
      rfl
    refine take_ (i := 32) (N := some 127) (v := ?_) (a' := ?_) (laws_FnEpochs.d 33) rfl rfl (take_ofW HT_.out HW_.out (by kernel_rfl)) (fun _ _ _ h => h) (Or.inl ⟨by rfl, ?_⟩) hHeld ?_ ?_
    rotate_left
    · rintro w' ⟨s0, s1, s2, s3, s4, s5, s6, s7, s8, s9, s10, s11, s12, s13, s14, s15, s16, s17, s18, s19, s20, s21, s22, s23, s24, s25, s26, s27, s28, s29, s30, s31, s32⟩
      go_simp
      with_reducible rfl
    rotate_left
    · simp only [Act.put, List.setIfInBounds_toArray, List.set_cons_zero, List.set_cons_succ, i64_w, i32_w]
      rfl
    refine take_ (i := 33) (N := some 128) (v := ?_) (a' := ?_) (laws_FnEpochs.d 34) rfl rfl (take_ofW HT_.out HW_.out (by kernel_rfl)) (fun _ _ _ h => h) (Or.inl ⟨by rfl, ?_⟩) hHeld ?_ ?_
    rotate_left
    · rintro w' ⟨s0, s1, s2, s3, s4, s5, s6, s7, s8, s9, s10, s11, s12, s13, s14, s15, s16, s17, s18, s19, s20, s21, s22, s23, s24, s25, s26, s27, s28, s29, s30, s31, s32⟩
      go_simp
      with_reducible rfl
    rotate_left
    · simp only [Act.put, List.setIfInBounds_toArray, List.set_cons_zero, List.set_cons_succ, i64_w, i32_w]
      rfl
    refine one_ (i := 34) (N := some 129) (laws_FnEpochs.d 35) rfl rfl (one_of HT_.out (by kernel_rfl)) (by decide) (fun K hK => ?_)
    refine goes_ Try.func41 (by kernel_rfl) rfl #[.agg #[.int .i64 t1204, .slice Ao75 t1205.length co75, .slice Ao76 t1208.length co76], .agg #[.int .i64 t1213, .slice Ao88 t1214.length co88, .slice Ao89 t1217.length co89]] (by rfl) rfl rfl (by (try simp only [List.map_toArray, List.map_cons, List.map_nil]); first | done | rfl | (simp only [List.length_drop, List.length_take]; rfl)) ?_
    with_reducible refine (laws_sameEpochs.calls k t1204 _ _ t1205 _ _ t1208 t1213 _ _ t1214 _ _ t1217 true _ ?side1 ?side2 ?side3 ?side4 ?side5 ?side6 ?side7 ?side8 A160.out).mono ?_
    (case side1 => exact EA.out.at_.2.2.2.2.2.2.1.r1)
    (case side2 => exact EA.out.at_.2.2.2.2.2.2.1.k1)
    (case side3 => exact EA.out.at_.2.2.2.2.2.2.1.r2)
    (case side4 => exact EA.out.at_.2.2.2.2.2.2.1.k2)
    (case side5 => exact EA.out.at_.2.2.2.2.2.2.2.1.r1)
    (case side6 => exact EA.out.at_.2.2.2.2.2.2.2.1.k1)
    (case side7 => exact EA.out.at_.2.2.2.2.2.2.2.1.r2)
    (case side8 => exact EA.out.at_.2.2.2.2.2.2.2.1.k2)
    rintro e w177 ⟨rfl, hb⟩
    refine ⟨_, rfl, ?_⟩
    replace HB := Aside0.mk (below_step HB.out hb)
    replace EA := Aside0.mk (Stay.up EA.out hb)
    (try clear hb)
    (try clear ho0)
    (try clear ho1)
    refine hK.out _ _ (hS.out _ EA.out) (fun hHeld => ?_)
    clear hK K
    refine norm_ (a' := ?_) ?_ ?_
    rotate_left
    · show Act.put _ (some 129) _ = _
      simp only [Act.put, List.setIfInBounds_toArray, List.set_cons_zero, List.set_cons_succ, i64_w, i32_w]
      rfl
    refine pure_ (i := 35) (N := some 130) (v := ?_) (a' := ?_) (laws_FnEpochs.d 36) rfl rfl (any_of HT_.out (by kernel_rfl)) (fun _ _ _ h => h) (Or.inl ⟨by rfl, ?_⟩) ?_ ?_
    rotate_left
    · intro w'
      go_simp
      with_reducible rfl
    rotate_left
    · simp only [Act.put, List.setIfInBounds_toArray, List.set_cons_zero, List.set_cons_succ, i64_w, i32_w]
      rfl
    refine pure_ (i := 36) (N := some 131) (v := ?_) (a' := ?_) (laws_FnEpochs.d 37) rfl rfl (any_of HT_.out (by kernel_rfl)) (fun _ _ _ h => h) (Or.inl ⟨by rfl, ?_⟩) ?_ ?_
    rotate_left
    · intro w'
      go_simp
      with_reducible rfl
    rotate_left
    · simp only [Act.put, List.setIfInBounds_toArray, List.set_cons_zero, List.set_cons_succ, i64_w, i32_w]
      rfl
    refine pure_ (i := 37) (N := some 132) (v := ?_) (a' := ?_) (laws_FnEpochs.d 38) rfl rfl (any_of HT_.out (by kernel_rfl)) (fun _ _ _ h => h) (Or.inl ⟨by rfl, ?_⟩) ?_ ?_
    rotate_left
    · intro w'
      go_simp
      with_reducible rfl
    rotate_left
    · simp only [Act.put, List.setIfInBounds_toArray, List.set_cons_zero, List.set_cons_succ, i64_w, i32_w]
      rfl
    refine pure_ (i := 38) (N := some 133) (v := ?_) (a' := ?_) (laws_FnEpochs.d 39) rfl rfl (any_of HT_.out (by kernel_rfl)) (fun _ _ _ h => h) (Or.inl ⟨by rfl, ?_⟩) ?_ ?_
    rotate_left
    · intro w'
      go_simp
      with_reducible rfl
    rotate_left
    · simp only [Act.put, List.setIfInBounds_toArray, List.set_cons_zero, List.set_cons_succ, i64_w, i32_w]
      rfl
    refine pure_ (i := 39) (N := some 134) (v := ?_) (a' := ?_) (laws_FnEpochs.d 40) rfl rfl (any_of HT_.out (by kernel_rfl)) (fun _ _ _ h => h) (Or.inl ⟨by rfl, ?_⟩) ?_ ?_
    rotate_left
    · intro w'
      go_simp
      with_reducible rfl
    rotate_left
    · simp only [Act.put, List.setIfInBounds_toArray, List.set_cons_zero, List.set_cons_succ, i64_w, i32_w]
      rfl
    refine pure_ (i := 40) (N := some 135) (v := ?_) (a' := ?_) (laws_FnEpochs.d 41) rfl rfl (any_of HT_.out (by kernel_rfl)) (fun _ _ _ h => h) (Or.inl ⟨by rfl, ?_⟩) ?_ ?_
    rotate_left
    · intro w'
      go_simp
      with_reducible rfl
    rotate_left
    · simp only [Act.put, List.setIfInBounds_toArray, List.set_cons_zero, List.set_cons_succ, i64_w, i32_w]
      rfl
    refine pure_ (i := 41) (N := some 136) (v := ?_) (a' := ?_) (laws_FnEpochs.d 42) rfl rfl (any_of HT_.out (by kernel_rfl)) (fun _ _ _ h => h) (Or.inl ⟨by rfl, ?_⟩) ?_ ?_
    rotate_left
    · intro w'
      go_simp
      with_reducible rfl
    rotate_left
    · simp only [Act.put, List.setIfInBounds_toArray, List.set_cons_zero, List.set_cons_succ, i64_w, i32_w]
      rfl
    refine take_ (i := 42) (N := some 137) (v := ?_) (a' := ?_) (laws_FnEpochs.d 43) rfl rfl (take_ofW HT_.out HW_.out (by kernel_rfl)) (fun _ _ _ h => h) (Or.inl ⟨by rfl, ?_⟩) hHeld ?_ ?_
    rotate_left
    · rintro w' ⟨s0, s1, s2, s3, s4, s5, s6, s7, s8, s9, s10, s11, s12, s13, s14, s15, s16, s17, s18, s19, s20, s21, s22, s23, s24, s25, s26, s27, s28, s29, s30, s31, s32⟩
      go_simp
      with_reducible rfl
    rotate_left
    · simp only [Act.put, List.setIfInBounds_toArray, List.set_cons_zero, List.set_cons_succ, i64_w, i32_w]
      rfl
    refine take_ (i := 43) (N := some 138) (v := ?_) (a' := ?_) (laws_FnEpochs.d 44) rfl rfl (take_ofW HT_.out HW_.out (by kernel_rfl)) (fun _ _ _ h => h) (Or.inl ⟨by rfl, ?_⟩) hHeld ?_ ?_
    rotate_left
    · rintro w' ⟨s0, s1, s2, s3, s4, s5, s6, s7, s8, s9, s10, s11, s12, s13, s14, s15, s16, s17, s18, s19, s20, s21, s22, s23, s24, s25, s26, s27, s28, s29, s30, s31, s32⟩
      go_simp
      with_reducible rfl
    rotate_left
    · simp only [Act.put, List.setIfInBounds_toArray, List.set_cons_zero, List.set_cons_succ, i64_w, i32_w]
      rfl
    refine one_ (i := 44) (N := some 139) (laws_FnEpochs.d 45) rfl rfl (one_of HT_.out (by kernel_rfl)) (by decide) (fun K hK => ?_)
    refine goes_ Try.func41 (by kernel_rfl) rfl #[.agg #[.int .i64 t1222, .slice Ao102 t1223.length co102, .slice Ao103 t1226.length co103], .agg #[.int .i64 t1231, .slice Ao117 t1232.length co117, .slice Ao118 t1235.length co118]] (by rfl) rfl rfl (by (try simp only [List.map_toArray, List.map_cons, List.map_nil]); first | done | rfl | (simp only [List.length_drop, List.length_take]; rfl)) ?_
    with_reducible refine (laws_sameEpochs.calls k t1222 _ _ t1223 _ _ t1226 t1231 _ _ t1232 _ _ t1235 true _ ?side1 ?side2 ?side3 ?side4 ?side5 ?side6 ?side7 ?side8 A163.out).mono ?_
    (case side1 => exact EA.out.at_.2.2.2.2.2.2.2.2.1.r1)
    (case side2 => exact EA.out.at_.2.2.2.2.2.2.2.2.1.k1)
    (case side3 => exact EA.out.at_.2.2.2.2.2.2.2.2.1.r2)
    (case side4 => exact EA.out.at_.2.2.2.2.2.2.2.2.1.k2)
    (case side5 => exact EA.out.at_.2.2.2.2.2.2.2.2.2.1.r1)
    (case side6 => exact EA.out.at_.2.2.2.2.2.2.2.2.2.1.k1)
    (case side7 => exact EA.out.at_.2.2.2.2.2.2.2.2.2.1.r2)
    (case side8 => exact EA.out.at_.2.2.2.2.2.2.2.2.2.1.k2)
    rintro e w178 ⟨rfl, hb⟩
    refine ⟨_, rfl, ?_⟩
    replace HB := Aside0.mk (below_step HB.out hb)
    replace EA := Aside0.mk (Stay.up EA.out hb)
    (try clear hb)
    (try clear ho0)
    (try clear ho1)
    refine hK.out _ _ (hS.out _ EA.out) (fun hHeld => ?_)
    clear hK K
    refine norm_ (a' := ?_) ?_ ?_
    rotate_left
    · show Act.put _ (some 139) _ = _
      simp only [Act.put, List.setIfInBounds_toArray, List.set_cons_zero, List.set_cons_succ, i64_w, i32_w]
      rfl
    refine pure_ (i := 45) (N := some 140) (v := ?_) (a' := ?_) (laws_FnEpochs.d 46) rfl rfl (any_of HT_.out (by kernel_rfl)) (fun _ _ _ h => h) (Or.inl ⟨by rfl, ?_⟩) ?_ ?_
    rotate_left
    · intro w'
      go_simp
      with_reducible rfl
    rotate_left
    · simp only [Act.put, List.setIfInBounds_toArray, List.set_cons_zero, List.set_cons_succ, i64_w, i32_w]
      rfl
    refine pure_ (i := 46) (N := some 141) (v := ?_) (a' := ?_) (laws_FnEpochs.d 47) rfl rfl (any_of HT_.out (by kernel_rfl)) (fun _ _ _ h => h) (Or.inl ⟨by rfl, ?_⟩) ?_ ?_
    rotate_left
    · intro w'
      go_simp
      with_reducible rfl
    rotate_left
    · simp only [Act.put, List.setIfInBounds_toArray, List.set_cons_zero, List.set_cons_succ, i64_w, i32_w]
      rfl
    refine pure_ (i := 47) (N := some 142) (v := ?_) (a' := ?_) (laws_FnEpochs.d 48) rfl rfl (any_of HT_.out (by kernel_rfl)) (fun _ _ _ h => h) (Or.inl ⟨by rfl, ?_⟩) ?_ ?_
    rotate_left
    · intro w'
      go_simp
      with_reducible rfl
    rotate_left
    · simp only [Act.put, List.setIfInBounds_toArray, List.set_cons_zero, List.set_cons_succ, i64_w, i32_w]
      rfl
    refine pure_ (i := 48) (N := some 143) (v := ?_) (a' := ?_) (laws_FnEpochs.d 49) rfl rfl (any_of HT_.out (by kernel_rfl)) (fun _ _ _ h => h) (Or.inl ⟨by rfl, ?_⟩) ?_ ?_
    rotate_left
    · intro w'
      go_simp
      with_reducible rfl
    rotate_left
    · simp only [Act.put, List.setIfInBounds_toArray, List.set_cons_zero, List.set_cons_succ, i64_w, i32_w]
      rfl
    refine one_ (i := 49) (N := some 144) (laws_FnEpochs.d 50) rfl rfl (one_of HT_.out (by kernel_rfl)) (by decide) (fun K hK => ?_)
    refine goes_ Try.func42 (by kernel_rfl) rfl #[.slice Ao179 t1247.length co179, .slice Ao180 t1258.length co180] (by rfl) rfl rfl (by (try simp only [List.map_toArray, List.map_cons, List.map_nil]); first | done | rfl | (simp only [List.length_drop, List.length_take]; rfl)) ?_
    with_reducible refine (laws_sameInts.calls k _ _ t1247 _ _ t1258 true _ ?side1 ?side2 ?side3 ?side4 A165.out).mono ?_
    (case side1 => exact EA.out.at_.2.2.2.2.2.2.2.2.2.2.2.2.1.r)
    (case side2 => exact EA.out.at_.2.2.2.2.2.2.2.2.2.2.2.2.1.k)
    (case side3 => exact EA.out.at_.2.2.2.2.2.2.2.2.2.2.2.2.2.r)
    (case side4 => exact EA.out.at_.2.2.2.2.2.2.2.2.2.2.2.2.2.k)
    rintro e w' ⟨rfl, ⟨nd, rfl⟩⟩
    refine ⟨_, rfl, ?_⟩
    replace EA := Aside0.mk (Stay.drewN EA.out nd)
    replace HB := Aside0.mk (pw_below_drewN HB.out nd)
    refine hK.out _ _ (hS.out _ EA.out) (fun hHeld => ?_)
    clear hK K
    refine norm_ (a' := ?_) ?_ ?_
    rotate_left
    · show Act.put _ (some 144) _ = _
      simp only [Act.put, List.setIfInBounds_toArray, List.set_cons_zero, List.set_cons_succ, i64_w, i32_w]
      rfl
    refine pure_ (i := 50) (N := some 145) (v := ?_) (a' := ?_) (laws_FnEpochs.d 51) rfl rfl (any_of HT_.out (by kernel_rfl)) (fun _ _ _ h => h) (Or.inl ⟨by rfl, ?_⟩) ?_ ?_
    rotate_left
    · intro w'
      go_simp
      with_reducible rfl
    rotate_left
    · simp only [Act.put, List.setIfInBounds_toArray, List.set_cons_zero, List.set_cons_succ, i64_w, i32_w]
      rfl
    refine pure_ (i := 51) (N := some 146) (v := ?_) (a' := ?_) (laws_FnEpochs.d 52) rfl rfl (any_of HT_.out (by kernel_rfl)) (fun _ _ _ h => h) (Or.inl ⟨by rfl, ?_⟩) ?_ ?_
    rotate_left
    · intro w'
      go_simp
      with_reducible rfl
    rotate_left
    · simp only [Act.put, List.setIfInBounds_toArray, List.set_cons_zero, List.set_cons_succ, i64_w, i32_w]
      rfl
    refine take_ (i := 52) (N := some 147) (v := ?_) (a' := ?_) (laws_FnEpochs.d 53) rfl rfl (take_ofW HT_.out HW_.out (by kernel_rfl)) (fun _ _ _ h => h) (Or.inl ⟨by rfl, ?_⟩) hHeld ?_ ?_
    rotate_left
    · rintro w' ⟨s0, s1, s2, s3, s4, s5, s6, s7, s8, s9, s10, s11, s12, s13, s14, s15, s16, s17, s18, s19, s20, s21, s22, s23, s24, s25, s26, s27, s28, s29, s30, s31, s32⟩
      go_simp
      with_reducible rfl
    rotate_left
    · simp only [Act.put, List.setIfInBounds_toArray, List.set_cons_zero, List.set_cons_succ, i64_w, i32_w]
      rfl
    refine take_ (i := 53) (N := some 148) (v := ?_) (a' := ?_) (laws_FnEpochs.d 54) rfl rfl (take_ofW HT_.out HW_.out (by kernel_rfl)) (fun _ _ _ h => h) (Or.inl ⟨by rfl, ?_⟩) hHeld ?_ ?_
    rotate_left
    · rintro w' ⟨s0, s1, s2, s3, s4, s5, s6, s7, s8, s9, s10, s11, s12, s13, s14, s15, s16, s17, s18, s19, s20, s21, s22, s23, s24, s25, s26, s27, s28, s29, s30, s31, s32⟩
      go_simp
      with_reducible rfl
    rotate_left
    · simp only [Act.put, List.setIfInBounds_toArray, List.set_cons_zero, List.set_cons_succ, i64_w, i32_w]
      rfl
    refine one_ (i := 54) (N := some 149) (laws_FnEpochs.d 55) rfl rfl (one_of HT_.out (by kernel_rfl)) (by decide) (fun K hK => ?_)
    refine goes_ Try.func41 (by kernel_rfl) rfl #[.agg #[.int .i64 t1240, .slice Ao133 t1241.length co133, .slice Ao134 t1244.length co134], .agg #[.int .i64 t1251, .slice Ao150 t1252.length co150, .slice Ao151 t1255.length co151]] (by rfl) rfl rfl (by (try simp only [List.map_toArray, List.map_cons, List.map_nil]); first | done | rfl | (simp only [List.length_drop, List.length_take]; rfl)) ?_
    with_reducible refine (laws_sameEpochs.calls k t1240 _ _ t1241 _ _ t1244 t1251 _ _ t1252 _ _ t1255 true _ ?side1 ?side2 ?side3 ?side4 ?side5 ?side6 ?side7 ?side8 A167.out).mono ?_
    (case side1 => exact EA.out.at_.2.2.2.2.2.2.2.2.2.2.1.r1)
    (case side2 => exact EA.out.at_.2.2.2.2.2.2.2.2.2.2.1.k1)
    (case side3 => exact EA.out.at_.2.2.2.2.2.2.2.2.2.2.1.r2)
    (case side4 => exact EA.out.at_.2.2.2.2.2.2.2.2.2.2.1.k2)
    (case side5 => exact EA.out.at_.2.2.2.2.2.2.2.2.2.2.2.1.r1)
    (case side6 => exact EA.out.at_.2.2.2.2.2.2.2.2.2.2.2.1.k1)
    (case side7 => exact EA.out.at_.2.2.2.2.2.2.2.2.2.2.2.1.r2)
    (case side8 => exact EA.out.at_.2.2.2.2.2.2.2.2.2.2.2.1.k2)
    rintro e w181 ⟨rfl, hb⟩
    refine ⟨_, rfl, ?_⟩
    replace HB := Aside0.mk (below_step HB.out hb)
    replace EA := Aside0.mk (Stay.up EA.out hb)
    (try clear hb)
    (try clear ho0)
    (try clear ho1)
    refine hK.out _ _ (hS.out _ EA.out) (fun hHeld => ?_)
    clear hK K
    refine norm_ (a' := ?_) ?_ ?_
    rotate_left
    · show Act.put _ (some 149) _ = _
      simp only [Act.put, List.setIfInBounds_toArray, List.set_cons_zero, List.set_cons_succ, i64_w, i32_w]
      rfl
    refine pure_ (i := 55) (N := some 150) (v := ?_) (a' := ?_) (laws_FnEpochs.d 56) rfl rfl (any_of HT_.out (by kernel_rfl)) (fun _ _ _ h => h) (Or.inl ⟨by rfl, ?_⟩) ?_ ?_
    rotate_left
    · intro w'
      go_simp
      with_reducible rfl
    rotate_left
    · simp only [Act.put, List.setIfInBounds_toArray, List.set_cons_zero, List.set_cons_succ, i64_w, i32_w]
      rfl
    refine pure_ (i := 56) (N := some 151) (v := ?_) (a' := ?_) (laws_FnEpochs.d 57) rfl rfl (any_of HT_.out (by kernel_rfl)) (fun _ _ _ h => h) (Or.inl ⟨by rfl, ?_⟩) ?_ ?_
    rotate_left
    · intro w'
      go_simp
      with_reducible rfl
    rotate_left
    · simp only [Act.put, List.setIfInBounds_toArray, List.set_cons_zero, List.set_cons_succ, i64_w, i32_w]
      rfl
    refine take_ (i := 57) (N := some 152) (v := ?_) (a' := ?_) (laws_FnEpochs.d 58) rfl rfl (take_ofW HT_.out HW_.out (by kernel_rfl)) (fun _ _ _ h => h) (Or.inl ⟨by rfl, ?_⟩) hHeld ?_ ?_
    rotate_left
    · rintro w' ⟨s0, s1, s2, s3, s4, s5, s6, s7, s8, s9, s10, s11, s12, s13, s14, s15, s16, s17, s18, s19, s20, s21, s22, s23, s24, s25, s26, s27, s28, s29, s30, s31, s32⟩
      go_simp
      with_reducible rfl
    rotate_left
    · simp only [Act.put, List.setIfInBounds_toArray, List.set_cons_zero, List.set_cons_succ, i64_w, i32_w]
      rfl
    refine take_ (i := 59) (N := some 154) (v := ?_) (a' := ?_) #[true, true, true, true, true, true, true, true, true, true, true, true, true, true, true, true, true, true, true, true, true, true, true, true, true, true, true, true, true, true, true, true, true, true, true, true, true, true, true, true, true, true, true, true, true, true, true, true, true, true, true, true, true, true, true, true, true, true, false, true, false, false, false, false, false, false, false, false, false, false] rfl rfl (take_ofW HT_.out HW_.out (by kernel_rfl)) (fun _ _ _ h => h) (Or.inl ⟨by rfl, ?_⟩) hHeld ?_ ?_
    rotate_left
    · rintro w' ⟨s0, s1, s2, s3, s4, s5, s6, s7, s8, s9, s10, s11, s12, s13, s14, s15, s16, s17, s18, s19, s20, s21, s22, s23, s24, s25, s26, s27, s28, s29, s30, s31, s32⟩
      go_simp
      with_reducible rfl
    rotate_left
    · simp only [Act.put, List.setIfInBounds_toArray, List.set_cons_zero, List.set_cons_succ, i64_w, i32_w]
      rfl
    refine one_ (i := 58) (N := some 153) (laws_FnEpochs.d 60) rfl rfl (one_of HT_.out (by kernel_rfl)) (by decide) (fun K hK => ?_)
    refine goes_ Try.func21 (by kernel_rfl) rfl #[.agg #[.int .i64 t1150, .slice Ao21 t1151.length co21, .slice Ao22 t1154.length co22]] (by rfl) rfl rfl (by (try simp only [List.map_toArray, List.map_cons, List.map_nil]); first | done | rfl | (simp only [List.length_drop, List.length_take]; rfl)) ?_
    with_reducible refine (impl_EpochsOk.calls k t1150 _ _ t1151 _ _ t1154 t1268 _ ?side1 ?side2 ?side3 ?side4 A169.out).mono ?_
    (case side1 => exact EA.out.at_.1.r1)
    (case side2 => exact EA.out.at_.1.k1)
    (case side3 => exact EA.out.at_.1.r2)
    (case side4 => exact EA.out.at_.1.k2)
    rintro e w182 ⟨rfl, hb⟩
    refine ⟨_, rfl, ?_⟩
    replace HB := Aside0.mk (below_step HB.out hb)
    replace EA := Aside0.mk (Stay.up EA.out hb)
    (try clear hb)
    (try clear ho0)
    (try clear ho1)
    refine hK.out _ _ (hS.out _ EA.out) (fun hHeld => ?_)
    clear hK K
    refine norm_ (a' := ?_) ?_ ?_
    rotate_left
    · show Act.put _ (some 153) _ = _
      simp only [Act.put, List.setIfInBounds_toArray, List.set_cons_zero, List.set_cons_succ, i64_w, i32_w]
      rfl
    refine one_ (i := 60) (N := some 155) (laws_FnEpochs.d 61) rfl rfl (one_of HT_.out (by kernel_rfl)) (by decide) (fun K hK => ?_)
    refine goes_ Try.func19 (by kernel_rfl) rfl #[.agg #[.int .i64 t1150, .slice Ao21 t1151.length co21, .slice Ao22 t1154.length co22]] (by rfl) rfl rfl (by (try simp only [List.map_toArray, List.map_cons, List.map_nil]); first | done | rfl | (simp only [List.length_drop, List.length_take]; rfl)) ?_
    with_reducible refine (spec_EpochsOk.calls k t1150 _ _ t1151 _ _ t1154 t1269 _ ?side1 ?side2 ?side3 ?side4 A170.out).mono ?_
    (case side1 => exact EA.out.at_.1.r1)
    (case side2 => exact EA.out.at_.1.k1)
    (case side3 => exact EA.out.at_.1.r2)
    (case side4 => exact EA.out.at_.1.k2)
    rintro e w183 ⟨rfl, hb⟩
    refine ⟨_, rfl, ?_⟩
    replace HB := Aside0.mk (below_step HB.out hb)
    replace EA := Aside0.mk (Stay.up EA.out hb)
    (try clear hb)
    (try clear ho0)
    (try clear ho1)
    refine hK.out _ _ (hS.out _ EA.out) (fun hHeld => ?_)
    clear hK K
    refine norm_ (a' := ?_) ?_ ?_
    rotate_left
    · show Act.put _ (some 155) _ = _
      simp only [Act.put, List.setIfInBounds_toArray, List.set_cons_zero, List.set_cons_succ, i64_w, i32_w]
      rfl
    refine pure_ (i := 61) (N := some 156) (v := ?_) (a' := ?_) (laws_FnEpochs.d 62) rfl rfl (any_of HT_.out (by kernel_rfl)) (fun _ _ _ h => h) (Or.inl ⟨by rfl, ?_⟩) ?_ ?_
    rotate_left
    · intro w'
      go_simp
      with_reducible rfl
    rotate_left
    · simp only [Act.put, List.setIfInBounds_toArray, List.set_cons_zero, List.set_cons_succ, i64_w, i32_w]
      rfl
    refine pure_ (i := 62) (N := some 157) (v := ?_) (a' := ?_) (laws_FnEpochs.d 63) rfl rfl (any_of HT_.out (by kernel_rfl)) (fun _ _ _ h => h) (Or.inl ⟨by rfl, ?_⟩) ?_ ?_
    rotate_left
    · intro w'
      go_simp
      with_reducible rfl
    rotate_left
    · simp only [Act.put, List.setIfInBounds_toArray, List.set_cons_zero, List.set_cons_succ, i64_w, i32_w]
      rfl
    refine pure_ (i := 63) (N := some 158) (v := ?_) (a' := ?_) (laws_FnEpochs.d 64) rfl rfl (any_of HT_.out (by kernel_rfl)) (fun _ _ _ h => h) (Or.inl ⟨by rfl, ?_⟩) ?_ ?_
    rotate_left
    · intro w'
      go_simp
      with_reducible rfl
    rotate_left
    · simp only [Act.put, List.setIfInBounds_toArray, List.set_cons_zero, List.set_cons_succ, i64_w, i32_w]
      rfl
    refine one_ (i := 64) (N := some 159) (laws_FnEpochs.d 65) rfl rfl (one_of HT_.out (by kernel_rfl)) (by decide) (fun K hK => ?_)
    refine goes_ Try.func14 (by kernel_rfl) rfl #[.int .i64 9] (by rfl) rfl rfl (by (try simp only [List.map_toArray, List.map_cons, List.map_nil]); first | done | rfl | (simp only [List.length_drop, List.length_take]; rfl)) ?_
    with_reducible refine (impl_EpochsNew.calls 9 t1270 t1271 t1274 _ A172.out).mono ?_
    rintro e w184 ⟨v1272, v1275, rfl, ho0, ho1, hb⟩
    refine ⟨_, rfl, ?_⟩
    replace HB := Aside0.mk (below_step HB.out hb)
    replace EA := Aside0.mk (Stay.up EA.out hb)
    obtain ⟨Ao185, co185, eo185⟩ := Kd.R_slice ho1
    subst eo185
    obtain ⟨Ao186, co186, eo186⟩ := Kd.R_slice ho0
    subst eo186
    (try clear hb)
    (try clear ho0)
    (try clear ho1)
    refine hK.out _ _ (hS.out _ EA.out) (fun hHeld => ?_)
    clear hK K
    refine norm_ (a' := ?_) ?_ ?_
    rotate_left
    · show Act.put _ (some 159) _ = _
      simp only [Act.put, List.setIfInBounds_toArray, List.set_cons_zero, List.set_cons_succ, i64_w, i32_w]
      rfl
    refine pure_ (i := 65) (N := some 160) (v := ?_) (a' := ?_) (laws_FnEpochs.d 66) rfl rfl (any_of HT_.out (by kernel_rfl)) (fun _ _ _ h => h) (Or.inl ⟨by rfl, ?_⟩) ?_ ?_
    rotate_left
    · intro w'
      go_simp
      with_reducible rfl
    rotate_left
    · simp only [Act.put, List.setIfInBounds_toArray, List.set_cons_zero, List.set_cons_succ, i64_w, i32_w]
      rfl
    refine pure_ (i := 66) (N := some 161) (v := ?_) (a' := ?_) (laws_FnEpochs.d 67) rfl rfl (any_of HT_.out (by kernel_rfl)) (fun _ _ _ h => h) (Or.inl ⟨by rfl, ?_⟩) ?_ ?_
    rotate_left
    · intro w'
      go_simp
      with_reducible rfl
    rotate_left
    · simp only [Act.put, List.setIfInBounds_toArray, List.set_cons_zero, List.set_cons_succ, i64_w, i32_w]
      rfl
    refine pure_ (i := 67) (N := some 162) (v := ?_) (a' := ?_) (laws_FnEpochs.d 68) rfl rfl (any_of HT_.out (by kernel_rfl)) (fun _ _ _ h => h) (Or.inl ⟨by rfl, ?_⟩) ?_ ?_
    rotate_left
    · intro w'
      go_simp
      with_reducible rfl
    rotate_left
    · simp only [Act.put, List.setIfInBounds_toArray, List.set_cons_zero, List.set_cons_succ, i64_w, i32_w]
      rfl
    refine pure_ (i := 68) (N := some 163) (v := ?_) (a' := ?_) (laws_FnEpochs.d 69) rfl rfl (any_of HT_.out (by kernel_rfl)) (fun _ _ _ h => h) (Or.inl ⟨by rfl, ?_⟩) ?_ ?_
    rotate_left
    · intro w'
      go_simp
      with_reducible rfl
    rotate_left
    · simp only [Act.put, List.setIfInBounds_toArray, List.set_cons_zero, List.set_cons_succ, i64_w, i32_w]
      rfl
    refine pure_ (i := 69) (N := some 2) (v := ?_) (a' := ?_) (laws_FnEpochs.d 70) rfl rfl (any_of HT_.out (by kernel_rfl)) (fun _ _ _ h => h) (Or.inl ⟨by rfl, ?_⟩) ?_ ?_
    rotate_left
    · intro w'
      go_simp
      with_reducible rfl
    rotate_left
    · simp only [Act.put, List.setIfInBounds_toArray, List.set_cons_zero, List.set_cons_succ, i64_w, i32_w]
      rfl
    refine done_ (done_of HT_.out (by kernel_rfl)) ?_
    try go_wp2
    go_ret
    exact ⟨by first | rfl | (simp [errW_none, errW_some] <;> rfl) | (simp [*, errW_none, errW_some] <;> rfl), by repeat (first | (with_reducible first | exact HB.out | apply pw_below_drewN | apply below_drew1) | exact HB.out)⟩
  · replace c155 := Bool.eq_false_iff.mpr c155
    subst c155
    have H1 : ((laws_sameEpochs.f k t1159 t1160 t1163 t1150 t1151 t1154).bind fun t1277 => (if t1277 = true then (if (t1184 == t1193) = true then ((laws_sameEpochs.f k t1177 t1178 t1181 t1186 t1187 t1190).bind fun t1278 => (if t1278 = true then (if (t1211 == t1220) = true then ((laws_sameEpochs.f k t1204 t1205 t1208 t1213 t1214 t1217).bind fun t1279 => (if t1279 = true then (if (t1229 == t1238) = true then ((laws_sameEpochs.f k t1222 t1223 t1226 t1231 t1232 t1235).bind fun t1280 => (if t1280 = true then ((laws_sameInts.f k t1247 t1258).bind fun t1281 => (if t1281 = true then ((laws_sameEpochs.f k t1240 t1241 t1244 t1251 t1252 t1255).bind fun t1282 => (if t1282 = true then ((impl_EpochsOk.f k t1150 t1151 t1154).bind fun t1283 => ((spec_EpochsOk.f k t1150 t1151 t1154).bind fun t1284 => (if (t1283 == t1284) = true then ((impl_EpochsNew.f 9).bind fun bt1285 => (some ((bt1285.2.1.length : Int) == 4))) else (none)))) else (none))) else (none))) else (none))) else (none)) else (none))) else (none)) else (none))) else (none)) else (none))) = some r := by rw [if_neg (show ¬ (false = true) by decide)] at H; exact H
    clear H
    have H := H1
    clear H1
    replace H := Option.bind_eq_some_iff.mp H
    obtain ⟨t1277, A1870, H⟩ := H
    replace H : (if t1277 = true then (if (t1184 == t1193) = true then ((laws_sameEpochs.f k t1177 t1178 t1181 t1186 t1187 t1190).bind fun t1278 => (if t1278 = true then (if (t1211 == t1220) = true then ((laws_sameEpochs.f k t1204 t1205 t1208 t1213 t1214 t1217).bind fun t1279 => (if t1279 = true then (if (t1229 == t1238) = true then ((laws_sameEpochs.f k t1222 t1223 t1226 t1231 t1232 t1235).bind fun t1280 => (if t1280 = true then ((laws_sameInts.f k t1247 t1258).bind fun t1281 => (if t1281 = true then ((laws_sameEpochs.f k t1240 t1241 t1244 t1251 t1252 t1255).bind fun t1282 => (if t1282 = true then ((impl_EpochsOk.f k t1150 t1151 t1154).bind fun t1283 => ((spec_EpochsOk.f k t1150 t1151 t1154).bind fun t1284 => (if (t1283 == t1284) = true then ((impl_EpochsNew.f 9).bind fun bt1285 => (some ((bt1285.2.1.length : Int) == 4))) else (none)))) else (none))) else (none))) else (none))) else (none)) else (none))) else (none)) else (none))) else (none)) else (none)) = some r := H
    have A187 := Aside0.mk A1870
    clear A1870
    by_cases c188 : t1277 = true
    rotate_left
    · replace c188 := Bool.eq_false_iff.mpr c188
      subst c188
      have H1 : (none) = some r := by rw [if_neg (show ¬ (false = true) by decide)] at H; exact H
      clear H
      have H := H1
      clear H1
      exact absurd H (by simp)
    subst c188
    have H1 : (if (t1184 == t1193) = true then ((laws_sameEpochs.f k t1177 t1178 t1181 t1186 t1187 t1190).bind fun t1278 => (if t1278 = true then (if (t1211 == t1220) = true then ((laws_sameEpochs.f k t1204 t1205 t1208 t1213 t1214 t1217).bind fun t1279 => (if t1279 = true then (if (t1229 == t1238) = true then ((laws_sameEpochs.f k t1222 t1223 t1226 t1231 t1232 t1235).bind fun t1280 => (if t1280 = true then ((laws_sameInts.f k t1247 t1258).bind fun t1281 => (if t1281 = true then ((laws_sameEpochs.f k t1240 t1241 t1244 t1251 t1252 t1255).bind fun t1282 => (if t1282 = true then ((impl_EpochsOk.f k t1150 t1151 t1154).bind fun t1283 => ((spec_EpochsOk.f k t1150 t1151 t1154).bind fun t1284 => (if (t1283 == t1284) = true then ((impl_EpochsNew.f 9).bind fun bt1285 => (some ((bt1285.2.1.length : Int) == 4))) else (none)))) else (none))) else (none))) else (none))) else (none)) else (none))) else (none)) else (none))) else (none)) = some r := by rw [if_pos rfl] at H; exact H
    clear H
    have H := H1
    clear H1
    by_cases c189 : (t1184 == t1193) = true
    rotate_left
    · rw [if_neg c189] at H
      have c189b0 : (t1184 == t1193) = false := by simpa using c189
      (try (have c189b1 : decide (t1184 = t1193) = false := by simpa using c189))
      (try (have c189b2 : (t1184 == t1193) = false := by simpa using c189))
      (try (have c189b3 : ¬ (t1184 = t1193) := by simpa using c189))
      clear c189
      exact absurd H (by simp)
    rw [if_pos c189] at H
    have c189b0 : (t1184 == t1193) = true := c189
    (try (have c189b1 : decide (t1184 = t1193) = true := by simpa using c189))
    (try (have c189b2 : (t1184 == t1193) = true := by simpa using c189))
    clear c189
    replace H := Option.bind_eq_some_iff.mp H
    obtain ⟨t1278, A1900, H⟩ := H
    replace H : (if t1278 = true then (if (t1211 == t1220) = true then ((laws_sameEpochs.f k t1204 t1205 t1208 t1213 t1214 t1217).bind fun t1279 => (if t1279 = true then (if (t1229 == t1238) = true then ((laws_sameEpochs.f k t1222 t1223 t1226 t1231 t1232 t1235).bind fun t1280 => (if t1280 = true then ((laws_sameInts.f k t1247 t1258).bind fun t1281 => (if t1281 = true then ((laws_sameEpochs.f k t1240 t1241 t1244 t1251 t1252 t1255).bind fun t1282 => (if t1282 = true then ((impl_EpochsOk.f k t1150 t1151 t1154).bind fun t1283 => ((spec_EpochsOk.f k t1150 t1151 t1154).bind fun t1284 => (if (t1283 == t1284) = true then ((impl_EpochsNew.f 9).bind fun bt1285 => (some ((bt1285.2.1.length : Int) == 4))) else (none)))) else (none))) else (none))) else (none))) else (none)) else (none))) else (none)) else (none)) = some r := H
    have A190 := Aside0.mk A1900
    clear A1900
    by_cases c191 : t1278 = true
    rotate_left
    · replace c191 := Bool.eq_false_iff.mpr c191
      subst c191
      have H1 : (none) = some r := by rw [if_neg (show ¬ (false = true) by decide)] at H; exact H
      clear H
      have H := H1
      clear H1
      exact absurd H (by simp)
    subst c191
    have H1 : (if (t1211 == t1220) = true then ((laws_sameEpochs.f k t1204 t1205 t1208 t1213 t1214 t1217).bind fun t1279 => (if t1279 = true then (if (t1229 == t1238) = true then ((laws_sameEpochs.f k t1222 t1223 t1226 t1231 t1232 t1235).bind fun t1280 => (if t1280 = true then ((laws_sameInts.f k t1247 t1258).bind fun t1281 => (if t1281 = true then ((laws_sameEpochs.f k t1240 t1241 t1244 t1251 t1252 t1255).bind fun t1282 => (if t1282 = true then ((impl_EpochsOk.f k t1150 t1151 t1154).bind fun t1283 => ((spec_EpochsOk.f k t1150 t1151 t1154).bind fun t1284 => (if (t1283 == t1284) = true then ((impl_EpochsNew.f 9).bind fun bt1285 => (some ((bt1285.2.1.length : Int) == 4))) else (none)))) else (none))) else (none))) else (none))) else (none)) else (none))) else (none)) = some r := by rw [if_pos rfl] at H; exact H
    clear H
    have H := H1
    clear H1
    by_cases c192 : (t1211 == t1220) = true
    rotate_left
    · rw [if_neg c192] at H
      have c192b0 : (t1211 == t1220) = false := by simpa using c192
      (try (have c192b1 : decide (t1211 = t1220) = false := by simpa using c192))
      (try (have c192b2 : (t1211 == t1220) = false := by simpa using c192))
      (try (have c192b3 : ¬ (t1211 = t1220) := by simpa using c192))
      clear c192
      exact absurd H (by simp)
    rw [if_pos c192] at H
    have c192b0 : (t1211 == t1220) = true := c192
    (try (have c192b1 : decide (t1211 = t1220) = true := by simpa using c192))
    (try (have c192b2 : (t1211 == t1220) = true := by simpa using c192))
    clear c192
    replace H := Option.bind_eq_some_iff.mp H
    obtain ⟨t1279, A1930, H⟩ := H
    replace H : (if t1279 = true then (if (t1229 == t1238) = true then ((laws_sameEpochs.f k t1222 t1223 t1226 t1231 t1232 t1235).bind fun t1280 => (if t1280 = true then ((laws_sameInts.f k t1247 t1258).bind fun t1281 => (if t1281 = true then ((laws_sameEpochs.f k t1240 t1241 t1244 t1251 t1252 t1255).bind fun t1282 => (if t1282 = true then ((impl_EpochsOk.f k t1150 t1151 t1154).bind fun t1283 => ((spec_EpochsOk.f k t1150 t1151 t1154).bind fun t1284 => (if (t1283 == t1284) = true then ((impl_EpochsNew.f 9).bind fun bt1285 => (some ((bt1285.2.1.length : Int) == 4))) else (none)))) else (none))) else (none))) else (none))) else (none)) else (none)) = some r := H
    have A193 := Aside0.mk A1930
    clear A1930
    by_cases c194 : t1279 = true
    rotate_left
    · replace c194 := Bool.eq_false_iff.mpr c194
      subst c194
      have H1 : (none) = some r := by rw [if_neg (show ¬ (false = true) by decide)] at H; exact H
      clear H
      have H := H1
      clear H1
      exact absurd H (by simp)
    subst c194
    have H1 : (if (t1229 == t1238) = true then ((laws_sameEpochs.f k t1222 t1223 t1226 t1231 t1232 t1235).bind fun t1280 => (if t1280 = true then ((laws_sameInts.f k t1247 t1258).bind fun t1281 => (if t1281 = true then ((laws_sameEpochs.f k t1240 t1241 t1244 t1251 t1252 t1255).bind fun t1282 => (if t1282 = true then ((impl_EpochsOk.f k t1150 t1151 t1154).bind fun t1283 => ((spec_EpochsOk.f k t1150 t1151 t1154).bind fun t1284 => (if (t1283 == t1284) = true then ((impl_EpochsNew.f 9).bind fun bt1285 => (some ((bt1285.2.1.length : Int) == 4))) else (none)))) else (none))) else (none))) else (none))) else (none)) = some r := by rw [if_pos rfl] at H; exact H
    clear H
    have H := H1
    clear H1
    by_cases c195 : (t1229 == t1238) = true
    rotate_left
    · rw [if_neg c195] at H
      have c195b0 : (t1229 == t1238) = false := by simpa using c195
      (try (have c195b1 : decide (t1229 = t1238) = false := by simpa using c195))
      (try (have c195b2 : (t1229 == t1238) = false := by simpa using c195))
      (try (have c195b3 : ¬ (t1229 = t1238) := by simpa using c195))
      clear c195
      exact absurd H (by simp)
    rw [if_pos c195] at H
    have c195b0 : (t1229 == t1238) = true := c195
    (try (have c195b1 : decide (t1229 = t1238) = true := by simpa using c195))
    (try (have c195b2 : (t1229 == t1238) = true := by simpa using c195))
    clear c195
    replace H := Option.bind_eq_some_iff.mp H
    obtain ⟨t1280, A1960, H⟩ := H
    replace H : (if t1280 = true then ((laws_sameInts.f k t1247 t1258).bind fun t1281 => (if t1281 = true then ((laws_sameEpochs.f k t1240 t1241 t1244 t1251 t1252 t1255).bind fun t1282 => (if t1282 = true then ((impl_EpochsOk.f k t1150 t1151 t1154).bind fun t1283 => ((spec_EpochsOk.f k t1150 t1151 t1154).bind fun t1284 => (if (t1283 == t1284) = true then ((impl_EpochsNew.f 9).bind fun bt1285 => (some ((bt1285.2.1.length : Int) == 4))) else (none)))) else (none))) else (none))) else (none)) = some r := H
    have A196 := Aside0.mk A1960
    clear A1960
    by_cases c197 : t1280 = true
    rotate_left
    · replace c197 := Bool.eq_false_iff.mpr c197
      subst c197
      have H1 : (none) = some r := by rw [if_neg (show ¬ (false = true) by decide)] at H; exact H
      clear H
      have H := H1
      clear H1
      exact absurd H (by simp)
    subst c197
    have H1 : ((laws_sameInts.f k t1247 t1258).bind fun t1281 => (if t1281 = true then ((laws_sameEpochs.f k t1240 t1241 t1244 t1251 t1252 t1255).bind fun t1282 => (if t1282 = true then ((impl_EpochsOk.f k t1150 t1151 t1154).bind fun t1283 => ((spec_EpochsOk.f k t1150 t1151 t1154).bind fun t1284 => (if (t1283 == t1284) = true then ((impl_EpochsNew.f 9).bind fun bt1285 => (some ((bt1285.2.1.length : Int) == 4))) else (none)))) else (none))) else (none))) = some r := by rw [if_pos rfl] at H; exact H
    clear H
    have H := H1
    clear H1
    replace H := Option.bind_eq_some_iff.mp H
    obtain ⟨t1281, A1980, H⟩ := H
    replace H : (if t1281 = true then ((laws_sameEpochs.f k t1240 t1241 t1244 t1251 t1252 t1255).bind fun t1282 => (if t1282 = true then ((impl_EpochsOk.f k t1150 t1151 t1154).bind fun t1283 => ((spec_EpochsOk.f k t1150 t1151 t1154).bind fun t1284 => (if (t1283 == t1284) = true then ((impl_EpochsNew.f 9).bind fun bt1285 => (some ((bt1285.2.1.length : Int) == 4))) else (none)))) else (none))) else (none)) = some r := H
    have A198 := Aside0.mk A1980
    clear A1980
    by_cases c199 : t1281 = true
    rotate_left
    · replace c199 := Bool.eq_false_iff.mpr c199
      subst c199
      have H1 : (none) = some r := by rw [if_neg (show ¬ (false = true) by decide)] at H; exact H
      clear H
      have H := H1
      clear H1
      exact absurd H (by simp)
    subst c199
    have H1 : ((laws_sameEpochs.f k t1240 t1241 t1244 t1251 t1252 t1255).bind fun t1282 => (if t1282 = true then ((impl_EpochsOk.f k t1150 t1151 t1154).bind fun t1283 => ((spec_EpochsOk.f k t1150 t1151 t1154).bind fun t1284 => (if (t1283 == t1284) = true then ((impl_EpochsNew.f 9).bind fun bt1285 => (some ((bt1285.2.1.length : Int) == 4))) else (none)))) else (none))) = some r := by rw [if_pos rfl] at H; exact H
    clear H
    have H := H1
    clear H1
    replace H := Option.bind_eq_some_iff.mp H
    obtain ⟨t1282, A2000, H⟩ := H
    replace H : (if t1282 = true then ((impl_EpochsOk.f k t1150 t1151 t1154).bind fun t1283 => ((spec_EpochsOk.f k t1150 t1151 t1154).bind fun t1284 => (if (t1283 == t1284) = true then ((impl_EpochsNew.f 9).bind fun bt1285 => (some ((bt1285.2.1.length : Int) == 4))) else (none)))) else (none)) = some r := H
    have A200 := Aside0.mk A2000
    clear A2000
    by_cases c201 : t1282 = true
    rotate_left
    · replace c201 := Bool.eq_false_iff.mpr c201
      subst c201
      have H1 : (none) = some r := by rw [if_neg (show ¬ (false = true) by decide)] at H; exact H
      clear H
      have H := H1
      clear H1
      exact absurd H (by simp)
    subst c201
    have H1 : ((impl_EpochsOk.f k t1150 t1151 t1154).bind fun t1283 => ((spec_EpochsOk.f k t1150 t1151 t1154).bind fun t1284 => (if (t1283 == t1284) = true then ((impl_EpochsNew.f 9).bind fun bt1285 => (some ((bt1285.2.1.length : Int) == 4))) else (none)))) = some r := by rw [if_pos rfl] at H; exact H
    clear H
    have H := H1
    clear H1
    replace H := Option.bind_eq_some_iff.mp H
    obtain ⟨t1283, A2020, H⟩ := H
    replace H : ((spec_EpochsOk.f k t1150 t1151 t1154).bind fun t1284 => (if (t1283 == t1284) = true then ((impl_EpochsNew.f 9).bind fun bt1285 => (some ((bt1285.2.1.length : Int) == 4))) else (none))) = some r := H
    have A202 := Aside0.mk A2020
    clear A2020
    replace H := Option.bind_eq_some_iff.mp H
    obtain ⟨t1284, A2030, H⟩ := H
    replace H : (if (t1283 == t1284) = true then ((impl_EpochsNew.f 9).bind fun bt1285 => (some ((bt1285.2.1.length : Int) == 4))) else (none)) = some r := H
    have A203 := Aside0.mk A2030
    clear A2030
    by_cases c204 : (t1283 == t1284) = true
    rotate_left
    · rw [if_neg c204] at H
      have c204b0 : (t1283 == t1284) = false := by simpa using c204
      (try (have c204b1 : decide (t1283 = t1284) = false := by simpa using c204))
      (try (have c204b2 : (t1283 == t1284) = false := by simpa using c204))
      (try (have c204b3 : ¬ (t1283 = t1284) := by simpa using c204))
      clear c204
      exact absurd H (by simp)
    rw [if_pos c204] at H
    have c204b0 : (t1283 == t1284) = true := c204
    (try (have c204b1 : decide (t1283 = t1284) = true := by simpa using c204))
    (try (have c204b2 : (t1283 == t1284) = true := by simpa using c204))
    clear c204
    replace H := Option.bind_eq_some_iff.mp H
    obtain ⟨⟨t1285, t1286, t1289⟩, A2050, H⟩ := H
    replace H : (some ((t1286.length : Int) == 4)) = some r := H
    have A205 := Aside0.mk A2050
    clear A2050
    obtain rfl := Option.some.inj H
    try go_wp2
    have hu : Below w136.heap.size w136 (((w137.setCell ⟨gb1261, 0, none⟩ (.int .i64 t1251)).setCell ⟨gb1261, 1, none⟩ (.slice Ao150 t1252.length co150)).setCell ⟨gb1261, 2, none⟩ (.slice Ao151 t1255.length co151)) := by repeat (first | (with_reducible first | exact X.out | apply pw_below_drewN | apply below_drew1 | refine below_set ?_ G.out) | exact X.out)
    replace E1158 := Aside0.mk (Ep.up E1158.out hu)
    replace E1167 := Aside0.mk (Ep.up E1167.out hu)
    replace E1176 := Aside0.mk (Ep.up E1176.out hu)
    replace E1185 := Aside0.mk (Ep.up E1185.out hu)
    replace E1194 := Aside0.mk (Ep.up E1194.out hu)
    replace E1203 := Aside0.mk (Ep.up E1203.out hu)
    replace E1212 := Aside0.mk (Ep.up E1212.out hu)
    replace E1221 := Aside0.mk (Ep.up E1221.out hu)
    replace E1230 := Aside0.mk (Ep.up E1230.out hu)
    replace E1239 := Aside0.mk (Ep.up E1239.out hu)
    replace E1250 := Aside0.mk (Ep.up E1250.out hu)
    replace L1249 := Aside0.mk (Ls.up L1249.out hu)
    replace L1260 := Aside0.mk (Ls.up L1260.out hu)
    have E1261 : Aside0 (Ep (((w137.setCell ⟨gb1261, 0, none⟩ (.int .i64 t1251)).setCell ⟨gb1261, 1, none⟩ (.slice Ao150 t1252.length co150)).setCell ⟨gb1261, 2, none⟩ (.slice Ao151 t1255.length co151)) gb1261 t1251 Ao150 co150 t1252 Ao151 co151 t1255) := Aside0.mk (Ep.put3 BK.out G.out X.out RA.out KA.out RB.out KB.out)
    replace HB := Aside0.mk (below_step HB.out hu)
    clear hu BK G X RA KA RB KB
    have EA : Aside0 (Stay (fun W_ => Ep W_ gb1158 t1150 Ao21 co21 t1151 Ao22 co22 t1154 ∧ Ep W_ gb1167 t1159 Ao27 co27 t1160 Ao28 co28 t1163 ∧ Ep W_ gb1176 t1168 Ao35 co35 t1169 Ao36 co36 t1172 ∧ Ep W_ gb1185 t1177 Ao44 co44 t1178 Ao45 co45 t1181 ∧ Ep W_ gb1194 t1186 Ao54 co54 t1187 Ao55 co55 t1190 ∧ Ep W_ gb1203 t1195 Ao64 co64 t1196 Ao65 co65 t1199 ∧ Ep W_ gb1212 t1204 Ao75 co75 t1205 Ao76 co76 t1208 ∧ Ep W_ gb1221 t1213 Ao88 co88 t1214 Ao89 co89 t1217 ∧ Ep W_ gb1230 t1222 Ao102 co102 t1223 Ao103 co103 t1226 ∧ Ep W_ gb1239 t1231 Ao117 co117 t1232 Ao118 co118 t1235 ∧ Ep W_ gb1250 t1240 Ao133 co133 t1241 Ao134 co134 t1244 ∧ Ep W_ gb1261 t1251 Ao150 co150 t1252 Ao151 co151 t1255 ∧ Ls W_ Ao179 co179 t1247 ∧ Ls W_ Ao180 co180 t1258) (((w137.setCell ⟨gb1261, 0, none⟩ (.int .i64 t1251)).setCell ⟨gb1261, 1, none⟩ (.slice Ao150 t1252.length co150)).setCell ⟨gb1261, 2, none⟩ (.slice Ao151 t1255.length co151))) := Aside0.mk (fun W_ h_ => ⟨Ep.up E1158.out h_, Ep.up E1167.out h_, Ep.up E1176.out h_, Ep.up E1185.out h_, Ep.up E1194.out h_, Ep.up E1203.out h_, Ep.up E1212.out h_, Ep.up E1221.out h_, Ep.up E1230.out h_, Ep.up E1239.out h_, Ep.up E1250.out h_, Ep.up E1261.out h_, Ls.up L1249.out h_, Ls.up L1260.out h_⟩)
    clear E1158 E1167 E1176 E1185 E1194 E1203 E1212 E1221 E1230 E1239 E1250 E1261 L1249 L1260
    generalize (((w137.setCell ⟨gb1261, 0, none⟩ (.int .i64 t1251)).setCell ⟨gb1261, 1, none⟩ (.slice Ao150 t1252.length co150)).setCell ⟨gb1261, 2, none⟩ (.slice Ao151 t1255.length co151)) = w206 at EA HB ⊢
    replace EA := Aside0.mk (Stay.drew EA.out)
    replace HB := Aside0.mk (below_drew1 HB.out)
    have hS : Aside0 (∀ w', Stay (fun W_ => Ep W_ gb1158 t1150 Ao21 co21 t1151 Ao22 co22 t1154 ∧ Ep W_ gb1167 t1159 Ao27 co27 t1160 Ao28 co28 t1163 ∧ Ep W_ gb1176 t1168 Ao35 co35 t1169 Ao36 co36 t1172 ∧ Ep W_ gb1185 t1177 Ao44 co44 t1178 Ao45 co45 t1181 ∧ Ep W_ gb1194 t1186 Ao54 co54 t1187 Ao55 co55 t1190 ∧ Ep W_ gb1203 t1195 Ao64 co64 t1196 Ao65 co65 t1199 ∧ Ep W_ gb1212 t1204 Ao75 co75 t1205 Ao76 co76 t1208 ∧ Ep W_ gb1221 t1213 Ao88 co88 t1214 Ao89 co89 t1217 ∧ Ep W_ gb1230 t1222 Ao102 co102 t1223 Ao103 co103 t1226 ∧ Ep W_ gb1239 t1231 Ao117 co117 t1232 Ao118 co118 t1235 ∧ Ep W_ gb1250 t1240 Ao133 co133 t1241 Ao134 co134 t1244 ∧ Ep W_ gb1261 t1251 Ao150 co150 t1252 Ao151 co151 t1255 ∧ Ls W_ Ao179 co179 t1247 ∧ Ls W_ Ao180 co180 t1258) w' → w'.cell? ⟨gb1167, 0, none⟩ = some (.int .i64 t1159) ∧ w'.cell? ⟨gb1167, 1, none⟩ = some (.slice Ao27 t1160.length co27) ∧ w'.cell? ⟨gb1167, 2, none⟩ = some (.slice Ao28 t1163.length co28) ∧ w'.cell? ⟨gb1176, 0, none⟩ = some (.int .i64 t1168) ∧ w'.cell? ⟨gb1176, 1, none⟩ = some (.slice Ao35 t1169.length co35) ∧ w'.cell? ⟨gb1176, 2, none⟩ = some (.slice Ao36 t1172.length co36) ∧ w'.cell? ⟨gb1158, 0, none⟩ = some (.int .i64 t1150) ∧ w'.cell? ⟨gb1158, 1, none⟩ = some (.slice Ao21 t1151.length co21) ∧ w'.cell? ⟨gb1158, 2, none⟩ = some (.slice Ao22 t1154.length co22) ∧ w'.cell? ⟨gb1185, 0, none⟩ = some (.int .i64 t1177) ∧ w'.cell? ⟨gb1185, 1, none⟩ = some (.slice Ao44 t1178.length co44) ∧ w'.cell? ⟨gb1185, 2, none⟩ = some (.slice Ao45 t1181.length co45) ∧ w'.cell? ⟨gb1194, 0, none⟩ = some (.int .i64 t1186) ∧ w'.cell? ⟨gb1194, 1, none⟩ = some (.slice Ao54 t1187.length co54) ∧ w'.cell? ⟨gb1194, 2, none⟩ = some (.slice Ao55 t1190.length co55) ∧ w'.cell? ⟨gb1212, 0, none⟩ = some (.int .i64 t1204) ∧ w'.cell? ⟨gb1212, 1, none⟩ = some (.slice Ao75 t1205.length co75) ∧ w'.cell? ⟨gb1212, 2, none⟩ = some (.slice Ao76 t1208.length co76) ∧ w'.cell? ⟨gb1221, 0, none⟩ = some (.int .i64 t1213) ∧ w'.cell? ⟨gb1221, 1, none⟩ = some (.slice Ao88 t1214.length co88) ∧ w'.cell? ⟨gb1221, 2, none⟩ = some (.slice Ao89 t1217.length co89) ∧ w'.cell? ⟨gb1230, 0, none⟩ = some (.int .i64 t1222) ∧ w'.cell? ⟨gb1230, 1, none⟩ = some (.slice Ao102 t1223.length co102) ∧ w'.cell? ⟨gb1230, 2, none⟩ = some (.slice Ao103 t1226.length co103) ∧ w'.cell? ⟨gb1239, 0, none⟩ = some (.int .i64 t1231) ∧ w'.cell? ⟨gb1239, 1, none⟩ = some (.slice Ao117 t1232.length co117) ∧ w'.cell? ⟨gb1239, 2, none⟩ = some (.slice Ao118 t1235.length co118) ∧ w'.cell? ⟨gb1250, 0, none⟩ = some (.int .i64 t1240) ∧ w'.cell? ⟨gb1250, 1, none⟩ = some (.slice Ao133 t1241.length co133) ∧ w'.cell? ⟨gb1250, 2, none⟩ = some (.slice Ao134 t1244.length co134) ∧ w'.cell? ⟨gb1261, 0, none⟩ = some (.int .i64 t1251) ∧ w'.cell? ⟨gb1261, 1, none⟩ = some (.slice Ao150 t1252.length co150) ∧ w'.cell? ⟨gb1261, 2, none⟩ = some (.slice Ao151 t1255.length co151)) := Aside0.mk (fun w' h_ => ⟨(blk_cell h_.at_.2.1.b 0).trans rfl, (blk_cell h_.at_.2.1.b 1).trans rfl, (blk_cell h_.at_.2.1.b 2).trans rfl, (blk_cell h_.at_.2.2.1.b 0).trans rfl, (blk_cell h_.at_.2.2.1.b 1).trans rfl, (blk_cell h_.at_.2.2.1.b 2).trans rfl, (blk_cell h_.at_.1.b 0).trans rfl, (blk_cell h_.at_.1.b 1).trans rfl, (blk_cell h_.at_.1.b 2).trans rfl, (blk_cell h_.at_.2.2.2.1.b 0).trans rfl, (blk_cell h_.at_.2.2.2.1.b 1).trans rfl, (blk_cell h_.at_.2.2.2.1.b 2).trans rfl, (blk_cell h_.at_.2.2.2.2.1.b 0).trans rfl, (blk_cell h_.at_.2.2.2.2.1.b 1).trans rfl, (blk_cell h_.at_.2.2.2.2.1.b 2).trans rfl, (blk_cell h_.at_.2.2.2.2.2.2.1.b 0).trans rfl, (blk_cell h_.at_.2.2.2.2.2.2.1.b 1).trans rfl, (blk_cell h_.at_.2.2.2.2.2.2.1.b 2).trans rfl, (blk_cell h_.at_.2.2.2.2.2.2.2.1.b 0).trans rfl, (blk_cell h_.at_.2.2.2.2.2.2.2.1.b 1).trans rfl, (blk_cell h_.at_.2.2.2.2.2.2.2.1.b 2).trans rfl, (blk_cell h_.at_.2.2.2.2.2.2.2.2.1.b 0).trans rfl, (blk_cell h_.at_.2.2.2.2.2.2.2.2.1.b 1).trans rfl, (blk_cell h_.at_.2.2.2.2.2.2.2.2.1.b 2).trans rfl, (blk_cell h_.at_.2.2.2.2.2.2.2.2.2.1.b 0).trans rfl, (blk_cell h_.at_.2.2.2.2.2.2.2.2.2.1.b 1).trans rfl, (blk_cell h_.at_.2.2.2.2.2.2.2.2.2.1.b 2).trans rfl, (blk_cell h_.at_.2.2.2.2.2.2.2.2.2.2.1.b 0).trans rfl, (blk_cell h_.at_.2.2.2.2.2.2.2.2.2.2.1.b 1).trans rfl, (blk_cell h_.at_.2.2.2.2.2.2.2.2.2.2.1.b 2).trans rfl, (blk_cell h_.at_.2.2.2.2.2.2.2.2.2.2.2.1.b 0).trans rfl, (blk_cell h_.at_.2.2.2.2.2.2.2.2.2.2.2.1.b 1).trans rfl, (blk_cell h_.at_.2.2.2.2.2.2.2.2.2.2.2.1.b 2).trans rfl⟩)
    refine start_ (n := 70) (S := fun w' => w'.cell? ⟨gb1167, 0, none⟩ = some (.int .i64 t1159) ∧ w'.cell? ⟨gb1167, 1, none⟩ = some (.slice Ao27 t1160.length co27) ∧ w'.cell? ⟨gb1167, 2, none⟩ = some (.slice Ao28 t1163.length co28) ∧ w'.cell? ⟨gb1176, 0, none⟩ = some (.int .i64 t1168) ∧ w'.cell? ⟨gb1176, 1, none⟩ = some (.slice Ao35 t1169.length co35) ∧ w'.cell? ⟨gb1176, 2, none⟩ = some (.slice Ao36 t1172.length co36) ∧ w'.cell? ⟨gb1158, 0, none⟩ = some (.int .i64 t1150) ∧ w'.cell? ⟨gb1158, 1, none⟩ = some (.slice Ao21 t1151.length co21) ∧ w'.cell? ⟨gb1158, 2, none⟩ = some (.slice Ao22 t1154.length co22) ∧ w'.cell? ⟨gb1185, 0, none⟩ = some (.int .i64 t1177) ∧ w'.cell? ⟨gb1185, 1, none⟩ = some (.slice Ao44 t1178.length co44) ∧ w'.cell? ⟨gb1185, 2, none⟩ = some (.slice Ao45 t1181.length co45) ∧ w'.cell? ⟨gb1194, 0, none⟩ = some (.int .i64 t1186) ∧ w'.cell? ⟨gb1194, 1, none⟩ = some (.slice Ao54 t1187.length co54) ∧ w'.cell? ⟨gb1194, 2, none⟩ = some (.slice Ao55 t1190.length co55) ∧ w'.cell? ⟨gb1212, 0, none⟩ = some (.int .i64 t1204) ∧ w'.cell? ⟨gb1212, 1, none⟩ = some (.slice Ao75 t1205.length co75) ∧ w'.cell? ⟨gb1212, 2, none⟩ = some (.slice Ao76 t1208.length co76) ∧ w'.cell? ⟨gb1221, 0, none⟩ = some (.int .i64 t1213) ∧ w'.cell? ⟨gb1221, 1, none⟩ = some (.slice Ao88 t1214.length co88) ∧ w'.cell? ⟨gb1221, 2, none⟩ = some (.slice Ao89 t1217.length co89) ∧ w'.cell? ⟨gb1230, 0, none⟩ = some (.int .i64 t1222) ∧ w'.cell? ⟨gb1230, 1, none⟩ = some (.slice Ao102 t1223.length co102) ∧ w'.cell? ⟨gb1230, 2, none⟩ = some (.slice Ao103 t1226.length co103) ∧ w'.cell? ⟨gb1239, 0, none⟩ = some (.int .i64 t1231) ∧ w'.cell? ⟨gb1239, 1, none⟩ = some (.slice Ao117 t1232.length co117) ∧ w'.cell? ⟨gb1239, 2, none⟩ = some (.slice Ao118 t1235.length co118) ∧ w'.cell? ⟨gb1250, 0, none⟩ = some (.int .i64 t1240) ∧ w'.cell? ⟨gb1250, 1, none⟩ = some (.slice Ao133 t1241.length co133) ∧ w'.cell? ⟨gb1250, 2, none⟩ = some (.slice Ao134 t1244.length co134) ∧ w'.cell? ⟨gb1261, 0, none⟩ = some (.int .i64 t1251) ∧ w'.cell? ⟨gb1261, 1, none⟩ = some (.slice Ao150 t1252.length co150) ∧ w'.cell? ⟨gb1261, 2, none⟩ = some (.slice Ao151 t1255.length co151)) (ds := []) (laws_FnEpochs.d 0) (by kernel_rfl) rfl rfl (hS.out _ EA.out) (fun hHeld => ?_); refine with_tabW laws_FnEpochs.tab15 laws_FnEpochs.bits15 (fun HT_ HW_ => ?_)
    generalize w206.drew = w207 at EA HB hHeld ⊢
    refine pure_ (i := 0) (N := some 95) (v := ?_) (a' := ?_) (laws_FnEpochs.d 1) rfl rfl (any_of HT_.out (by kernel_rfl)) (fun _ _ _ h => h) (Or.inl ⟨by rfl, ?_⟩) ?_ ?_
    rotate_left
    · intro w'
      go_simp
      with_reducible rfl
    rotate_left
    · simp only [Act.put, List.setIfInBounds_toArray, List.set_cons_zero, List.set_cons_succ, i64_w, i32_w]
      rfl
    refine pure_ (i := 1) (N := some 96) (v := ?_) (a' := ?_) (laws_FnEpochs.d 2) rfl rfl (any_of HT_.out (by kernel_rfl)) (fun _ _ _ h => h) (Or.inl ⟨by rfl, ?_⟩) ?_ ?_
    rotate_left
    · intro w'
      go_simp
      with_reducible rfl
    rotate_left
    · simp only [Act.put, List.setIfInBounds_toArray, List.set_cons_zero, List.set_cons_succ, i64_w, i32_w]
      rfl
    refine pure_ (i := 2) (N := some 97) (v := ?_) (a' := ?_) (laws_FnEpochs.d 3) rfl rfl (any_of HT_.out (by kernel_rfl)) (fun _ _ _ h => h) (Or.inl ⟨by rfl, ?_⟩) ?_ ?_
    rotate_left
    · intro w'
      go_simp
      with_reducible rfl
    rotate_left
    · simp only [Act.put, List.setIfInBounds_toArray, List.set_cons_zero, List.set_cons_succ, i64_w, i32_w]
      rfl
    refine pure_ (i := 3) (N := some 98) (v := ?_) (a' := ?_) (laws_FnEpochs.d 4) rfl rfl (any_of HT_.out (by kernel_rfl)) (fun _ _ _ h => h) (Or.inl ⟨by rfl, ?_⟩) ?_ ?_
    rotate_left
    · intro w'
      go_simp
      with_reducible rfl
    rotate_left
    · simp only [Act.put, List.setIfInBounds_toArray, List.set_cons_zero, List.set_cons_succ, i64_w, i32_w]
      rfl
    refine take_ (i := 4) (N := some 99) (v := ?_) (a' := ?_) (laws_FnEpochs.d 5) rfl rfl (take_ofW HT_.out HW_.out (by kernel_rfl)) (fun _ _ _ h => h) (Or.inl ⟨by rfl, ?_⟩) hHeld ?_ ?_
    rotate_left
    · rintro w' ⟨s0, s1, s2, s3, s4, s5, s6, s7, s8, s9, s10, s11, s12, s13, s14, s15, s16, s17, s18, s19, s20, s21, s22, s23, s24, s25, s26, s27, s28, s29, s30, s31, s32⟩
      go_simp
      with_reducible rfl
    rotate_left
    · simp only [Act.put, List.setIfInBounds_toArray, List.set_cons_zero, List.set_cons_succ, i64_w, i32_w]
      rfl
    refine take_ (i := 5) (N := some 100) (v := ?_) (a' := ?_) (laws_FnEpochs.d 6) rfl rfl (take_ofW HT_.out HW_.out (by kernel_rfl)) (fun _ _ _ h => h) (Or.inl ⟨by rfl, ?_⟩) hHeld ?_ ?_
    rotate_left
    · rintro w' ⟨s0, s1, s2, s3, s4, s5, s6, s7, s8, s9, s10, s11, s12, s13, s14, s15, s16, s17, s18, s19, s20, s21, s22, s23, s24, s25, s26, s27, s28, s29, s30, s31, s32⟩
      go_simp
      with_reducible rfl
    rotate_left
    · simp only [Act.put, List.setIfInBounds_toArray, List.set_cons_zero, List.set_cons_succ, i64_w, i32_w]
      rfl
    refine one_ (i := 6) (N := some 101) (laws_FnEpochs.d 7) rfl rfl (one_of HT_.out (by kernel_rfl)) (by decide) (fun K hK => ?_)
    refine goes_ Try.func41 (by kernel_rfl) rfl #[.agg #[.int .i64 t1159, .slice Ao27 t1160.length co27, .slice Ao28 t1163.length co28], .agg #[.int .i64 t1168, .slice Ao35 t1169.length co35, .slice Ao36 t1172.length co36]] (by rfl) rfl rfl (by (try simp only [List.map_toArray, List.map_cons, List.map_nil]); first | done | rfl | (simp only [List.length_drop, List.length_take]; rfl)) ?_
    with_reducible refine (laws_sameEpochs.calls k t1159 _ _ t1160 _ _ t1163 t1168 _ _ t1169 _ _ t1172 true _ ?side1 ?side2 ?side3 ?side4 ?side5 ?side6 ?side7 ?side8 A153.out).mono ?_
    (case side1 => exact EA.out.at_.2.1.r1)
    (case side2 => exact EA.out.at_.2.1.k1)
    (case side3 => exact EA.out.at_.2.1.r2)
    (case side4 => exact EA.out.at_.2.1.k2)
    (case side5 => exact EA.out.at_.2.2.1.r1)
    (case side6 => exact EA.out.at_.2.2.1.k1)
    (case side7 => exact EA.out.at_.2.2.1.r2)
    (case side8 => exact EA.out.at_.2.2.1.k2)
    rintro e w208 ⟨rfl, hb⟩
    refine ⟨_, rfl, ?_⟩
    replace HB := Aside0.mk (below_step HB.out hb)
    replace EA := Aside0.mk (Stay.up EA.out hb)
    (try clear hb)
    (try clear ho0)
    (try clear ho1)
    refine hK.out _ _ (hS.out _ EA.out) (fun hHeld => ?_)
    clear hK K
    refine norm_ (a' := ?_) ?_ ?_
    rotate_left
    · show Act.put _ (some 101) _ = _
      simp only [Act.put, List.setIfInBounds_toArray, List.set_cons_zero, List.set_cons_succ, i64_w, i32_w]
      rfl
    refine pure_ (i := 7) (N := some 102) (v := ?_) (a' := ?_) (laws_FnEpochs.d 8) rfl rfl (any_of HT_.out (by kernel_rfl)) (fun _ _ _ h => h) (Or.inl ⟨by rfl, ?_⟩) ?_ ?_
    rotate_left
    · intro w'
      go_simp
      with_reducible rfl
    rotate_left
    · simp only [Act.put, List.setIfInBounds_toArray, List.set_cons_zero, List.set_cons_succ, i64_w, i32_w]
      rfl
    refine pure_ (i := 8) (N := some 103) (v := ?_) (a' := ?_) (laws_FnEpochs.d 9) rfl rfl (any_of HT_.out (by kernel_rfl)) (fun _ _ _ h => h) (Or.inl ⟨by rfl, ?_⟩) ?_ ?_
    rotate_left
    · intro w'
      go_simp
      with_reducible rfl
    rotate_left
    · simp only [Act.put, List.setIfInBounds_toArray, List.set_cons_zero, List.set_cons_succ, i64_w, i32_w]
      rfl
    refine pure_ (i := 9) (N := some 104) (v := ?_) (a' := ?_) (laws_FnEpochs.d 10) rfl rfl (any_of HT_.out (by kernel_rfl)) (fun _ _ _ h => h) (Or.inl ⟨by rfl, ?_⟩) ?_ ?_
    rotate_left
    · intro w'
      go_simp
      with_reducible rfl
    rotate_left
    · simp only [Act.put, List.setIfInBounds_toArray, List.set_cons_zero, List.set_cons_succ, i64_w, i32_w]
      rfl
    refine pure_ (i := 10) (N := some 105) (v := ?_) (a' := ?_) (laws_FnEpochs.d 11) rfl rfl (any_of HT_.out (by kernel_rfl)) (fun _ _ _ h => h) (Or.inl ⟨by rfl, ?_⟩) ?_ ?_
    rotate_left
    · intro w'
      go_simp
      with_reducible rfl
    rotate_left
    · simp only [Act.put, List.setIfInBounds_toArray, List.set_cons_zero, List.set_cons_succ, i64_w, i32_w]
      rfl
    refine take_ (i := 11) (N := some 106) (v := ?_) (a' := ?_) (laws_FnEpochs.d 12) rfl rfl (take_ofW HT_.out HW_.out (by kernel_rfl)) (fun _ _ _ h => h) (Or.inl ⟨by rfl, ?_⟩) hHeld ?_ ?_
    rotate_left
    · rintro w' ⟨s0, s1, s2, s3, s4, s5, s6, s7, s8, s9, s10, s11, s12, s13, s14, s15, s16, s17, s18, s19, s20, s21, s22, s23, s24, s25, s26, s27, s28, s29, s30, s31, s32⟩
      go_simp
      with_reducible rfl
    rotate_left
    · simp only [Act.put, List.setIfInBounds_toArray, List.set_cons_zero, List.set_cons_succ, i64_w, i32_w]
      rfl
    refine take_ (i := 12) (N := some 107) (v := ?_) (a' := ?_) (laws_FnEpochs.d 13) rfl rfl (take_ofW HT_.out HW_.out (by kernel_rfl)) (fun _ _ _ h => h) (Or.inl ⟨by rfl, ?_⟩) hHeld ?_ ?_
    rotate_left
    · rintro w' ⟨s0, s1, s2, s3, s4, s5, s6, s7, s8, s9, s10, s11, s12, s13, s14, s15, s16, s17, s18, s19, s20, s21, s22, s23, s24, s25, s26, s27, s28, s29, s30, s31, s32⟩
      go_simp
      with_reducible rfl
    rotate_left
    · simp only [Act.put, List.setIfInBounds_toArray, List.set_cons_zero, List.set_cons_succ, i64_w, i32_w]
      rfl
    refine one_ (i := 13) (N := some 108) (laws_FnEpochs.d 14) rfl rfl (one_of HT_.out (by kernel_rfl)) (by decide) (fun K hK => ?_)
    refine goes_ Try.func41 (by kernel_rfl) rfl #[.agg #[.int .i64 t1159, .slice Ao27 t1160.length co27, .slice Ao28 t1163.length co28], .agg #[.int .i64 t1150, .slice Ao21 t1151.length co21, .slice Ao22 t1154.length co22]] (by rfl) rfl rfl (by (try simp only [List.map_toArray, List.map_cons, List.map_nil]); first | done | rfl | (simp only [List.length_drop, List.length_take]; rfl)) ?_
    with_reducible refine (laws_sameEpochs.calls k t1159 _ _ t1160 _ _ t1163 t1150 _ _ t1151 _ _ t1154 true _ ?side1 ?side2 ?side3 ?side4 ?side5 ?side6 ?side7 ?side8 A187.out).mono ?_
    (case side1 => exact EA.out.at_.2.1.r1)
    (case side2 => exact EA.out.at_.2.1.k1)
    (case side3 => exact EA.out.at_.2.1.r2)
    (case side4 => exact EA.out.at_.2.1.k2)
    (case side5 => exact EA.out.at_.1.r1)
    (case side6 => exact EA.out.at_.1.k1)
    (case side7 => exact EA.out.at_.1.r2)
    (case side8 => exact EA.out.at_.1.k2)
    rintro e w209 ⟨rfl, hb⟩
    refine ⟨_, rfl, ?_⟩
    replace HB := Aside0.mk (below_step HB.out hb)
    replace EA := Aside0.mk (Stay.up EA.out hb)
    (try clear hb)
    (try clear ho0)
    (try clear ho1)
    refine hK.out _ _ (hS.out _ EA.out) (fun hHeld => ?_)
    clear hK K
    refine norm_ (a' := ?_) ?_ ?_
    rotate_left
    · show Act.put _ (some 108) _ = _
      simp only [Act.put, List.setIfInBounds_toArray, List.set_cons_zero, List.set_cons_succ, i64_w, i32_w]
      rfl
    refine pure_ (i := 14) (N := some 109) (v := ?_) (a' := ?_) (laws_FnEpochs.d 15) rfl rfl (any_of HT_.out (by kernel_rfl)) (fun _ _ _ h => h) (Or.inl ⟨by rfl, ?_⟩) ?_ ?_
    rotate_left
    · intro w'
      go_simp
      with_reducible rfl
    rotate_left
    · simp only [Act.put, List.setIfInBounds_toArray, List.set_cons_zero, List.set_cons_succ, i64_w, i32_w]
      rfl
    refine pure_ (i := 15) (N := some 110) (v := ?_) (a' := ?_) (laws_FnEpochs.d 16) rfl rfl (any_of HT_.out (by kernel_rfl)) (fun _ _ _ h => h) (Or.inl ⟨by rfl, ?_⟩) ?_ ?_
    rotate_left
    · intro w'
      go_simp
      with_reducible rfl
    rotate_left
    · simp only [Act.put, List.setIfInBounds_toArray, List.set_cons_zero, List.set_cons_succ, i64_w, i32_w]
      rfl
    refine pure_ (i := 16) (N := some 111) (v := ?_) (a' := ?_) (laws_FnEpochs.d 17) rfl rfl (any_of HT_.out (by kernel_rfl)) (fun _ _ _ h => h) (Or.inl ⟨by rfl, ?_⟩) ?_ ?_
    rotate_left
    · intro w'
      go_simp
      with_reducible rfl
    rotate_left
    · simp only [Act.put, List.setIfInBounds_toArray, List.set_cons_zero, List.set_cons_succ, i64_w, i32_w]
      rfl
    refine pure_ (i := 17) (N := some 112) (v := ?_) (a' := ?_) (laws_FnEpochs.d 18) rfl rfl (any_of HT_.out (by kernel_rfl)) (fun _ _ _ h => h) (Or.inl ⟨by rfl, ?_⟩) ?_ ?_
    rotate_left
    · intro w'
      go_simp
      with_reducible rfl
    rotate_left
    · simp only [Act.put, List.setIfInBounds_toArray, List.set_cons_zero, List.set_cons_succ, i64_w, i32_w]
      rfl
    refine pure_ (i := 18) (N := some 113) (v := ?_) (a' := ?_) (laws_FnEpochs.d 19) rfl rfl (any_of HT_.out (by kernel_rfl)) (fun _ _ _ h => h) (Or.inl ⟨by rfl, ?_⟩) ?_ ?_
    rotate_left
    · intro w'
      go_simp
      with_reducible rfl
    rotate_left
    · simp only [Act.put, List.setIfInBounds_toArray, List.set_cons_zero, List.set_cons_succ, i64_w, i32_w]
      rfl
    refine pure_ (i := 19) (N := some 114) (v := ?_) (a' := ?_) (laws_FnEpochs.d 20) rfl rfl (any_of HT_.out (by kernel_rfl)) (fun _ _ _ h => h) (Or.inl ⟨by rfl, ?_⟩) ?_ ?_
    rotate_left
    · intro w'
      go_simp
      with_reducible rfl
    rotate_left
    · simp only [Act.put, List.setIfInBounds_toArray, List.set_cons_zero, List.set_cons_succ, i64_w, i32_w]
      rfl
    refine pure_ (i := 20) (N := some 115) (v := ?_) (a' := ?_) (laws_FnEpochs.d 21) rfl rfl (any_of HT_.out (by kernel_rfl)) (fun _ _ _ h => h) (Or.inl ⟨by rfl, ?_⟩) ?_ ?_
    rotate_left
    · intro w'
      go_simp
      with_reducible rfl
    rotate_left
    · simp only [Act.put, List.setIfInBounds_toArray, List.set_cons_zero, List.set_cons_succ, i64_w, i32_w]
      rfl
    refine pure_ (i := 21) (N := some 116) (v := ?_) (a' := ?_) (laws_FnEpochs.d 22) rfl rfl (any_of HT_.out (by kernel_rfl)) (fun _ _ _ h => h) (Or.inl ⟨by rfl, ?_⟩) ?_ ?_
    rotate_left
    · intro w'
      go_simp
      with_reducible rfl
    rotate_left
    · simp only [Act.put, List.setIfInBounds_toArray, List.set_cons_zero, List.set_cons_succ, i64_w, i32_w]
      rfl
    refine take_ (i := 22) (N := some 117) (v := ?_) (a' := ?_) (laws_FnEpochs.d 23) rfl rfl (take_ofW HT_.out HW_.out (by kernel_rfl)) (fun _ _ _ h => h) (Or.inl ⟨by rfl, ?_⟩) hHeld ?_ ?_
    rotate_left
    · rintro w' ⟨s0, s1, s2, s3, s4, s5, s6, s7, s8, s9, s10, s11, s12, s13, s14, s15, s16, s17, s18, s19, s20, s21, s22, s23, s24, s25, s26, s27, s28, s29, s30, s31, s32⟩
      go_simp
      with_reducible rfl
    rotate_left
    · simp only [Act.put, List.setIfInBounds_toArray, List.set_cons_zero, List.set_cons_succ, i64_w, i32_w]
      rfl
    refine take_ (i := 23) (N := some 118) (v := ?_) (a' := ?_) (laws_FnEpochs.d 24) rfl rfl (take_ofW HT_.out HW_.out (by kernel_rfl)) (fun _ _ _ h => h) (Or.inl ⟨by rfl, ?_⟩) hHeld ?_ ?_
    rotate_left
    · rintro w' ⟨s0, s1, s2, s3, s4, s5, s6, s7, s8, s9, s10, s11, s12, s13, s14, s15, s16, s17, s18, s19, s20, s21, s22, s23, s24, s25, s26, s27, s28, s29, s30, s31, s32⟩
      go_simp
      with_reducible rfl
    rotate_left
    · simp only [Act.put, List.setIfInBounds_toArray, List.set_cons_zero, List.set_cons_succ, i64_w, i32_w]
      rfl
    refine one_ (i := 24) (N := some 119) (laws_FnEpochs.d 25) rfl rfl (one_of HT_.out (by kernel_rfl)) (by decide) (fun K hK => ?_)
    refine goes_ Try.func41 (by kernel_rfl) rfl #[.agg #[.int .i64 t1177, .slice Ao44 t1178.length co44, .slice Ao45 t1181.length co45], .agg #[.int .i64 t1186, .slice Ao54 t1187.length co54, .slice Ao55 t1190.length co55]] (by rfl) rfl rfl (by (try simp only [List.map_toArray, List.map_cons, List.map_nil]); first | done | rfl | (simp only [List.length_drop, List.length_take]; rfl)) ?_
    with_reducible refine (laws_sameEpochs.calls k t1177 _ _ t1178 _ _ t1181 t1186 _ _ t1187 _ _ t1190 true _ ?side1 ?side2 ?side3 ?side4 ?side5 ?side6 ?side7 ?side8 A190.out).mono ?_
    (case side1 => exact EA.out.at_.2.2.2.1.r1)
    (case side2 => exact EA.out.at_.2.2.2.1.k1)
    (case side3 => exact EA.out.at_.2.2.2.1.r2)
    (case side4 => exact EA.out.at_.2.2.2.1.k2)
    (case side5 => exact EA.out.at_.2.2.2.2.1.r1)
    (case side6 => exact EA.out.at_.2.2.2.2.1.k1)
    (case side7 => exact EA.out.at_.2.2.2.2.1.r2)
    (case side8 => exact EA.out.at_.2.2.2.2.1.k2)
    rintro e w210 ⟨rfl, hb⟩
    refine ⟨_, rfl, ?_⟩
    replace HB := Aside0.mk (below_step HB.out hb)
    replace EA := Aside0.mk (Stay.up EA.out hb)
    (try clear hb)
    (try clear ho0)
    (try clear ho1)
    refine hK.out _ _ (hS.out _ EA.out) (fun hHeld => ?_)
    clear hK K
    refine norm_ (a' := ?_) ?_ ?_
    rotate_left
    · show Act.put _ (some 119) _ = _
      simp only [Act.put, List.setIfInBounds_toArray, List.set_cons_zero, List.set_cons_succ, i64_w, i32_w]
      rfl
    refine pure_ (i := 25) (N := some 120) (v := ?_) (a' := ?_) (laws_FnEpochs.d 26) rfl rfl (any_of HT_.out (by kernel_rfl)) (fun _ _ _ h => h) (Or.inl ⟨by rfl, ?_⟩) ?_ ?_
    rotate_left
    · intro w'
      go_simp
      with_reducible rfl
    rotate_left
    · simp only [Act.put, List.setIfInBounds_toArray, List.set_cons_zero, List.set_cons_succ, i64_w, i32_w]
      rfl
    refine pure_ (i := 26) (N := some 121) (v := ?_) (a' := ?_) (laws_FnEpochs.d 27) rfl rfl (any_of HT_.out (by kernel_rfl)) (fun _ _ _ h => h) (Or.inl ⟨by rfl, ?_⟩) ?_ ?_
    rotate_left
    · intro w'
      go_simp
      with_reducible rfl
    rotate_left
    · simp only [Act.put, List.setIfInBounds_toArray, List.set_cons_zero, List.set_cons_succ, i64_w, i32_w]
      rfl
    refine pure_ (i := 27) (N := some 122) (v := ?_) (a' := ?_) (laws_FnEpochs.d 28) rfl rfl (any_of HT_.out (by kernel_rfl)) (fun _ _ _ h => h) (Or.inl ⟨by rfl, ?_⟩) ?_ ?_
    rotate_left
    · intro w'
      go_simp
      with_reducible rfl
    rotate_left
    · simp only [Act.put, List.setIfInBounds_toArray, List.set_cons_zero, List.set_cons_succ, i64_w, i32_w]
      rfl
    refine pure_ (i := 28) (N := some 123) (v := ?_) (a' := ?_) (laws_FnEpochs.d 29) rfl rfl (any_of HT_.out (by kernel_rfl)) (fun _ _ _ h => h) (Or.inl ⟨by rfl, ?_⟩) ?_ ?_
    rotate_left
    · intro w'
      go_simp
      with_reducible rfl
    rotate_left
    · simp only [Act.put, List.setIfInBounds_toArray, List.set_cons_zero, List.set_cons_succ, i64_w, i32_w]
      rfl
    refine pure_ (i := 29) (N := some 124) (v := ?_) (a' := ?_) (laws_FnEpochs.d 30) rfl rfl (any_of HT_.out (by kernel_rfl)) (fun _ _ _ h => h) (Or.inl ⟨by rfl, ?_⟩) ?_ ?_
    rotate_left
    · intro w'
      go_simp
      with_reducible rfl
    rotate_left
    · simp only [Act.put, List.setIfInBounds_toArray, List.set_cons_zero, List.set_cons_succ, i64_w, i32_w]
      rfl
    refine pure_ (i := 30) (N := some 125) (v := ?_) (a' := ?_) (laws_FnEpochs.d 31) rfl rfl (any_of HT_.out (by kernel_rfl)) (fun _ _ _ h => h) (Or.inl ⟨by rfl, ?_⟩) ?_ ?_
    rotate_left
    · intro w'
      go_simp
      with_reducible rfl
    rotate_left
    · simp only [Act.put, List.setIfInBounds_toArray, List.set_cons_zero, List.set_cons_succ, i64_w, i32_w]
      rfl
    refine pure_ (i := 31) (N := some 126) (v := ?_) (a' := ?_) (laws_FnEpochs.d 32) rfl rfl (any_of HT_.out (by kernel_rfl)) (fun _ _ _ h => h) (Or.inl ⟨by rfl, ?_⟩) ?_ ?_
    rotate_left
    · intro w'
      go_simp
      with_reducible rfl
    rotate_left
    · simp only [Act.put, List.setIfInBounds_toArray, List.set_cons_zero, List.set_cons_succ, i64_w, i32_w]
      rfl
    refine take_ (i := 32) (N := some 127) (v := ?_) (a' := ?_) (laws_FnEpochs.d 33) rfl rfl (take_ofW HT_.out HW_.out (by kernel_rfl)) (fun _ _ _ h => h) (Or.inl ⟨by rfl, ?_⟩) hHeld ?_ ?_
    rotate_left
    · rintro w' ⟨s0, s1, s2, s3, s4, s5, s6, s7, s8, s9, s10, s11, s12, s13, s14, s15, s16, s17, s18, s19, s20, s21, s22, s23, s24, s25, s26, s27, s28, s29, s30, s31, s32⟩
      go_simp
      with_reducible rfl
    rotate_left
    · simp only [Act.put, List.setIfInBounds_toArray, List.set_cons_zero, List.set_cons_succ, i64_w, i32_w]
      rfl
    refine take_ (i := 33) (N := some 128) (v := ?_) (a' := ?_) (laws_FnEpochs.d 34) rfl rfl (take_ofW HT_.out HW_.out (by kernel_rfl)) (fun _ _ _ h => h) (Or.inl ⟨by rfl, ?_⟩) hHeld ?_ ?_
    rotate_left
    · rintro w' ⟨s0, s1, s2, s3, s4, s5, s6, s7, s8, s9, s10, s11, s12, s13, s14, s15, s16, s17, s18, s19, s20, s21, s22, s23, s24, s25, s26, s27, s28, s29, s30, s31, s32⟩
      go_simp
      with_reducible rfl
    rotate_left
    · simp only [Act.put, List.setIfInBounds_toArray, List.set_cons_zero, List.set_cons_succ, i64_w, i32_w]
      rfl
    refine one_ (i := 34) (N := some 129) (laws_FnEpochs.d 35) rfl rfl (one_of HT_.out (by kernel_rfl)) (by decide) (fun K hK => ?_)
    refine goes_ Try.func41 (by kernel_rfl) rfl #[.agg #[.int .i64 t1204, .slice Ao75 t1205.length co75, .slice Ao76 t1208.length co76], .agg #[.int .i64 t1213, .slice Ao88 t1214.length co88, .slice Ao89 t1217.length co89]] (by rfl) rfl rfl (by (try simp only [List.map_toArray, List.map_cons, List.map_nil]); first | done | rfl | (simp only [List.length_drop, List.length_take]; rfl)) ?_
    with_reducible refine (laws_sameEpochs.calls k t1204 _ _ t1205 _ _ t1208 t1213 _ _ t1214 _ _ t1217 true _ ?side1 ?side2 ?side3 ?side4 ?side5 ?side6 ?side7 ?side8 A193.out).mono ?_
    (case side1 => exact EA.out.at_.2.2.2.2.2.2.1.r1)
    (case side2 => exact EA.out.at_.2.2.2.2.2.2.1.k1)
    (case side3 => exact EA.out.at_.2.2.2.2.2.2.1.r2)
    (case side4 => exact EA.out.at_.2.2.2.2.2.2.1.k2)
    (case side5 => exact EA.out.at_.2.2.2.2.2.2.2.1.r1)
    (case side6 => exact EA.out.at_.2.2.2.2.2.2.2.1.k1)
    (case side7 => exact EA.out.at_.2.2.2.2.2.2.2.1.r2)
    (case side8 => exact EA.out.at_.2.2.2.2.2.2.2.1.k2)
    rintro e w211 ⟨rfl, hb⟩
    refine ⟨_, rfl, ?_⟩
    replace HB := Aside0.mk (below_step HB.out hb)
    replace EA := Aside0.mk (Stay.up EA.out hb)
    (try clear hb)
    (try clear ho0)
    (try clear ho1)
    refine hK.out _ _ (hS.out _ EA.out) (fun hHeld => ?_)
    clear hK K
    refine norm_ (a' := ?_) ?_ ?_
    rotate_left
    · show Act.put _ (some 129) _ = _
      simp only [Act.put, List.setIfInBounds_toArray, List.set_cons_zero, List.set_cons_succ, i64_w, i32_w]
      rfl
    refine pure_ (i := 35) (N := some 130) (v := ?_) (a' := ?_) (laws_FnEpochs.d 36) rfl rfl (any_of HT_.out (by kernel_rfl)) (fun _ _ _ h => h) (Or.inl ⟨by rfl, ?_⟩) ?_ ?_
    rotate_left
    · intro w'
      go_simp
      with_reducible rfl
    rotate_left
    · simp only [Act.put, List.setIfInBounds_toArray, List.set_cons_zero, List.set_cons_succ, i64_w, i32_w]
      rfl
    refine pure_ (i := 36) (N := some 131) (v := ?_) (a' := ?_) (laws_FnEpochs.d 37) rfl rfl (any_of HT_.out (by kernel_rfl)) (fun _ _ _ h => h) (Or.inl ⟨by rfl, ?_⟩) ?_ ?_
    rotate_left
    · intro w'
      go_simp
      with_reducible rfl
    rotate_left
    · simp only [Act.put, List.setIfInBounds_toArray, List.set_cons_zero, List.set_cons_succ, i64_w, i32_w]
      rfl
    refine pure_ (i := 37) (N := some 132) (v := ?_) (a' := ?_) (laws_FnEpochs.d 38) rfl rfl (any_of HT_.out (by kernel_rfl)) (fun _ _ _ h => h) (Or.inl ⟨by rfl, ?_⟩) ?_ ?_
    rotate_left
    · intro w'
      go_simp
      with_reducible rfl
    rotate_left
    · simp only [Act.put, List.setIfInBounds_toArray, List.set_cons_zero, List.set_cons_succ, i64_w, i32_w]
      rfl
    refine pure_ (i := 38) (N := some 133) (v := ?_) (a' := ?_) (laws_FnEpochs.d 39) rfl rfl (any_of HT_.out (by kernel_rfl)) (fun _ _ _ h => h) (Or.inl ⟨by rfl, ?_⟩) ?_ ?_
    rotate_left
    · intro w'
      go_simp
      with_reducible rfl
    rotate_left
    · simp only [Act.put, List.setIfInBounds_toArray, List.set_cons_zero, List.set_cons_succ, i64_w, i32_w]
      rfl
    refine pure_ (i := 39) (N := some 134) (v := ?_) (a' := ?_) (laws_FnEpochs.d 40) rfl rfl (any_of HT_.out (by kernel_rfl)) (fun _ _ _ h => h) (Or.inl ⟨by rfl, ?_⟩) ?_ ?_
    rotate_left
    · intro w'
      go_simp
      with_reducible rfl
    rotate_left
    · simp only [Act.put, List.setIfInBounds_toArray, List.set_cons_zero, List.set_cons_succ, i64_w, i32_w]
      rfl
    refine pure_ (i := 40) (N := some 135) (v := ?_) (a' := ?_) (laws_FnEpochs.d 41) rfl rfl (any_of HT_.out (by kernel_rfl)) (fun _ _ _ h => h) (Or.inl ⟨by rfl, ?_⟩) ?_ ?_
    rotate_left
    · intro w'
      go_simp
      with_reducible rfl
    rotate_left
    · simp only [Act.put, List.setIfInBounds_toArray, List.set_cons_zero, List.set_cons_succ, i64_w, i32_w]
      rfl
    refine pure_ (i := 41) (N := some 136) (v := ?_) (a' := ?_) (laws_FnEpochs.d 42) rfl rfl (any_of HT_.out (by kernel_rfl)) (fun _ _ _ h => h) (Or.inl ⟨by rfl, ?_⟩) ?_ ?_
    rotate_left
    · intro w'
      go_simp
      with_reducible rfl
    rotate_left
    · simp only [Act.put, List.setIfInBounds_toArray, List.set_cons_zero, List.set_cons_succ, i64_w, i32_w]
      rfl
    refine take_ (i := 42) (N := some 137) (v := ?_) (a' := ?_) (laws_FnEpochs.d 43) rfl rfl (take_ofW HT_.out HW_.out (by kernel_rfl)) (fun _ _ _ h => h) (Or.inl ⟨by rfl, ?_⟩) hHeld ?_ ?_
    rotate_left
    · rintro w' ⟨s0, s1, s2, s3, s4, s5, s6, s7, s8, s9, s10, s11, s12, s13, s14, s15, s16, s17, s18, s19, s20, s21, s22, s23, s24, s25, s26, s27, s28, s29, s30, s31, s32⟩
      go_simp
      with_reducible rfl
    rotate_left
    · simp only [Act.put, List.setIfInBounds_toArray, List.set_cons_zero, List.set_cons_succ, i64_w, i32_w]
      rfl
    refine take_ (i := 43) (N := some 138) (v := ?_) (a' := ?_) (laws_FnEpochs.d 44) rfl rfl (take_ofW HT_.out HW_.out (by kernel_rfl)) (fun _ _ _ h => h) (Or.inl ⟨by rfl, ?_⟩) hHeld ?_ ?_
    rotate_left
    · rintro w' ⟨s0, s1, s2, s3, s4, s5, s6, s7, s8, s9, s10, s11, s12, s13, s14, s15, s16, s17, s18, s19, s20, s21, s22, s23, s24, s25, s26, s27, s28, s29, s30, s31, s32⟩
      go_simp
      with_reducible rfl
    rotate_left
    · simp only [Act.put, List.setIfInBounds_toArray, List.set_cons_zero, List.set_cons_succ, i64_w, i32_w]
      rfl
    refine one_ (i := 44) (N := some 139) (laws_FnEpochs.d 45) rfl rfl (one_of HT_.out (by kernel_rfl)) (by decide) (fun K hK => ?_)
    refine goes_ Try.func41 (by kernel_rfl) rfl #[.agg #[.int .i64 t1222, .slice Ao102 t1223.length co102, .slice Ao103 t1226.length co103], .agg #[.int .i64 t1231, .slice Ao117 t1232.length co117, .slice Ao118 t1235.length co118]] (by rfl) rfl rfl (by (try simp only [List.map_toArray, List.map_cons, List.map_nil]); first | done | rfl | (simp only [List.length_drop, List.length_take]; rfl)) ?_
    with_reducible refine (laws_sameEpochs.calls k t1222 _ _ t1223 _ _ t1226 t1231 _ _ t1232 _ _ t1235 true _ ?side1 ?side2 ?side3 ?side4 ?side5 ?side6 ?side7 ?side8 A196.out).mono ?_
    (case side1 => exact EA.out.at_.2.2.2.2.2.2.2.2.1.r1)
    (case side2 => exact EA.out.at_.2.2.2.2.2.2.2.2.1.k1)
    (case side3 => exact EA.out.at_.2.2.2.2.2.2.2.2.1.r2)
    (case side4 => exact EA.out.at_.2.2.2.2.2.2.2.2.1.k2)
    (case side5 => exact EA.out.at_.2.2.2.2.2.2.2.2.2.1.r1)
    (case side6 => exact EA.out.at_.2.2.2.2.2.2.2.2.2.1.k1)
    (case side7 => exact EA.out.at_.2.2.2.2.2.2.2.2.2.1.r2)
    (case side8 => exact EA.out.at_.2.2.2.2.2.2.2.2.2.1.k2)
    rintro e w212 ⟨rfl, hb⟩
    refine ⟨_, rfl, ?_⟩
    replace HB := Aside0.mk (below_step HB.out hb)
    replace EA := Aside0.mk (Stay.up EA.out hb)
    (try clear hb)
    (try clear ho0)
    (try clear ho1)
    refine hK.out _ _ (hS.out _ EA.out) (fun hHeld => ?_)
    clear hK K
    refine norm_ (a' := ?_) ?_ ?_
    rotate_left
    · show Act.put _ (some 139) _ = _
      simp only [Act.put, List.setIfInBounds_toArray, List.set_cons_zero, List.set_cons_succ, i64_w, i32_w]
      rfl
    refine pure_ (i := 45) (N := some 140) (v := ?_) (a' := ?_) (laws_FnEpochs.d 46) rfl rfl (any_of HT_.out (by kernel_rfl)) (fun _ _ _ h => h) (Or.inl ⟨by rfl, ?_⟩) ?_ ?_
    rotate_left
    · intro w'
      go_simp
      with_reducible rfl
    rotate_left
    · simp only [Act.put, List.setIfInBounds_toArray, List.set_cons_zero, List.set_cons_succ, i64_w, i32_w]
      rfl
    refine pure_ (i := 46) (N := some 141) (v := ?_) (a' := ?_) (laws_FnEpochs.d 47) rfl rfl (any_of HT_.out (by kernel_rfl)) (fun _ _ _ h => h) (Or.inl ⟨by rfl, ?_⟩) ?_ ?_
    rotate_left
    · intro w'
      go_simp
      with_reducible rfl
    rotate_left
    · simp only [Act.put, List.setIfInBounds_toArray, List.set_cons_zero, List.set_cons_succ, i64_w, i32_w]
      rfl
    refine pure_ (i := 47) (N := some 142) (v := ?_) (a' := ?_) (laws_FnEpochs.d 48) rfl rfl (any_of HT_.out (by kernel_rfl)) (fun _ _ _ h => h) (Or.inl ⟨by rfl, ?_⟩) ?_ ?_
    rotate_left
    · intro w'
      go_simp
      with_reducible rfl
    rotate_left
    · simp only [Act.put, List.setIfInBounds_toArray, List.set_cons_zero, List.set_cons_succ, i64_w, i32_w]
      rfl
    refine pure_ (i := 48) (N := some 143) (v := ?_) (a' := ?_) (laws_FnEpochs.d 49) rfl rfl (any_of HT_.out (by kernel_rfl)) (fun _ _ _ h => h) (Or.inl ⟨by rfl, ?_⟩) ?_ ?_
    rotate_left
    · intro w'
      go_simp
      with_reducible rfl
    rotate_left
    · simp only [Act.put, List.setIfInBounds_toArray, List.set_cons_zero, List.set_cons_succ, i64_w, i32_w]
      rfl
    refine one_ (i := 49) (N := some 144) (laws_FnEpochs.d 50) rfl rfl (one_of HT_.out (by kernel_rfl)) (by decide) (fun K hK => ?_)
    refine goes_ Try.func42 (by kernel_rfl) rfl #[.slice Ao179 t1247.length co179, .slice Ao180 t1258.length co180] (by rfl) rfl rfl (by (try simp only [List.map_toArray, List.map_cons, List.map_nil]); first | done | rfl | (simp only [List.length_drop, List.length_take]; rfl)) ?_
    with_reducible refine (laws_sameInts.calls k _ _ t1247 _ _ t1258 true _ ?side1 ?side2 ?side3 ?side4 A198.out).mono ?_
    (case side1 => exact EA.out.at_.2.2.2.2.2.2.2.2.2.2.2.2.1.r)
    (case side2 => exact EA.out.at_.2.2.2.2.2.2.2.2.2.2.2.2.1.k)
    (case side3 => exact EA.out.at_.2.2.2.2.2.2.2.2.2.2.2.2.2.r)
    (case side4 => exact EA.out.at_.2.2.2.2.2.2.2.2.2.2.2.2.2.k)
    rintro e w' ⟨rfl, ⟨nd, rfl⟩⟩
    refine ⟨_, rfl, ?_⟩
    replace EA := Aside0.mk (Stay.drewN EA.out nd)
    replace HB := Aside0.mk (pw_below_drewN HB.out nd)
    refine hK.out _ _ (hS.out _ EA.out) (fun hHeld => ?_)
    clear hK K
    refine norm_ (a' := ?_) ?_ ?_
    rotate_left
    · show Act.put _ (some 144) _ = _
      simp only [Act.put, List.setIfInBounds_toArray, List.set_cons_zero, List.set_cons_succ, i64_w, i32_w]
      rfl
    refine pure_ (i := 50) (N := some 145) (v := ?_) (a' := ?_) (laws_FnEpochs.d 51) rfl rfl (any_of HT_.out (by kernel_rfl)) (fun _ _ _ h => h) (Or.inl ⟨by rfl, ?_⟩) ?_ ?_
    rotate_left
    · intro w'
      go_simp
      with_reducible rfl
    rotate_left
    · simp only [Act.put, List.setIfInBounds_toArray, List.set_cons_zero, List.set_cons_succ, i64_w, i32_w]
      rfl
    refine pure_ (i := 51) (N := some 146) (v := ?_) (a' := ?_) (laws_FnEpochs.d 52) rfl rfl (any_of HT_.out (by kernel_rfl)) (fun _ _ _ h => h) (Or.inl ⟨by rfl, ?_⟩) ?_ ?_
    rotate_left
    · intro w'
      go_simp
      with_reducible rfl
    rotate_left
    · simp only [Act.put, List.setIfInBounds_toArray, List.set_cons_zero, List.set_cons_succ, i64_w, i32_w]
      rfl
    refine take_ (i := 52) (N := some 147) (v := ?_) (a' := ?_) (laws_FnEpochs.d 53) rfl rfl (take_ofW HT_.out HW_.out (by kernel_rfl)) (fun _ _ _ h => h) (Or.inl ⟨by rfl, ?_⟩) hHeld ?_ ?_
    rotate_left
    · rintro w' ⟨s0, s1, s2, s3, s4, s5, s6, s7, s8, s9, s10, s11, s12, s13, s14, s15, s16, s17, s18, s19, s20, s21, s22, s23, s24, s25, s26, s27, s28, s29, s30, s31, s32⟩
      go_simp
      with_reducible rfl
    rotate_left
    · simp only [Act.put, List.setIfInBounds_toArray, List.set_cons_zero, List.set_cons_succ, i64_w, i32_w]
      rfl
    refine take_ (i := 53) (N := some 148) (v := ?_) (a' := ?_) (laws_FnEpochs.d 54) rfl rfl (take_ofW HT_.out HW_.out (by kernel_rfl)) (fun _ _ _ h => h) (Or.inl ⟨by rfl, ?_⟩) hHeld ?_ ?_
    rotate_left
    · rintro w' ⟨s0, s1, s2, s3, s4, s5, s6, s7, s8, s9, s10, s11, s12, s13, s14, s15, s16, s17, s18, s19, s20, s21, s22, s23, s24, s25, s26, s27, s28, s29, s30, s31, s32⟩
      go_simp
      with_reducible rfl
    rotate_left
    · simp only [Act.put, List.setIfInBounds_toArray, List.set_cons_zero, List.set_cons_succ, i64_w, i32_w]
      rfl
    refine one_ (i := 54) (N := some 149) (laws_FnEpochs.d 55) rfl rfl (one_of HT_.out (by kernel_rfl)) (by decide) (fun K hK => ?_)
    refine goes_ Try.func41 (by kernel_rfl) rfl #[.agg #[.int .i64 t1240, .slice Ao133 t1241.length co133, .slice Ao134 t1244.length co134], .agg #[.int .i64 t1251, .slice Ao150 t1252.length co150, .slice Ao151 t1255.length co151]] (by rfl) rfl rfl (by (try simp only [List.map_toArray, List.map_cons, List.map_nil]); first | done | rfl | (simp only [List.length_drop, List.length_take]; rfl)) ?_
    with_reducible refine (laws_sameEpochs.calls k t1240 _ _ t1241 _ _ t1244 t1251 _ _ t1252 _ _ t1255 true _ ?side1 ?side2 ?side3 ?side4 ?side5 ?side6 ?side7 ?side8 A200.out).mono ?_
    (case side1 => exact EA.out.at_.2.2.2.2.2.2.2.2.2.2.1.r1)
    (case side2 => exact EA.out.at_.2.2.2.2.2.2.2.2.2.2.1.k1)
    (case side3 => exact EA.out.at_.2.2.2.2.2.2.2.2.2.2.1.r2)
    (case side4 => exact EA.out.at_.2.2.2.2.2.2.2.2.2.2.1.k2)
    (case side5 => exact EA.out.at_.2.2.2.2.2.2.2.2.2.2.2.1.r1)
    (case side6 => exact EA.out.at_.2.2.2.2.2.2.2.2.2.2.2.1.k1)
    (case side7 => exact EA.out.at_.2.2.2.2.2.2.2.2.2.2.2.1.r2)
    (case side8 => exact EA.out.at_.2.2.2.2.2.2.2.2.2.2.2.1.k2)
    rintro e w215 ⟨rfl, hb⟩
    refine ⟨_, rfl, ?_⟩
    replace HB := Aside0.mk (below_step HB.out hb)
    replace EA := Aside0.mk (Stay.up EA.out hb)
    (try clear hb)
    (try clear ho0)
    (try clear ho1)
    refine hK.out _ _ (hS.out _ EA.out) (fun hHeld => ?_)
    clear hK K
    refine norm_ (a' := ?_) ?_ ?_
    rotate_left
    · show Act.put _ (some 149) _ = _
      simp only [Act.put, List.setIfInBounds_toArray, List.set_cons_zero, List.set_cons_succ, i64_w, i32_w]
      rfl
    refine pure_ (i := 55) (N := some 150) (v := ?_) (a' := ?_) (laws_FnEpochs.d 56) rfl rfl (any_of HT_.out (by kernel_rfl)) (fun _ _ _ h => h) (Or.inl ⟨by rfl, ?_⟩) ?_ ?_
    rotate_left
    · intro w'
      go_simp
      with_reducible rfl
    rotate_left
    · simp only [Act.put, List.setIfInBounds_toArray, List.set_cons_zero, List.set_cons_succ, i64_w, i32_w]
      rfl
    refine pure_ (i := 56) (N := some 151) (v := ?_) (a' := ?_) (laws_FnEpochs.d 57) rfl rfl (any_of HT_.out (by kernel_rfl)) (fun _ _ _ h => h) (Or.inl ⟨by rfl, ?_⟩) ?_ ?_
    rotate_left
    · intro w'
      go_simp
      with_reducible rfl
    rotate_left
    · simp only [Act.put, List.setIfInBounds_toArray, List.set_cons_zero, List.set_cons_succ, i64_w, i32_w]
      rfl
    refine take_ (i := 57) (N := some 152) (v := ?_) (a' := ?_) (laws_FnEpochs.d 58) rfl rfl (take_ofW HT_.out HW_.out (by kernel_rfl)) (fun _ _ _ h => h) (Or.inl ⟨by rfl, ?_⟩) hHeld ?_ ?_
    rotate_left
    · rintro w' ⟨s0, s1, s2, s3, s4, s5, s6, s7, s8, s9, s10, s11, s12, s13, s14, s15, s16, s17, s18, s19, s20, s21, s22, s23, s24, s25, s26, s27, s28, s29, s30, s31, s32⟩
      go_simp
      with_reducible rfl
    rotate_left
    · simp only [Act.put, List.setIfInBounds_toArray, List.set_cons_zero, List.set_cons_succ, i64_w, i32_w]
      rfl
    refine take_ (i := 59) (N := some 154) (v := ?_) (a' := ?_) #[true, true, true, true, true, true, true, true, true, true, true, true, true, true, true, true, true, true, true, true, true, true, true, true, true, true, true, true, true, true, true, true, true, true, true, true, true, true, true, true, true, true, true, true, true, true, true, true, true, true, true, true, true, true, true, true, true, true, false, true, false, false, false, false, false, false, false, false, false, false] rfl rfl (take_ofW HT_.out HW_.out (by kernel_rfl)) (fun _ _ _ h => h) (Or.inl ⟨by rfl, ?_⟩) hHeld ?_ ?_
    rotate_left
    · rintro w' ⟨s0, s1, s2, s3, s4, s5, s6, s7, s8, s9, s10, s11, s12, s13, s14, s15, s16, s17, s18, s19, s20, s21, s22, s23, s24, s25, s26, s27, s28, s29, s30, s31, s32⟩
      go_simp
      with_reducible rfl
    rotate_left
    · simp only [Act.put, List.setIfInBounds_toArray, List.set_cons_zero, List.set_cons_succ, i64_w, i32_w]
      rfl
    refine one_ (i := 58) (N := some 153) (laws_FnEpochs.d 60) rfl rfl (one_of HT_.out (by kernel_rfl)) (by decide) (fun K hK => ?_)
    refine goes_ Try.func21 (by kernel_rfl) rfl #[.agg #[.int .i64 t1150, .slice Ao21 t1151.length co21, .slice Ao22 t1154.length co22]] (by rfl) rfl rfl (by (try simp only [List.map_toArray, List.map_cons, List.map_nil]); first | done | rfl | (simp only [List.length_drop, List.length_take]; rfl)) ?_
    with_reducible refine (impl_EpochsOk.calls k t1150 _ _ t1151 _ _ t1154 t1283 _ ?side1 ?side2 ?side3 ?side4 A202.out).mono ?_
    (case side1 => exact EA.out.at_.1.r1)
    (case side2 => exact EA.out.at_.1.k1)
    (case side3 => exact EA.out.at_.1.r2)
    (case side4 => exact EA.out.at_.1.k2)
    rintro e w216 ⟨rfl, hb⟩
    refine ⟨_, rfl, ?_⟩
    replace HB := Aside0.mk (below_step HB.out hb)
    replace EA := Aside0.mk (Stay.up EA.out hb)
    (try clear hb)
    (try clear ho0)
    (try clear ho1)
    refine hK.out _ _ (hS.out _ EA.out) (fun hHeld => ?_)
    clear hK K
    refine norm_ (a' := ?_) ?_ ?_
    rotate_left
    · show Act.put _ (some 153) _ = _
      simp only [Act.put, List.setIfInBounds_toArray, List.set_cons_zero, List.set_cons_succ, i64_w, i32_w]
      rfl
    refine one_ (i := 60) (N := some 155) (laws_FnEpochs.d 61) rfl rfl (one_of HT_.out (by kernel_rfl)) (by decide) (fun K hK => ?_)
    refine goes_ Try.func19 (by kernel_rfl) rfl #[.agg #[.int .i64 t1150, .slice Ao21 t1151.length co21, .slice Ao22 t1154.length co22]] (by rfl) rfl rfl (by (try simp only [List.map_toArray, List.map_cons, List.map_nil]); first | done | rfl | (simp only [List.length_drop, List.length_take]; rfl)) ?_
    with_reducible refine (spec_EpochsOk.calls k t1150 _ _ t1151 _ _ t1154 t1284 _ ?side1 ?side2 ?side3 ?side4 A203.out).mono ?_
    (case side1 => exact EA.out.at_.1.r1)
    (case side2 => exact EA.out.at_.1.k1)
    (case side3 => exact EA.out.at_.1.r2)
    (case side4 => exact EA.out.at_.1.k2)
    rintro e w217 ⟨rfl, hb⟩
    refine ⟨_, rfl, ?_⟩
    replace HB := Aside0.mk (below_step HB.out hb)
    replace EA := Aside0.mk (Stay.up EA.out hb)
    (try clear hb)
    (try clear ho0)
    (try clear ho1)
    refine hK.out _ _ (hS.out _ EA.out) (fun hHeld => ?_)
    clear hK K
    refine norm_ (a' := ?_) ?_ ?_
    rotate_left
    · show Act.put _ (some 155) _ = _
      simp only [Act.put, List.setIfInBounds_toArray, List.set_cons_zero, List.set_cons_succ, i64_w, i32_w]
      rfl
    refine pure_ (i := 61) (N := some 156) (v := ?_) (a' := ?_) (laws_FnEpochs.d 62) rfl rfl (any_of HT_.out (by kernel_rfl)) (fun _ _ _ h => h) (Or.inl ⟨by rfl, ?_⟩) ?_ ?_
    rotate_left
    · intro w'
      go_simp
      with_reducible rfl
    rotate_left
    · simp only [Act.put, List.setIfInBounds_toArray, List.set_cons_zero, List.set_cons_succ, i64_w, i32_w]
      rfl
    refine pure_ (i := 62) (N := some 157) (v := ?_) (a' := ?_) (laws_FnEpochs.d 63) rfl rfl (any_of HT_.out (by kernel_rfl)) (fun _ _ _ h => h) (Or.inl ⟨by rfl, ?_⟩) ?_ ?_
    rotate_left
    · intro w'
      go_simp
      with_reducible rfl
    rotate_left
    · simp only [Act.put, List.setIfInBounds_toArray, List.set_cons_zero, List.set_cons_succ, i64_w, i32_w]
      rfl
    refine pure_ (i := 63) (N := some 158) (v := ?_) (a' := ?_) (laws_FnEpochs.d 64) rfl rfl (any_of HT_.out (by kernel_rfl)) (fun _ _ _ h => h) (Or.inl ⟨by rfl, ?_⟩) ?_ ?_
    rotate_left
    · intro w'
      go_simp
      with_reducible rfl
    rotate_left
    · simp only [Act.put, List.setIfInBounds_toArray, List.set_cons_zero, List.set_cons_succ, i64_w, i32_w]
      rfl
    refine one_ (i := 64) (N := some 159) (laws_FnEpochs.d 65) rfl rfl (one_of HT_.out (by kernel_rfl)) (by decide) (fun K hK => ?_)
    refine goes_ Try.func14 (by kernel_rfl) rfl #[.int .i64 9] (by rfl) rfl rfl (by (try simp only [List.map_toArray, List.map_cons, List.map_nil]); first | done | rfl | (simp only [List.length_drop, List.length_take]; rfl)) ?_
    with_reducible refine (impl_EpochsNew.calls 9 t1285 t1286 t1289 _ A205.out).mono ?_
    rintro e w218 ⟨v1287, v1290, rfl, ho0, ho1, hb⟩
    refine ⟨_, rfl, ?_⟩
    replace HB := Aside0.mk (below_step HB.out hb)
    replace EA := Aside0.mk (Stay.up EA.out hb)
    obtain ⟨Ao219, co219, eo219⟩ := Kd.R_slice ho1
    subst eo219
    obtain ⟨Ao220, co220, eo220⟩ := Kd.R_slice ho0
    subst eo220
    (try clear hb)
    (try clear ho0)
    (try clear ho1)
    refine hK.out _ _ (hS.out _ EA.out) (fun hHeld => ?_)
    clear hK K
    refine norm_ (a' := ?_) ?_ ?_
    rotate_left
    · show Act.put _ (some 159) _ = _
      simp only [Act.put, List.setIfInBounds_toArray, List.set_cons_zero, List.set_cons_succ, i64_w, i32_w]
      rfl
    refine pure_ (i := 65) (N := some 160) (v := ?_) (a' := ?_) (laws_FnEpochs.d 66) rfl rfl (any_of HT_.out (by kernel_rfl)) (fun _ _ _ h => h) (Or.inl ⟨by rfl, ?_⟩) ?_ ?_
    rotate_left
    · intro w'
      go_simp
      with_reducible rfl
    rotate_left
    · simp only [Act.put, List.setIfInBounds_toArray, List.set_cons_zero, List.set_cons_succ, i64_w, i32_w]
      rfl
    refine pure_ (i := 66) (N := some 161) (v := ?_) (a' := ?_) (laws_FnEpochs.d 67) rfl rfl (any_of HT_.out (by kernel_rfl)) (fun _ _ _ h => h) (Or.inl ⟨by rfl, ?_⟩) ?_ ?_
    rotate_left
    · intro w'
      go_simp
      with_reducible rfl
    rotate_left
    · simp only [Act.put, List.setIfInBounds_toArray, List.set_cons_zero, List.set_cons_succ, i64_w, i32_w]
      rfl
    refine pure_ (i := 67) (N := some 162) (v := ?_) (a' := ?_) (laws_FnEpochs.d 68) rfl rfl (any_of HT_.out (by kernel_rfl)) (fun _ _ _ h => h) (Or.inl ⟨by rfl, ?_⟩) ?_ ?_
    rotate_left
    · intro w'
      go_simp
      with_reducible rfl
    rotate_left
    · simp only [Act.put, List.setIfInBounds_toArray, List.set_cons_zero, List.set_cons_succ, i64_w, i32_w]
      rfl
    refine pure_ (i := 68) (N := some 163) (v := ?_) (a' := ?_) (laws_FnEpochs.d 69) rfl rfl (any_of HT_.out (by kernel_rfl)) (fun _ _ _ h => h) (Or.inl ⟨by rfl, ?_⟩) ?_ ?_
    rotate_left
    · intro w'
      go_simp
      with_reducible rfl
    rotate_left
    · simp only [Act.put, List.setIfInBounds_toArray, List.set_cons_zero, List.set_cons_succ, i64_w, i32_w]
      rfl
    refine pure_ (i := 69) (N := some 2) (v := ?_) (a' := ?_) (laws_FnEpochs.d 70) rfl rfl (any_of HT_.out (by kernel_rfl)) (fun _ _ _ h => h) (Or.inl ⟨by rfl, ?_⟩) ?_ ?_
    rotate_left
    · intro w'
      go_simp
      with_reducible rfl
    rotate_left
    · simp only [Act.put, List.setIfInBounds_toArray, List.set_cons_zero, List.set_cons_succ, i64_w, i32_w]
      rfl
    refine done_ (done_of HT_.out (by kernel_rfl)) ?_
    try go_wp2
    go_ret
    exact ⟨by first | rfl | (simp [errW_none, errW_some] <;> rfl) | (simp [*, errW_none, errW_some] <;> rfl), by repeat (first | (with_reducible first | exact HB.out | apply pw_below_drewN | apply below_drew1) | exact HB.out)⟩
end Go.Proofs.Ytdbhpcekjcohdaa.Q
