import Derived.Test.YtoopdknphikgkaaPdMarkP
import Derived.Test.YtoopdknphikgkaaPdBump
import Derived.Test.YtoopdknphikgkaaPdG111
namespace Go.Proofs.Ytoopdknphikgkaa.Q
open Go.RowKit Go.Proofs.YtoopdknphikgkaaW.PrintWords Go.Proofs.YtoopdknphikgkaaW.PrintLast Go.Proofs.YtoopdknphikgkaaW.PrintMore
def dropK (key : ByteArray) (l : List ByteArray) : List ByteArray := l.filter fun x => !(x.toList == key.toList)
theorem without_l (l : List ByteArray) (key : ByteArray) (hl : l.length ≤ 1048576) (d : Nat) : ∀ i : Nat, i ≤ l.length → l.length - i = d → ∀ o : List ByteArray, o.length ≤ i → Ev (fun k => spec_l13Without.l0 k l key o (i : Int)) (o ++ dropK key (l.drop i)) := by
  induction d with
  | zero => intro i hi hd o ho; refine Ev.succ ?_; simp only [spec_l13Without.l0]; rw [List.drop_eq_nil_of_le (by omega), dropK, List.filter_nil, List.append_nil]; exact Ev.no (by omega) (Ev.now _)
  | succ d ih =>
    intro i hi hd o ho
    have hlt : i < l.length := by omega
    refine Ev.succ ?_
    simp only [spec_l13Without.l0]
    rw [rdS_get l i hlt, wnat i _ hlt (by omega), drop_get l i hlt]
    refine Ev.yes (by omega) (Ev.yes (by omega) ?_)
    by_cases c : l[i].toList = key.toList
    · rw [dropK, List.filter_cons_of_neg (by simp [c])]; exact Ev.yes c (ih (i + 1) (by omega) (by omega) o (by omega))
    · have h := ih (i + 1) (by omega) (by omega) (o ++ [l[i]]) (by simp; omega)
      rw [List.append_assoc, List.singleton_append] at h
      rw [dropK, List.filter_cons_of_pos (by simp [c])]
      exact Ev.no c (Ev.yes (by omega) h)
theorem without_spec (l : List ByteArray) (key : ByteArray) (hl : l.length ≤ 1048576) : Ev (fun k => spec_l13Without.f k l key) (dropK key l) := by
  simp only [spec_l13Without.f]
  have h := without_l l key hl l.length 0 (by omega) (by omega) [] (by simp)
  rw [List.drop_zero, List.nil_append] at h
  exact h
theorem copy_texts (l : List ByteArray) (hl : l.length ≤ 1048576) : impl_copyTexts.f l = some l := by
  simp only [impl_copyTexts.f, Option.bind_some, List.length_nil, List.nil_append]
  rw [if_pos (by omega)]
theorem without_impl (l : List ByteArray) (key : ByteArray) (hl : l.length ≤ 1048576) : impl_withoutKey.f l key = some (dropK key l) := by
  unfold impl_withoutKey.f
  rw [copy_texts l hl]
  rfl
theorem drop_ok (a b : List ByteArray) (l : List (List Int)) (key : ByteArray) (h : PolOk a b l) : PolOk (dropK key a) (dropK key b) l :=
  ⟨Nat.le_trans (List.length_filter_le _ _) h.ha, Nat.le_trans (List.length_filter_le _ _) h.hb, h.hl, h.hg, fun s hs => h.sa s (List.mem_filter.1 hs).1, fun s hs => h.sb s (List.mem_filter.1 hs).1⟩
theorem drop_spec (a b : List ByteArray) (l : List (List Int)) (n : Int) (key : ByteArray) (h : PolOk a b l) : Ev (fun k => spec_PolicyDrop.f k a b l n key) (dropK key a, dropK key b, l, n) := by
  simp only [spec_PolicyDrop.f]
  exact Ev.bind (without_spec a key h.ha) (Ev.bind (without_spec b key h.hb) (Ev.bind (copy_spec l n h.hl h.hg) (Ev.now _)))
theorem drop_impl (a b : List ByteArray) (l : List (List Int)) (n : Int) (key : ByteArray) (h : PolOk a b l) : Ev (fun k => impl_PolicyDrop.f k a b l n key) (dropK key a, dropK key b, l, n) := by
  simp only [impl_PolicyDrop.f, impl_copyPolicy.f]
  exact Ev.bind (Ev.via (copy_texts a h.ha) (Ev.via (copy_texts b h.hb) (Ev.bind (copy_impl l n h.hl h.hg) (Ev.now _)))) (Ev.via (without_impl a key h.ha) (Ev.via (without_impl b key h.hb) (Ev.now _)))
theorem purePolicyDrop (a b : List ByteArray) (l : List (List Int)) (n : Int) (key : ByteArray) (ha : a.length ≤ maxLen) (ha2 : ∀ s ∈ a, s.size ≤ maxLen) (hb : b.length ≤ maxLen) (hb2 : ∀ s ∈ b, s.size ≤ maxLen) (hl : l.length ≤ maxLen) (hg : ∀ r ∈ l, r.length ≤ maxLen ∧ ∀ n ∈ r, (Lit.int .i64 n).wf = true) (_ : (Lit.int .i64 n).wf = true) (_ : key.size ≤ maxLen) : ∃ k, laws_FnExactPolicyDrop.f k a b l n key = some true := by
  refine Ev.rounds (g := fun k => laws_FnExactPolicyDrop.f k a b l n key) ?_
  simp only [laws_FnExactPolicyDrop.f]
  by_cases c : (key.size : Int) > 1048576
  · exact Ev.yes c (Ev.now _)
  · refine Ev.no c ?_
    obtain ⟨t, et, ht⟩ := sz_policy a b l n ha ha2 hb hb2 hl (fun r hr => (hg r hr).1)
    refine Ev.bind et ?_
    rcases ht with ht | ⟨hn, h⟩
    · exact Ev.yes ht (Ev.now _)
    · have tt := to_policy a b l n h
      have h2 := drop_ok a b l key h
      have e1 := drop_spec a b l n key h
      have e2 := drop_impl a b l n key h
      have q := eq_policy (dropK key a) (dropK key b) l n h2
      obtain ⟨mx, hx, _, _, _, m1, _⟩ := mark_policy a b l n h
      obtain ⟨mg, hg2, gW, gM, gS, m2, h3⟩ := mark_policy (dropK key a) (dropK key b) l n h2
      exact Ev.no hn (Ev.bind tt (Ev.bind e1 (Ev.bind tt (Ev.bind e2 (Ev.bind q (Ev.yes rfl (Ev.bind tt (Ev.bind (eq_policy a b l n h) (Ev.yes rfl (Ev.bind m1 (Ev.no (by show ¬ mx < 0; omega) (Ev.bind q (Ev.yes rfl (Ev.bind m2 (Ev.bind (h3 n) (Ev.no (by omega) (Ev.yes rfl (Ev.bind tt (Ev.bind e2 (Ev.bind q (Ev.yes rfl (Ev.bind (h3 n) (Ev.no (by omega) (Ev.yes rfl (Ev.now _)))))))))))))))))))))))))
end Go.Proofs.Ytoopdknphikgkaa.Q
