import Derived.Test.YtiibecpllokhiaaDoorAtDec
import Derived.Test.YtiibecpllokhiaaDoorAtFieldOf
import Derived.Test.YtiibecpllokhiaaDoorAtHeadText
import Derived.Test.YtiibecpllokhiaaDoorAtG30
namespace Go.Proofs.YtiibecpllokhiaaDoor.Q
open Go.RowKit Go.Proofs.YtiibecpllokhiaaDoorW.PrintWords Go.Proofs.YtiibecpllokhiaaDoorW.PrintLast Go.Proofs.YtiibecpllokhiaaDoorW.PrintMore
def nmLen : ByteArray := ⟨#[99, 111, 110, 116, 101, 110, 116, 45, 108, 101, 110, 103, 116, 104]⟩
def nmCod : ByteArray := ⟨#[116, 114, 97, 110, 115, 102, 101, 114, 45, 101, 110, 99, 111, 100, 105, 110, 103]⟩
theorem hsz_app (l : List S40) (f : S40) : hsz (l ++ [f]) = hsz l + (f.f0.size + f.f1.size + 4) := by
  induction l with
  | nil => simp [hsz]
  | cons g r ih => rw [List.cons_append, hsz, ih, hsz]; omega
def withLen (l : List S40) (b : ByteArray) : List S40 := l ++ [⟨nmLen, decB b.size⟩]
def ansF (a : ByteArray) (l : List S40) (b : ByteArray) : ByteArray × Bool :=
  if (fieldF nmLen l).2 = true ∨ (fieldF nmCod l).2 = true ∨ (b.size : Int) > 400 then (⟨#[]⟩, false) else (if headB a (withLen l b) = true then (headT a (withLen l b) ++ b, true) else (⟨#[]⟩, false))
theorem ans_spec (a : ByteArray) (l : List S40) (b : ByteArray) (hl : l.length ≤ 1048576) (hs : a.size + hsz l ≤ 8388608) (hb : b.size ≤ 1048576) : Ev (fun k => spec_AnswerText.f k a l b) (ansF a l b) := by
  simp only [spec_AnswerText.f, Option.bind_some, List.nil_append]
  have hd := decB_size b.size
  have e1 : hsz (withLen l b) = hsz l + (14 + (decB b.size).size + 4) := hsz_app l _
  have e2 : (withLen l b).length = l.length + 1 := by unfold withLen; simp
  refine Ev.bind (fieldOf_spec a l nmLen (by omega)) (Ev.bind (fieldOf_spec a l nmCod (by omega)) (Ev.yes (by show 0 + l.length < _; omega) (Ev.bind (dec_spec b.size (by omega)) (Ev.yes (by show l.length + 1 < _; omega) ?_))))
  unfold ansF
  by_cases c1 : (fieldF nmLen l).2 = true
  · rw [if_pos (.inl c1)]; exact Ev.yes c1 (Ev.now _)
  · refine Ev.no c1 ?_
    by_cases c2 : (fieldF nmCod l).2 = true
    · rw [if_pos (.inr (.inl c2))]; exact Ev.yes c2 (Ev.now _)
    · refine Ev.no c2 ?_
      by_cases c3 : (b.size : Int) > 400
      · rw [if_pos (.inr (.inr c3))]; exact Ev.yes c3 (Ev.now _)
      · refine Ev.no c3 ?_
        rw [if_neg (fun h => by rcases h with h | h | h; exact c1 h; exact c2 h; exact c3 h)]
        refine Ev.bind (headOk_spec a (withLen l b) (by omega) (by omega)) ?_
        by_cases c4 : headB a (withLen l b) = true
        · rw [if_pos c4]
          exact Ev.yes c4 (Ev.bind (text_spec a (withLen l b) (by omega) (by omega)) (Ev.yes (by rw [headT_size]; omega) (Ev.now _)))
        · rw [if_neg c4]; exact Ev.no c4 (Ev.now _)
theorem ans_impl (a : ByteArray) (l : List S40) (b : ByteArray) (hl : l.length ≤ 1048576) (hs : a.size + hsz l ≤ 8388608) (hb : b.size ≤ 1048576) : Ev (fun k => impl_AnswerText.f k a l b) (ansF a l b) := by
  have jt : Ev (fun k => impl_AnswerText.j0 k b true a l) ((⟨#[]⟩ : ByteArray), false) := by
    refine Ev.succ ?_
    simp only [impl_AnswerText.j0]; exact Ev.yes (by simp) (Ev.now _)
  simp only [impl_AnswerText.f]
  have hd := decB_size b.size
  have e1 : hsz (withLen l b) = hsz l + (14 + (decB b.size).size + 4) := hsz_app l _
  have e2 : (withLen l b).length = l.length + 1 := by unfold withLen; simp
  refine Ev.bind (fieldOf_impl a l nmCod (by omega)) (Ev.bind (fieldOf_impl a l nmLen (by omega)) ?_)
  unfold ansF
  by_cases c2 : (fieldF nmCod l).2 = true
  · rw [if_pos (.inr (.inl c2))]; exact Ev.yes c2 jt
  · refine Ev.no c2 ?_
    by_cases c1 : (fieldF nmLen l).2 = true
    · rw [if_pos (.inl c1)]; exact Ev.yes c1 jt
    · refine Ev.no c1 ?_
      by_cases c3 : (b.size : Int) > 400
      · rw [if_pos (.inr (.inr c3)), decide_eq_true c3]; exact jt
      · rw [if_neg (fun h => by rcases h with h | h | h; exact c1 h; exact c2 h; exact c3 h), decide_eq_false c3]
        refine Ev.succ ?_
        simp only [impl_AnswerText.j0, Option.bind_some, List.nil_append]
        refine Ev.no (by simp) (Ev.yes (by show 0 + l.length < _; omega) (Ev.via (dec_impl b.size (by omega)) (Ev.yes (by omega) (Ev.bind (headText_impl a (withLen l b) (by omega) (by omega)) ?_))))
        unfold headTB
        by_cases c4 : headB a (withLen l b) = true
        · simp only [if_pos c4]
          exact Ev.yes (by simp) (Ev.yes (by rw [headT_size]; omega) (Ev.now _))
        · simp only [if_neg c4]; exact Ev.no (by simp) (Ev.now _)
end Go.Proofs.YtiibecpllokhiaaDoor.Q
