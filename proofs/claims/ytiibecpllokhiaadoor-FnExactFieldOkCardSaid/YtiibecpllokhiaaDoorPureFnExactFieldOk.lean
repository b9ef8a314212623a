import Derived.Test.YtiibecpllokhiaaDoorFieldOk
import Derived.Test.YtiibecpllokhiaaDoorHead
import Derived.Test.YtiibecpllokhiaaDoorG4
namespace Go.Proofs.YtiibecpllokhiaaDoor.Q
open Go.RowKit Go.Proofs.YtiibecpllokhiaaDoorW.PrintWords Go.Proofs.YtiibecpllokhiaaDoorW.PrintLast Go.Proofs.YtiibecpllokhiaaDoorW.PrintMore
theorem pureFieldOk (a b : ByteArray) (ha : a.size ≤ maxLen) (hb : b.size ≤ maxLen) : ∃ k, laws_FnExactFieldOk.f k a b = some true := by
  refine Ev.rounds (g := fun k => laws_FnExactFieldOk.f k a b) ?_
  simp only [laws_FnExactFieldOk.f, laws_toField.f, Option.bind_some]
  obtain ⟨t, et, ht⟩ := sz_field a b 1048576 (by omega) (by omega) ha hb
  refine Ev.bind et ?_
  rcases ht with ht | ⟨h0, h1⟩
  · exact Ev.yes ht (Ev.now _)
  · exact Ev.no (by omega) (Ev.bind (fieldOk_spec a b (by omega) (by omega)) (Ev.bind (fieldOk_impl a b (by omega) (by omega)) (Ev.no (by simp) (Ev.now _))))

end Go.Proofs.YtiibecpllokhiaaDoor.Q
