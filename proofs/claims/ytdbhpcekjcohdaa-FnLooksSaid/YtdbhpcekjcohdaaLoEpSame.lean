import Derived.Test.YtdbhpcekjcohdaaLoEpOk
import Derived.Test.YtdbhpcekjcohdaaLoG52
namespace Go.Proofs.Ytdbhpcekjcohdaa.Q
open Go.RowKit Go.Proofs.YtdbhpcekjcohdaaW.PrintWords Go.Proofs.YtdbhpcekjcohdaaW.PrintLast Go.Proofs.YtdbhpcekjcohdaaW.PrintMore
theorem copy_spec (a : Int) (l1 : List Int) (l2 : List S57) (h1 : l1.length ≤ 2000000) (h2 : l2.length ≤ 2000000) : spec_l08Copy.f a l1 l2 = some (a, l1, l2) := by
  simp only [spec_l08Copy.f, Option.bind_some, List.length_nil, List.nil_append]; rw [if_pos (by omega), if_pos (by omega)]
theorem copy_impl (a : Int) (l1 : List Int) (l2 : List S57) (h1 : l1.length ≤ 2000000) (h2 : l2.length ≤ 2000000) : impl_copyEpochs.f a l1 l2 = some (a, l1, l2) := by
  simp only [impl_copyEpochs.f, impl_copyInts.f, Option.bind_some, List.length_nil, List.nil_append]; rw [if_pos (by omega)]; simp only [Option.bind_some]; rw [if_pos (by omega)]
end Go.Proofs.Ytdbhpcekjcohdaa.Q
