/-
  No cell of these rows narrows 'for every input' (looked for: loops, veiled, ifaces, maps, wideKeys, modest, calm, conditions, laid).
  DERIVED. THE GIVEN ROWS OF THIS SEAT. 10 by the template 'for every input the law returns true; each argument reads behind the call as it read before'; 0 by the template 'total and deterministic' (their statements: YtdbhpcekjcohdaaTotals.lean).
  GIVEN WITH THE SEED: the statements are not yours to turn. If you find one false, say at which input.
  Laid BY PROGRAM, IN A SANDBOX (cutbox-rows.mjs): the forced cells as the released guide's own fill.sh prints them over the translation 2dd939d7a6c43917… (all of the seat's roots in one cut). By AI agents, Wed Nov 11 2026. No macro, syntax, notation, axiom, sorry.
-/
import Derived.Test.YtdbhpcekjcohdaaChecked
import GoSem.Claim
import GoSem.ClaimJoined
import GoSem.ClaimMapViews
import Derived.JoinedTies
import Derived.KernelRfl
namespace Go.Proofs.Ytdbhpcekjcohdaa
/- THE CELL 'sum', in the pinned program and in every row, IS THE sha256 OF THE DUMP (.gsa) THAT YtdbhpcekjcohdaaProg.lean LOADS. Nothing in Lean hashes anything: it is a label: what it is worth is what the hold of that sum in a sandbox is worth. -/
noncomputable def Try.pinned : Pinned := { name := "ytdbhpcekjcohdaa", sum := "2dd939d7a6c43917370ac90ab8f89723a514fba75a63a17f786b460b2e13096f", checked := Try.checked }
namespace Rows
def none {H : Type} : Left H := { results := [], args := [] }

/-- 'laws.FnExactEpochsNew': WHATEVER THE INPUT: true; the input reads as it did. -/
def fnExactEpochsNewSpec : ChangeSpec := { name := "fnExactEpochsNew", fn := fun _ => fun
  | [d] => { results := [.lit (.bool true)], args := [d] }
  | _ => none }
def fnExactEpochsNewRow : OpenClaim := { program := "ytdbhpcekjcohdaa", sum := "2dd939d7a6c43917370ac90ab8f89723a514fba75a63a17f786b460b2e13096f", func := "loop.example/g00245/laws.FnExactEpochsNew", spec := "fnExactEpochsNew", apart := false }
def FnExactEpochsNewSaid : Prop := fnExactEpochsNewRow.holds Try.pinned (OpenSpec.ofChange fnExactEpochsNewSpec)

/-- ITS FALSE NEIGHBOUR: 'it returns false'. Refute it at one input. -/
def fnExactEpochsNewWrong : ChangeSpec := { name := "fnExactEpochsNew", fn := fun _ => fun
  | [d] => { results := [.lit (.bool false)], args := [d] }
  | _ => none }
def FnExactEpochsNewWrongFalsely : Prop := fnExactEpochsNewRow.holds Try.pinned (OpenSpec.ofChange fnExactEpochsNewWrong)

/-- 'laws.FnExactEpochsOk': WHATEVER THE INPUT: true; the input reads as it did. -/
def fnExactEpochsOkSpec : ChangeSpec := { name := "fnExactEpochsOk", fn := fun _ => fun
  | [d] => { results := [.lit (.bool true)], args := [d] }
  | _ => none }
def fnExactEpochsOkRow : OpenClaim := { program := "ytdbhpcekjcohdaa", sum := "2dd939d7a6c43917370ac90ab8f89723a514fba75a63a17f786b460b2e13096f", func := "loop.example/g00245/laws.FnExactEpochsOk", spec := "fnExactEpochsOk", apart := false }
def FnExactEpochsOkSaid : Prop := fnExactEpochsOkRow.holds Try.pinned (OpenSpec.ofChange fnExactEpochsOkSpec)

/-- ITS FALSE NEIGHBOUR: 'it returns false'. Refute it at one input. -/
def fnExactEpochsOkWrong : ChangeSpec := { name := "fnExactEpochsOk", fn := fun _ => fun
  | [d] => { results := [.lit (.bool false)], args := [d] }
  | _ => none }
def FnExactEpochsOkWrongFalsely : Prop := fnExactEpochsOkRow.holds Try.pinned (OpenSpec.ofChange fnExactEpochsOkWrong)

/-- 'laws.FnExactPinLook': WHATEVER THE INPUT: true; the input reads as it did. -/
def fnExactPinLookSpec : ChangeSpec := { name := "fnExactPinLook", fn := fun _ => fun
  | [d1, d2] => { results := [.lit (.bool true)], args := [d1, d2] }
  | _ => none }
def fnExactPinLookRow : OpenClaim := { program := "ytdbhpcekjcohdaa", sum := "2dd939d7a6c43917370ac90ab8f89723a514fba75a63a17f786b460b2e13096f", func := "loop.example/g00245/laws.FnExactPinLook", spec := "fnExactPinLook", apart := false }
def FnExactPinLookSaid : Prop := fnExactPinLookRow.holds Try.pinned (OpenSpec.ofChange fnExactPinLookSpec)

/-- ITS FALSE NEIGHBOUR: 'it returns false'. Refute it at one input. -/
def fnExactPinLookWrong : ChangeSpec := { name := "fnExactPinLook", fn := fun _ => fun
  | [d1, d2] => { results := [.lit (.bool false)], args := [d1, d2] }
  | _ => none }
def FnExactPinLookWrongFalsely : Prop := fnExactPinLookRow.holds Try.pinned (OpenSpec.ofChange fnExactPinLookWrong)

/-- 'laws.FnExactUnpinLook': WHATEVER THE INPUT: true; the input reads as it did. -/
def fnExactUnpinLookSpec : ChangeSpec := { name := "fnExactUnpinLook", fn := fun _ => fun
  | [d1, d2] => { results := [.lit (.bool true)], args := [d1, d2] }
  | _ => none }
def fnExactUnpinLookRow : OpenClaim := { program := "ytdbhpcekjcohdaa", sum := "2dd939d7a6c43917370ac90ab8f89723a514fba75a63a17f786b460b2e13096f", func := "loop.example/g00245/laws.FnExactUnpinLook", spec := "fnExactUnpinLook", apart := false }
def FnExactUnpinLookSaid : Prop := fnExactUnpinLookRow.holds Try.pinned (OpenSpec.ofChange fnExactUnpinLookSpec)

/-- ITS FALSE NEIGHBOUR: 'it returns false'. Refute it at one input. -/
def fnExactUnpinLookWrong : ChangeSpec := { name := "fnExactUnpinLook", fn := fun _ => fun
  | [d1, d2] => { results := [.lit (.bool false)], args := [d1, d2] }
  | _ => none }
def FnExactUnpinLookWrongFalsely : Prop := fnExactUnpinLookRow.holds Try.pinned (OpenSpec.ofChange fnExactUnpinLookWrong)

/-- 'laws.FnExactFreeNodes': WHATEVER THE INPUT: true; the input reads as it did. -/
def fnExactFreeNodesSpec : ChangeSpec := { name := "fnExactFreeNodes", fn := fun _ => fun
  | [d] => { results := [.lit (.bool true)], args := [d] }
  | _ => none }
def fnExactFreeNodesRow : OpenClaim := { program := "ytdbhpcekjcohdaa", sum := "2dd939d7a6c43917370ac90ab8f89723a514fba75a63a17f786b460b2e13096f", func := "loop.example/g00245/laws.FnExactFreeNodes", spec := "fnExactFreeNodes", apart := false }
def FnExactFreeNodesSaid : Prop := fnExactFreeNodesRow.holds Try.pinned (OpenSpec.ofChange fnExactFreeNodesSpec)

/-- ITS FALSE NEIGHBOUR: 'it returns false'. Refute it at one input. -/
def fnExactFreeNodesWrong : ChangeSpec := { name := "fnExactFreeNodes", fn := fun _ => fun
  | [d] => { results := [.lit (.bool false)], args := [d] }
  | _ => none }
def FnExactFreeNodesWrongFalsely : Prop := fnExactFreeNodesRow.holds Try.pinned (OpenSpec.ofChange fnExactFreeNodesWrong)

/-- 'laws.FnExactAdvanceEpoch': WHATEVER THE INPUT: true; the input reads as it did. -/
def fnExactAdvanceEpochSpec : ChangeSpec := { name := "fnExactAdvanceEpoch", fn := fun _ => fun
  | [d] => { results := [.lit (.bool true)], args := [d] }
  | _ => none }
def fnExactAdvanceEpochRow : OpenClaim := { program := "ytdbhpcekjcohdaa", sum := "2dd939d7a6c43917370ac90ab8f89723a514fba75a63a17f786b460b2e13096f", func := "loop.example/g00245/laws.FnExactAdvanceEpoch", spec := "fnExactAdvanceEpoch", apart := false }
def FnExactAdvanceEpochSaid : Prop := fnExactAdvanceEpochRow.holds Try.pinned (OpenSpec.ofChange fnExactAdvanceEpochSpec)

/-- ITS FALSE NEIGHBOUR: 'it returns false'. Refute it at one input. -/
def fnExactAdvanceEpochWrong : ChangeSpec := { name := "fnExactAdvanceEpoch", fn := fun _ => fun
  | [d] => { results := [.lit (.bool false)], args := [d] }
  | _ => none }
def FnExactAdvanceEpochWrongFalsely : Prop := fnExactAdvanceEpochRow.holds Try.pinned (OpenSpec.ofChange fnExactAdvanceEpochWrong)

/-- 'laws.FnExactRetireNode': WHATEVER THE INPUT: true; the input reads as it did. -/
def fnExactRetireNodeSpec : ChangeSpec := { name := "fnExactRetireNode", fn := fun _ => fun
  | [d1, d2] => { results := [.lit (.bool true)], args := [d1, d2] }
  | _ => none }
def fnExactRetireNodeRow : OpenClaim := { program := "ytdbhpcekjcohdaa", sum := "2dd939d7a6c43917370ac90ab8f89723a514fba75a63a17f786b460b2e13096f", func := "loop.example/g00245/laws.FnExactRetireNode", spec := "fnExactRetireNode", unfollowed := true, recurses := true, apart := false }
def FnExactRetireNodeSaid : Prop := fnExactRetireNodeRow.holds Try.pinned (OpenSpec.ofChange fnExactRetireNodeSpec)

/-- ITS FALSE NEIGHBOUR: 'it returns false'. Refute it at one input. -/
def fnExactRetireNodeWrong : ChangeSpec := { name := "fnExactRetireNode", fn := fun _ => fun
  | [d1, d2] => { results := [.lit (.bool false)], args := [d1, d2] }
  | _ => none }
def FnExactRetireNodeWrongFalsely : Prop := fnExactRetireNodeRow.holds Try.pinned (OpenSpec.ofChange fnExactRetireNodeWrong)

/-- 'laws.FnLooks': WHATEVER THE INPUT: true; the input reads as it did. -/
def fnLooksSpec : ChangeSpec := { name := "fnLooks", fn := fun _ => fun
  | [d] => { results := [.lit (.bool true)], args := [d] }
  | _ => none }
def fnLooksRow : OpenClaim := { program := "ytdbhpcekjcohdaa", sum := "2dd939d7a6c43917370ac90ab8f89723a514fba75a63a17f786b460b2e13096f", func := "loop.example/g00245/laws.FnLooks", spec := "fnLooks", unfollowed := true, recurses := true, apart := false }
def FnLooksSaid : Prop := fnLooksRow.holds Try.pinned (OpenSpec.ofChange fnLooksSpec)

/-- ITS FALSE NEIGHBOUR: 'it returns false'. Refute it at one input. -/
def fnLooksWrong : ChangeSpec := { name := "fnLooks", fn := fun _ => fun
  | [d] => { results := [.lit (.bool false)], args := [d] }
  | _ => none }
def FnLooksWrongFalsely : Prop := fnLooksRow.holds Try.pinned (OpenSpec.ofChange fnLooksWrong)

/-- 'laws.FnAllFree': WHATEVER THE INPUT: true; the input reads as it did. -/
def fnAllFreeSpec : ChangeSpec := { name := "fnAllFree", fn := fun _ => fun
  | [d] => { results := [.lit (.bool true)], args := [d] }
  | _ => none }
def fnAllFreeRow : OpenClaim := { program := "ytdbhpcekjcohdaa", sum := "2dd939d7a6c43917370ac90ab8f89723a514fba75a63a17f786b460b2e13096f", func := "loop.example/g00245/laws.FnAllFree", spec := "fnAllFree", apart := false }
def FnAllFreeSaid : Prop := fnAllFreeRow.holds Try.pinned (OpenSpec.ofChange fnAllFreeSpec)

/-- ITS FALSE NEIGHBOUR: 'it returns false'. Refute it at one input. -/
def fnAllFreeWrong : ChangeSpec := { name := "fnAllFree", fn := fun _ => fun
  | [d] => { results := [.lit (.bool false)], args := [d] }
  | _ => none }
def FnAllFreeWrongFalsely : Prop := fnAllFreeRow.holds Try.pinned (OpenSpec.ofChange fnAllFreeWrong)

/-- 'laws.FnEpochs': WHATEVER THE INPUT: true; the input reads as it did. -/
def fnEpochsSpec : ChangeSpec := { name := "fnEpochs", fn := fun _ => fun
  | [d] => { results := [.lit (.bool true)], args := [d] }
  | _ => none }
def fnEpochsRow : OpenClaim := { program := "ytdbhpcekjcohdaa", sum := "2dd939d7a6c43917370ac90ab8f89723a514fba75a63a17f786b460b2e13096f", func := "loop.example/g00245/laws.FnEpochs", spec := "fnEpochs", unfollowed := true, recurses := true, apart := false }
def FnEpochsSaid : Prop := fnEpochsRow.holds Try.pinned (OpenSpec.ofChange fnEpochsSpec)

/-- ITS FALSE NEIGHBOUR: 'it returns false'. Refute it at one input. -/
def fnEpochsWrong : ChangeSpec := { name := "fnEpochs", fn := fun _ => fun
  | [d] => { results := [.lit (.bool false)], args := [d] }
  | _ => none }
def FnEpochsWrongFalsely : Prop := fnEpochsRow.holds Try.pinned (OpenSpec.ofChange fnEpochsWrong)

/- THE SECOND FORM. 'bulk': how many values and letters a reading holds, each counted each time it is reached (what is shared counts as often as it is met; a slice's spare places count too). A statement '..UptoSaid' is the law's where the arguments, and the package variables that the reading takes, are together of bulk at most 1048576: NARROWER than '..Said'. Prove '..Said' where nothing that the law and all that it calls make is longer than what came in: it says more and counts as full. Else prove '..UptoSaid'. A law counts once. -/
mutual
def uptoBulk {H : Type} : DataW H → Nat
  | .lit (.string bytes) => bytes.length + 1
  | .lit _ => 1
  | .nil => 1
  | .ptr d => uptoBulk d + 1
  | .slice elems spare => uptoBulkAll elems + uptoBulkAll spare + 1
  | .agg parts => uptoBulkAll parts + 1
  | .iface _ d => uptoBulk d + 1
  | .map entries => uptoBulkEntries entries + 1
  | .held _ => 1
def uptoBulkAll {H : Type} : List (DataW H) → Nat
  | [] => 0
  | d :: r => uptoBulk d + uptoBulkAll r
def uptoBulkEntries {H : Type} : List (Lit × DataW H) → Nat
  | [] => 0
  | x :: r => uptoBulkEntry x + uptoBulkEntries r
def uptoBulkEntry {H : Type} : Lit × DataW H → Nat
  | (.string bytes, d) => bytes.length + uptoBulk d + 1
  | (_, d) => uptoBulk d + 1
 end
def uptoSmall : (H : Type) → List (DataW H) → Bool := fun _ ds => decide (uptoBulkAll ds ≤ 1048576)
def OpenSpec.upto (s : _root_.Go.ChangeSpec) : _root_.Go.OpenSpec := { _root_.Go.OpenSpec.ofChange s with cond := some uptoSmall }

/-- 'laws.FnExactEpochsNew', WHERE WHAT IT READS IS OF BULK AT MOST 1048576: true; the input reads as it did. -/
def fnExactEpochsNewUptoRow : OpenClaim := { program := "ytdbhpcekjcohdaa", sum := "2dd939d7a6c43917370ac90ab8f89723a514fba75a63a17f786b460b2e13096f", func := "loop.example/g00245/laws.FnExactEpochsNew", spec := "fnExactEpochsNew", apart := false, narrowed := true }
def FnExactEpochsNewUptoSaid : Prop := fnExactEpochsNewUptoRow.holds Try.pinned (OpenSpec.upto fnExactEpochsNewSpec)

/-- 'laws.FnExactEpochsOk', WHERE WHAT IT READS IS OF BULK AT MOST 1048576: true; the input reads as it did. -/
def fnExactEpochsOkUptoRow : OpenClaim := { program := "ytdbhpcekjcohdaa", sum := "2dd939d7a6c43917370ac90ab8f89723a514fba75a63a17f786b460b2e13096f", func := "loop.example/g00245/laws.FnExactEpochsOk", spec := "fnExactEpochsOk", apart := false, narrowed := true }
def FnExactEpochsOkUptoSaid : Prop := fnExactEpochsOkUptoRow.holds Try.pinned (OpenSpec.upto fnExactEpochsOkSpec)

/-- 'laws.FnExactPinLook', WHERE WHAT IT READS IS OF BULK AT MOST 1048576: true; the input reads as it did. -/
def fnExactPinLookUptoRow : OpenClaim := { program := "ytdbhpcekjcohdaa", sum := "2dd939d7a6c43917370ac90ab8f89723a514fba75a63a17f786b460b2e13096f", func := "loop.example/g00245/laws.FnExactPinLook", spec := "fnExactPinLook", apart := false, narrowed := true }
def FnExactPinLookUptoSaid : Prop := fnExactPinLookUptoRow.holds Try.pinned (OpenSpec.upto fnExactPinLookSpec)

/-- 'laws.FnExactUnpinLook', WHERE WHAT IT READS IS OF BULK AT MOST 1048576: true; the input reads as it did. -/
def fnExactUnpinLookUptoRow : OpenClaim := { program := "ytdbhpcekjcohdaa", sum := "2dd939d7a6c43917370ac90ab8f89723a514fba75a63a17f786b460b2e13096f", func := "loop.example/g00245/laws.FnExactUnpinLook", spec := "fnExactUnpinLook", apart := false, narrowed := true }
def FnExactUnpinLookUptoSaid : Prop := fnExactUnpinLookUptoRow.holds Try.pinned (OpenSpec.upto fnExactUnpinLookSpec)

/-- 'laws.FnExactFreeNodes', WHERE WHAT IT READS IS OF BULK AT MOST 1048576: true; the input reads as it did. -/
def fnExactFreeNodesUptoRow : OpenClaim := { program := "ytdbhpcekjcohdaa", sum := "2dd939d7a6c43917370ac90ab8f89723a514fba75a63a17f786b460b2e13096f", func := "loop.example/g00245/laws.FnExactFreeNodes", spec := "fnExactFreeNodes", apart := false, narrowed := true }
def FnExactFreeNodesUptoSaid : Prop := fnExactFreeNodesUptoRow.holds Try.pinned (OpenSpec.upto fnExactFreeNodesSpec)

/-- 'laws.FnExactAdvanceEpoch', WHERE WHAT IT READS IS OF BULK AT MOST 1048576: true; the input reads as it did. -/
def fnExactAdvanceEpochUptoRow : OpenClaim := { program := "ytdbhpcekjcohdaa", sum := "2dd939d7a6c43917370ac90ab8f89723a514fba75a63a17f786b460b2e13096f", func := "loop.example/g00245/laws.FnExactAdvanceEpoch", spec := "fnExactAdvanceEpoch", apart := false, narrowed := true }
def FnExactAdvanceEpochUptoSaid : Prop := fnExactAdvanceEpochUptoRow.holds Try.pinned (OpenSpec.upto fnExactAdvanceEpochSpec)

/-- 'laws.FnExactRetireNode', WHERE WHAT IT READS IS OF BULK AT MOST 1048576: true; the input reads as it did. -/
def fnExactRetireNodeUptoRow : OpenClaim := { program := "ytdbhpcekjcohdaa", sum := "2dd939d7a6c43917370ac90ab8f89723a514fba75a63a17f786b460b2e13096f", func := "loop.example/g00245/laws.FnExactRetireNode", spec := "fnExactRetireNode", unfollowed := true, recurses := true, apart := false, narrowed := true }
def FnExactRetireNodeUptoSaid : Prop := fnExactRetireNodeUptoRow.holds Try.pinned (OpenSpec.upto fnExactRetireNodeSpec)

/-- 'laws.FnLooks', WHERE WHAT IT READS IS OF BULK AT MOST 1048576: true; the input reads as it did. -/
def fnLooksUptoRow : OpenClaim := { program := "ytdbhpcekjcohdaa", sum := "2dd939d7a6c43917370ac90ab8f89723a514fba75a63a17f786b460b2e13096f", func := "loop.example/g00245/laws.FnLooks", spec := "fnLooks", unfollowed := true, recurses := true, apart := false, narrowed := true }
def FnLooksUptoSaid : Prop := fnLooksUptoRow.holds Try.pinned (OpenSpec.upto fnLooksSpec)

/-- 'laws.FnAllFree', WHERE WHAT IT READS IS OF BULK AT MOST 1048576: true; the input reads as it did. -/
def fnAllFreeUptoRow : OpenClaim := { program := "ytdbhpcekjcohdaa", sum := "2dd939d7a6c43917370ac90ab8f89723a514fba75a63a17f786b460b2e13096f", func := "loop.example/g00245/laws.FnAllFree", spec := "fnAllFree", apart := false, narrowed := true }
def FnAllFreeUptoSaid : Prop := fnAllFreeUptoRow.holds Try.pinned (OpenSpec.upto fnAllFreeSpec)

/-- 'laws.FnEpochs', WHERE WHAT IT READS IS OF BULK AT MOST 1048576: true; the input reads as it did. -/
def fnEpochsUptoRow : OpenClaim := { program := "ytdbhpcekjcohdaa", sum := "2dd939d7a6c43917370ac90ab8f89723a514fba75a63a17f786b460b2e13096f", func := "loop.example/g00245/laws.FnEpochs", spec := "fnEpochs", unfollowed := true, recurses := true, apart := false, narrowed := true }
def FnEpochsUptoSaid : Prop := fnEpochsUptoRow.holds Try.pinned (OpenSpec.upto fnEpochsSpec)

end Rows
end Go.Proofs.Ytdbhpcekjcohdaa
