/-
  No cell of these rows narrows 'for every input' (looked for: loops, veiled, ifaces, maps, wideKeys, modest, calm, conditions, laid).
  DERIVED. THE GIVEN ROWS OF THIS SEAT. 7 by the template 'for every input the law returns true; each argument reads behind the call as it read before'; 0 by the template 'total and deterministic' (their statements: YthjigecaojaalaaTotals.lean).
  GIVEN WITH THE SEED: the statements are not yours to turn. If you find one false, say at which input.
  Laid BY PROGRAM, IN A SANDBOX (cutbox-rows.mjs): the forced cells as the released guide's own fill.sh prints them over the translation c7acca8f0e098c5f… (all of the seat's roots in one cut). By AI agents, Wed Nov 11 2026. No macro, syntax, notation, axiom, sorry.
-/
import Derived.Test.YthjigecaojaalaaChecked
import GoSem.Claim
import GoSem.ClaimJoined
import GoSem.ClaimMapViews
import Derived.JoinedTies
import Derived.KernelRfl
namespace Go.Proofs.Ythjigecaojaalaa
/- THE CELL 'sum', in the pinned program and in every row, IS THE sha256 OF THE DUMP (.gsa) THAT YthjigecaojaalaaProg.lean LOADS. Nothing in Lean hashes anything: it is a label: what it is worth is what the hold of that sum in a sandbox is worth. -/
noncomputable def Try.pinned : Pinned := { name := "ythjigecaojaalaa", sum := "c7acca8f0e098c5f3d1eeb245e88dfa07f876a6b76340512067cb88b1bc75c1e", checked := Try.checked }
namespace Rows
def none {H : Type} : Left H := { results := [], args := [] }

/-- 'laws.FnExactLifetime': WHATEVER THE INPUT: true; the input reads as it did. -/
def fnExactLifetimeSpec : ChangeSpec := { name := "fnExactLifetime", fn := fun _ => fun
  | [d] => { results := [.lit (.bool true)], args := [d] }
  | _ => none }
def fnExactLifetimeRow : OpenClaim := { program := "ythjigecaojaalaa", sum := "c7acca8f0e098c5f3d1eeb245e88dfa07f876a6b76340512067cb88b1bc75c1e", func := "loop.example/g00245/laws.FnExactLifetime", spec := "fnExactLifetime", apart := false }
def FnExactLifetimeSaid : Prop := fnExactLifetimeRow.holds Try.pinned (OpenSpec.ofChange fnExactLifetimeSpec)

/-- ITS FALSE NEIGHBOUR: 'it returns false'. Refute it at one input. -/
def fnExactLifetimeWrong : ChangeSpec := { name := "fnExactLifetime", fn := fun _ => fun
  | [d] => { results := [.lit (.bool false)], args := [d] }
  | _ => none }
def FnExactLifetimeWrongFalsely : Prop := fnExactLifetimeRow.holds Try.pinned (OpenSpec.ofChange fnExactLifetimeWrong)

/-- 'laws.FnExactChunkText': WHATEVER THE INPUT: true; the input reads as it did. -/
def fnExactChunkTextSpec : ChangeSpec := { name := "fnExactChunkText", fn := fun _ => fun
  | [d] => { results := [.lit (.bool true)], args := [d] }
  | _ => none }
def fnExactChunkTextRow : OpenClaim := { program := "ythjigecaojaalaa", sum := "c7acca8f0e098c5f3d1eeb245e88dfa07f876a6b76340512067cb88b1bc75c1e", func := "loop.example/g00245/laws.FnExactChunkText", spec := "fnExactChunkText", apart := false }
def FnExactChunkTextSaid : Prop := fnExactChunkTextRow.holds Try.pinned (OpenSpec.ofChange fnExactChunkTextSpec)

/-- ITS FALSE NEIGHBOUR: 'it returns false'. Refute it at one input. -/
def fnExactChunkTextWrong : ChangeSpec := { name := "fnExactChunkText", fn := fun _ => fun
  | [d] => { results := [.lit (.bool false)], args := [d] }
  | _ => none }
def FnExactChunkTextWrongFalsely : Prop := fnExactChunkTextRow.holds Try.pinned (OpenSpec.ofChange fnExactChunkTextWrong)

/-- 'laws.FnExactReadChunks': WHATEVER THE INPUT: true; the input reads as it did. -/
def fnExactReadChunksSpec : ChangeSpec := { name := "fnExactReadChunks", fn := fun _ => fun
  | [d] => { results := [.lit (.bool true)], args := [d] }
  | _ => none }
def fnExactReadChunksRow : OpenClaim := { program := "ythjigecaojaalaa", sum := "c7acca8f0e098c5f3d1eeb245e88dfa07f876a6b76340512067cb88b1bc75c1e", func := "loop.example/g00245/laws.FnExactReadChunks", spec := "fnExactReadChunks", inPlace := ["internal/bytealg.IndexByteString"], apart := false }
def FnExactReadChunksSaid : Prop := fnExactReadChunksRow.holds Try.pinned (OpenSpec.ofChange fnExactReadChunksSpec)

/-- ITS FALSE NEIGHBOUR: 'it returns false'. Refute it at one input. -/
def fnExactReadChunksWrong : ChangeSpec := { name := "fnExactReadChunks", fn := fun _ => fun
  | [d] => { results := [.lit (.bool false)], args := [d] }
  | _ => none }
def FnExactReadChunksWrongFalsely : Prop := fnExactReadChunksRow.holds Try.pinned (OpenSpec.ofChange fnExactReadChunksWrong)

/-- 'laws.FnBodies': WHATEVER THE INPUT: true; the input reads as it did. -/
def fnBodiesSpec : ChangeSpec := { name := "fnBodies", fn := fun _ => fun
  | [d] => { results := [.lit (.bool true)], args := [d] }
  | _ => none }
def fnBodiesRow : OpenClaim := { program := "ythjigecaojaalaa", sum := "c7acca8f0e098c5f3d1eeb245e88dfa07f876a6b76340512067cb88b1bc75c1e", func := "loop.example/g00245/laws.FnBodies", spec := "fnBodies", inPlace := ["internal/bytealg.IndexByteString"], apart := false }
def FnBodiesSaid : Prop := fnBodiesRow.holds Try.pinned (OpenSpec.ofChange fnBodiesSpec)

/-- ITS FALSE NEIGHBOUR: 'it returns false'. Refute it at one input. -/
def fnBodiesWrong : ChangeSpec := { name := "fnBodies", fn := fun _ => fun
  | [d] => { results := [.lit (.bool false)], args := [d] }
  | _ => none }
def FnBodiesWrongFalsely : Prop := fnBodiesRow.holds Try.pinned (OpenSpec.ofChange fnBodiesWrong)

/-- 'laws.FnSmuggled': WHATEVER THE INPUT: true; the input reads as it did. -/
def fnSmuggledSpec : ChangeSpec := { name := "fnSmuggled", fn := fun _ => fun
  | [d] => { results := [.lit (.bool true)], args := [d] }
  | _ => none }
def fnSmuggledRow : OpenClaim := { program := "ythjigecaojaalaa", sum := "c7acca8f0e098c5f3d1eeb245e88dfa07f876a6b76340512067cb88b1bc75c1e", func := "loop.example/g00245/laws.FnSmuggled", spec := "fnSmuggled", inPlace := ["internal/bytealg.IndexByteString"], apart := false }
def FnSmuggledSaid : Prop := fnSmuggledRow.holds Try.pinned (OpenSpec.ofChange fnSmuggledSpec)

/-- ITS FALSE NEIGHBOUR: 'it returns false'. Refute it at one input. -/
def fnSmuggledWrong : ChangeSpec := { name := "fnSmuggled", fn := fun _ => fun
  | [d] => { results := [.lit (.bool false)], args := [d] }
  | _ => none }
def FnSmuggledWrongFalsely : Prop := fnSmuggledRow.holds Try.pinned (OpenSpec.ofChange fnSmuggledWrong)

/-- 'laws.FnExactBodyOf': WHATEVER THE INPUT: true; the input reads as it did. -/
def fnExactBodyOfSpec : ChangeSpec := { name := "fnExactBodyOf", fn := fun _ => fun
  | [d1, d2] => { results := [.lit (.bool true)], args := [d1, d2] }
  | _ => none }
def fnExactBodyOfRow : OpenClaim := { program := "ythjigecaojaalaa", sum := "c7acca8f0e098c5f3d1eeb245e88dfa07f876a6b76340512067cb88b1bc75c1e", func := "loop.example/g00245/laws.FnExactBodyOf", spec := "fnExactBodyOf", inPlace := ["internal/bytealg.IndexByteString"], apart := false }
def FnExactBodyOfSaid : Prop := fnExactBodyOfRow.holds Try.pinned (OpenSpec.ofChange fnExactBodyOfSpec)

/-- ITS FALSE NEIGHBOUR: 'it returns false'. Refute it at one input. -/
def fnExactBodyOfWrong : ChangeSpec := { name := "fnExactBodyOf", fn := fun _ => fun
  | [d1, d2] => { results := [.lit (.bool false)], args := [d1, d2] }
  | _ => none }
def FnExactBodyOfWrongFalsely : Prop := fnExactBodyOfRow.holds Try.pinned (OpenSpec.ofChange fnExactBodyOfWrong)

/-- 'laws.FnBodiesTold': WHATEVER THE INPUT: true; the input reads as it did. -/
def fnBodiesToldSpec : ChangeSpec := { name := "fnBodiesTold", fn := fun _ => fun
  | [d] => { results := [.lit (.bool true)], args := [d] }
  | _ => none }
def fnBodiesToldRow : OpenClaim := { program := "ythjigecaojaalaa", sum := "c7acca8f0e098c5f3d1eeb245e88dfa07f876a6b76340512067cb88b1bc75c1e", func := "loop.example/g00245/laws.FnBodiesTold", spec := "fnBodiesTold", inPlace := ["internal/bytealg.IndexByteString"], apart := false }
def FnBodiesToldSaid : Prop := fnBodiesToldRow.holds Try.pinned (OpenSpec.ofChange fnBodiesToldSpec)

/-- ITS FALSE NEIGHBOUR: 'it returns false'. Refute it at one input. -/
def fnBodiesToldWrong : ChangeSpec := { name := "fnBodiesTold", fn := fun _ => fun
  | [d] => { results := [.lit (.bool false)], args := [d] }
  | _ => none }
def FnBodiesToldWrongFalsely : Prop := fnBodiesToldRow.holds Try.pinned (OpenSpec.ofChange fnBodiesToldWrong)

/- THE SECOND FORM. 'bulk': how many values and letters a reading holds, each counted each time it is reached (what is shared counts as often as it is met; a slice's spare places count too). A statement '..UptoSaid' is the law's where the arguments, and the package variables that the reading takes, are together of bulk at most 1048576: NARROWER than '..Said'. Prove '..Said' where nothing that the law and all that it calls make is longer than what came in: it says more and counts as full. Else prove '..UptoSaid'. A law counts once. -/
mutual
def uptoBulk {H : Type} : DataW H → Nat
  | .lit (.string bytes) => bytes.length + 1
  | .lit _ => 1
  | .nil => 1
  | .ptr d => uptoBulk d + 1
  | .slice elems spare => uptoBulkAll elems + uptoBulkAll spare + 1
  | .agg parts => uptoBulkAll parts + 1
  | .iface _ d => uptoBulk d + 1
  | .map entries => uptoBulkEntries entries + 1
  | .held _ => 1
def uptoBulkAll {H : Type} : List (DataW H) → Nat
  | [] => 0
  | d :: r => uptoBulk d + uptoBulkAll r
def uptoBulkEntries {H : Type} : List (Lit × DataW H) → Nat
  | [] => 0
  | x :: r => uptoBulkEntry x + uptoBulkEntries r
def uptoBulkEntry {H : Type} : Lit × DataW H → Nat
  | (.string bytes, d) => bytes.length + uptoBulk d + 1
  | (_, d) => uptoBulk d + 1
 end
def uptoSmall : (H : Type) → List (DataW H) → Bool := fun _ ds => decide (uptoBulkAll ds ≤ 1048576)
def OpenSpec.upto (s : _root_.Go.ChangeSpec) : _root_.Go.OpenSpec := { _root_.Go.OpenSpec.ofChange s with cond := some uptoSmall }

/-- 'laws.FnExactLifetime', WHERE WHAT IT READS IS OF BULK AT MOST 1048576: true; the input reads as it did. -/
def fnExactLifetimeUptoRow : OpenClaim := { program := "ythjigecaojaalaa", sum := "c7acca8f0e098c5f3d1eeb245e88dfa07f876a6b76340512067cb88b1bc75c1e", func := "loop.example/g00245/laws.FnExactLifetime", spec := "fnExactLifetime", apart := false, narrowed := true }
def FnExactLifetimeUptoSaid : Prop := fnExactLifetimeUptoRow.holds Try.pinned (OpenSpec.upto fnExactLifetimeSpec)

/-- 'laws.FnExactChunkText', WHERE WHAT IT READS IS OF BULK AT MOST 1048576: true; the input reads as it did. -/
def fnExactChunkTextUptoRow : OpenClaim := { program := "ythjigecaojaalaa", sum := "c7acca8f0e098c5f3d1eeb245e88dfa07f876a6b76340512067cb88b1bc75c1e", func := "loop.example/g00245/laws.FnExactChunkText", spec := "fnExactChunkText", apart := false, narrowed := true }
def FnExactChunkTextUptoSaid : Prop := fnExactChunkTextUptoRow.holds Try.pinned (OpenSpec.upto fnExactChunkTextSpec)

/-- 'laws.FnExactReadChunks', WHERE WHAT IT READS IS OF BULK AT MOST 1048576: true; the input reads as it did. -/
def fnExactReadChunksUptoRow : OpenClaim := { program := "ythjigecaojaalaa", sum := "c7acca8f0e098c5f3d1eeb245e88dfa07f876a6b76340512067cb88b1bc75c1e", func := "loop.example/g00245/laws.FnExactReadChunks", spec := "fnExactReadChunks", inPlace := ["internal/bytealg.IndexByteString"], apart := false, narrowed := true }
def FnExactReadChunksUptoSaid : Prop := fnExactReadChunksUptoRow.holds Try.pinned (OpenSpec.upto fnExactReadChunksSpec)

/-- 'laws.FnBodies', WHERE WHAT IT READS IS OF BULK AT MOST 1048576: true; the input reads as it did. -/
def fnBodiesUptoRow : OpenClaim := { program := "ythjigecaojaalaa", sum := "c7acca8f0e098c5f3d1eeb245e88dfa07f876a6b76340512067cb88b1bc75c1e", func := "loop.example/g00245/laws.FnBodies", spec := "fnBodies", inPlace := ["internal/bytealg.IndexByteString"], apart := false, narrowed := true }
def FnBodiesUptoSaid : Prop := fnBodiesUptoRow.holds Try.pinned (OpenSpec.upto fnBodiesSpec)

/-- 'laws.FnSmuggled', WHERE WHAT IT READS IS OF BULK AT MOST 1048576: true; the input reads as it did. -/
def fnSmuggledUptoRow : OpenClaim := { program := "ythjigecaojaalaa", sum := "c7acca8f0e098c5f3d1eeb245e88dfa07f876a6b76340512067cb88b1bc75c1e", func := "loop.example/g00245/laws.FnSmuggled", spec := "fnSmuggled", inPlace := ["internal/bytealg.IndexByteString"], apart := false, narrowed := true }
def FnSmuggledUptoSaid : Prop := fnSmuggledUptoRow.holds Try.pinned (OpenSpec.upto fnSmuggledSpec)

/-- 'laws.FnExactBodyOf', WHERE WHAT IT READS IS OF BULK AT MOST 1048576: true; the input reads as it did. -/
def fnExactBodyOfUptoRow : OpenClaim := { program := "ythjigecaojaalaa", sum := "c7acca8f0e098c5f3d1eeb245e88dfa07f876a6b76340512067cb88b1bc75c1e", func := "loop.example/g00245/laws.FnExactBodyOf", spec := "fnExactBodyOf", inPlace := ["internal/bytealg.IndexByteString"], apart := false, narrowed := true }
def FnExactBodyOfUptoSaid : Prop := fnExactBodyOfUptoRow.holds Try.pinned (OpenSpec.upto fnExactBodyOfSpec)

/-- 'laws.FnBodiesTold', WHERE WHAT IT READS IS OF BULK AT MOST 1048576: true; the input reads as it did. -/
def fnBodiesToldUptoRow : OpenClaim := { program := "ythjigecaojaalaa", sum := "c7acca8f0e098c5f3d1eeb245e88dfa07f876a6b76340512067cb88b1bc75c1e", func := "loop.example/g00245/laws.FnBodiesTold", spec := "fnBodiesTold", inPlace := ["internal/bytealg.IndexByteString"], apart := false, narrowed := true }
def FnBodiesToldUptoSaid : Prop := fnBodiesToldUptoRow.holds Try.pinned (OpenSpec.upto fnBodiesToldSpec)

end Rows
end Go.Proofs.Ythjigecaojaalaa
