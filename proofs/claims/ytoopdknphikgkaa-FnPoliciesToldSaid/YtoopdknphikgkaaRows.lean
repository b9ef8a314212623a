/-
  No cell of these rows narrows 'for every input' (looked for: loops, veiled, ifaces, maps, wideKeys, modest, calm, conditions, laid).
  DERIVED. THE GIVEN ROWS OF THIS SEAT. 14 by the template 'for every input the law returns true; each argument reads behind the call as it read before'; 0 by the template 'total and deterministic' (their statements: YtoopdknphikgkaaTotals.lean).
  GIVEN WITH THE SEED: the statements are not yours to turn. If you find one false, say at which input.
  Laid BY PROGRAM, IN A SANDBOX (cutbox-rows.mjs): the forced cells as the released guide's own fill.sh prints them over the translation cebec52e952f6451… (all of the seat's roots in one cut). By AI agents, Wed Nov 11 2026. No macro, syntax, notation, axiom, sorry.
-/
import Derived.Test.YtoopdknphikgkaaChecked
import GoSem.Claim
import GoSem.ClaimJoined
import GoSem.ClaimMapViews
import Derived.JoinedTies
import Derived.KernelRfl
namespace Go.Proofs.Ytoopdknphikgkaa
/- THE CELL 'sum', in the pinned program and in every row, IS THE sha256 OF THE DUMP (.gsa) THAT YtoopdknphikgkaaProg.lean LOADS. Nothing in Lean hashes anything: it is a label: what it is worth is what the hold of that sum in a sandbox is worth. -/
noncomputable def Try.pinned : Pinned := { name := "ytoopdknphikgkaa", sum := "cebec52e952f645103ad5f8d9ed4325269a07e934e9042c66ab85644d3d4dd7a", checked := Try.checked }
namespace Rows
def none {H : Type} : Left H := { results := [], args := [] }

/-- 'laws.FnExactSketchPlace': WHATEVER THE INPUT: true; the input reads as it did. -/
def fnExactSketchPlaceSpec : ChangeSpec := { name := "fnExactSketchPlace", fn := fun _ => fun
  | [d1, d2] => { results := [.lit (.bool true)], args := [d1, d2] }
  | _ => none }
def fnExactSketchPlaceRow : OpenClaim := { program := "ytoopdknphikgkaa", sum := "cebec52e952f645103ad5f8d9ed4325269a07e934e9042c66ab85644d3d4dd7a", func := "loop.example/g00245/laws.FnExactSketchPlace", spec := "fnExactSketchPlace", apart := false }
def FnExactSketchPlaceSaid : Prop := fnExactSketchPlaceRow.holds Try.pinned (OpenSpec.ofChange fnExactSketchPlaceSpec)

/-- ITS FALSE NEIGHBOUR: 'it returns false'. Refute it at one input. -/
def fnExactSketchPlaceWrong : ChangeSpec := { name := "fnExactSketchPlace", fn := fun _ => fun
  | [d1, d2] => { results := [.lit (.bool false)], args := [d1, d2] }
  | _ => none }
def FnExactSketchPlaceWrongFalsely : Prop := fnExactSketchPlaceRow.holds Try.pinned (OpenSpec.ofChange fnExactSketchPlaceWrong)

/-- 'laws.FnExactSketchNew': WHATEVER THE INPUT: true; the input reads as it did. -/
def fnExactSketchNewSpec : ChangeSpec := { name := "fnExactSketchNew", fn := fun _ => fun
  | [] => { results := [.lit (.bool true)], args := [] }
  | _ => none }
def fnExactSketchNewRow : OpenClaim := { program := "ytoopdknphikgkaa", sum := "cebec52e952f645103ad5f8d9ed4325269a07e934e9042c66ab85644d3d4dd7a", func := "loop.example/g00245/laws.FnExactSketchNew", spec := "fnExactSketchNew", apart := false }
def FnExactSketchNewSaid : Prop := fnExactSketchNewRow.holds Try.pinned (OpenSpec.ofChange fnExactSketchNewSpec)

/-- ITS FALSE NEIGHBOUR: 'it returns false'. Refute it at one input. -/
def fnExactSketchNewWrong : ChangeSpec := { name := "fnExactSketchNew", fn := fun _ => fun
  | [] => { results := [.lit (.bool false)], args := [] }
  | _ => none }
def FnExactSketchNewWrongFalsely : Prop := fnExactSketchNewRow.holds Try.pinned (OpenSpec.ofChange fnExactSketchNewWrong)

/-- 'laws.FnExactSketchOk': WHATEVER THE INPUT: true; the input reads as it did. -/
def fnExactSketchOkSpec : ChangeSpec := { name := "fnExactSketchOk", fn := fun _ => fun
  | [d] => { results := [.lit (.bool true)], args := [d] }
  | _ => none }
def fnExactSketchOkRow : OpenClaim := { program := "ytoopdknphikgkaa", sum := "cebec52e952f645103ad5f8d9ed4325269a07e934e9042c66ab85644d3d4dd7a", func := "loop.example/g00245/laws.FnExactSketchOk", spec := "fnExactSketchOk", apart := false }
def FnExactSketchOkSaid : Prop := fnExactSketchOkRow.holds Try.pinned (OpenSpec.ofChange fnExactSketchOkSpec)

/-- ITS FALSE NEIGHBOUR: 'it returns false'. Refute it at one input. -/
def fnExactSketchOkWrong : ChangeSpec := { name := "fnExactSketchOk", fn := fun _ => fun
  | [d] => { results := [.lit (.bool false)], args := [d] }
  | _ => none }
def FnExactSketchOkWrongFalsely : Prop := fnExactSketchOkRow.holds Try.pinned (OpenSpec.ofChange fnExactSketchOkWrong)

/-- 'laws.FnGuesses': WHATEVER THE INPUT: true; the input reads as it did. -/
def fnGuessesSpec : ChangeSpec := { name := "fnGuesses", fn := fun _ => fun
  | [d] => { results := [.lit (.bool true)], args := [d] }
  | _ => none }
def fnGuessesRow : OpenClaim := { program := "ytoopdknphikgkaa", sum := "cebec52e952f645103ad5f8d9ed4325269a07e934e9042c66ab85644d3d4dd7a", func := "loop.example/g00245/laws.FnGuesses", spec := "fnGuesses", apart := false }
def FnGuessesSaid : Prop := fnGuessesRow.holds Try.pinned (OpenSpec.ofChange fnGuessesSpec)

/-- ITS FALSE NEIGHBOUR: 'it returns false'. Refute it at one input. -/
def fnGuessesWrong : ChangeSpec := { name := "fnGuesses", fn := fun _ => fun
  | [d] => { results := [.lit (.bool false)], args := [d] }
  | _ => none }
def FnGuessesWrongFalsely : Prop := fnGuessesRow.holds Try.pinned (OpenSpec.ofChange fnGuessesWrong)

/-- 'laws.FnExactPolicyNew': WHATEVER THE INPUT: true; the input reads as it did. -/
def fnExactPolicyNewSpec : ChangeSpec := { name := "fnExactPolicyNew", fn := fun _ => fun
  | [] => { results := [.lit (.bool true)], args := [] }
  | _ => none }
def fnExactPolicyNewRow : OpenClaim := { program := "ytoopdknphikgkaa", sum := "cebec52e952f645103ad5f8d9ed4325269a07e934e9042c66ab85644d3d4dd7a", func := "loop.example/g00245/laws.FnExactPolicyNew", spec := "fnExactPolicyNew", apart := false }
def FnExactPolicyNewSaid : Prop := fnExactPolicyNewRow.holds Try.pinned (OpenSpec.ofChange fnExactPolicyNewSpec)

/-- ITS FALSE NEIGHBOUR: 'it returns false'. Refute it at one input. -/
def fnExactPolicyNewWrong : ChangeSpec := { name := "fnExactPolicyNew", fn := fun _ => fun
  | [] => { results := [.lit (.bool false)], args := [] }
  | _ => none }
def FnExactPolicyNewWrongFalsely : Prop := fnExactPolicyNewRow.holds Try.pinned (OpenSpec.ofChange fnExactPolicyNewWrong)

/-- 'laws.FnExactSketchGuess': WHATEVER THE INPUT: true; the input reads as it did. -/
def fnExactSketchGuessSpec : ChangeSpec := { name := "fnExactSketchGuess", fn := fun _ => fun
  | [d1, d2] => { results := [.lit (.bool true)], args := [d1, d2] }
  | _ => none }
def fnExactSketchGuessRow : OpenClaim := { program := "ytoopdknphikgkaa", sum := "cebec52e952f645103ad5f8d9ed4325269a07e934e9042c66ab85644d3d4dd7a", func := "loop.example/g00245/laws.FnExactSketchGuess", spec := "fnExactSketchGuess", apart := false }
def FnExactSketchGuessSaid : Prop := fnExactSketchGuessRow.holds Try.pinned (OpenSpec.ofChange fnExactSketchGuessSpec)

/-- ITS FALSE NEIGHBOUR: 'it returns false'. Refute it at one input. -/
def fnExactSketchGuessWrong : ChangeSpec := { name := "fnExactSketchGuess", fn := fun _ => fun
  | [d1, d2] => { results := [.lit (.bool false)], args := [d1, d2] }
  | _ => none }
def FnExactSketchGuessWrongFalsely : Prop := fnExactSketchGuessRow.holds Try.pinned (OpenSpec.ofChange fnExactSketchGuessWrong)

/-- 'laws.FnExactPolicyHas': WHATEVER THE INPUT: true; the input reads as it did. -/
def fnExactPolicyHasSpec : ChangeSpec := { name := "fnExactPolicyHas", fn := fun _ => fun
  | [d1, d2] => { results := [.lit (.bool true)], args := [d1, d2] }
  | _ => none }
def fnExactPolicyHasRow : OpenClaim := { program := "ytoopdknphikgkaa", sum := "cebec52e952f645103ad5f8d9ed4325269a07e934e9042c66ab85644d3d4dd7a", func := "loop.example/g00245/laws.FnExactPolicyHas", spec := "fnExactPolicyHas", apart := false }
def FnExactPolicyHasSaid : Prop := fnExactPolicyHasRow.holds Try.pinned (OpenSpec.ofChange fnExactPolicyHasSpec)

/-- ITS FALSE NEIGHBOUR: 'it returns false'. Refute it at one input. -/
def fnExactPolicyHasWrong : ChangeSpec := { name := "fnExactPolicyHas", fn := fun _ => fun
  | [d1, d2] => { results := [.lit (.bool false)], args := [d1, d2] }
  | _ => none }
def FnExactPolicyHasWrongFalsely : Prop := fnExactPolicyHasRow.holds Try.pinned (OpenSpec.ofChange fnExactPolicyHasWrong)

/-- 'laws.FnExactPolicyOk': WHATEVER THE INPUT: true; the input reads as it did. -/
def fnExactPolicyOkSpec : ChangeSpec := { name := "fnExactPolicyOk", fn := fun _ => fun
  | [d] => { results := [.lit (.bool true)], args := [d] }
  | _ => none }
def fnExactPolicyOkRow : OpenClaim := { program := "ytoopdknphikgkaa", sum := "cebec52e952f645103ad5f8d9ed4325269a07e934e9042c66ab85644d3d4dd7a", func := "loop.example/g00245/laws.FnExactPolicyOk", spec := "fnExactPolicyOk", apart := false }
def FnExactPolicyOkSaid : Prop := fnExactPolicyOkRow.holds Try.pinned (OpenSpec.ofChange fnExactPolicyOkSpec)

/-- ITS FALSE NEIGHBOUR: 'it returns false'. Refute it at one input. -/
def fnExactPolicyOkWrong : ChangeSpec := { name := "fnExactPolicyOk", fn := fun _ => fun
  | [d] => { results := [.lit (.bool false)], args := [d] }
  | _ => none }
def FnExactPolicyOkWrongFalsely : Prop := fnExactPolicyOkRow.holds Try.pinned (OpenSpec.ofChange fnExactPolicyOkWrong)

/-- 'laws.FnExactSketchBump': WHATEVER THE INPUT: true; the input reads as it did. -/
def fnExactSketchBumpSpec : ChangeSpec := { name := "fnExactSketchBump", fn := fun _ => fun
  | [d1, d2] => { results := [.lit (.bool true)], args := [d1, d2] }
  | _ => none }
def fnExactSketchBumpRow : OpenClaim := { program := "ytoopdknphikgkaa", sum := "cebec52e952f645103ad5f8d9ed4325269a07e934e9042c66ab85644d3d4dd7a", func := "loop.example/g00245/laws.FnExactSketchBump", spec := "fnExactSketchBump", apart := false }
def FnExactSketchBumpSaid : Prop := fnExactSketchBumpRow.holds Try.pinned (OpenSpec.ofChange fnExactSketchBumpSpec)

/-- ITS FALSE NEIGHBOUR: 'it returns false'. Refute it at one input. -/
def fnExactSketchBumpWrong : ChangeSpec := { name := "fnExactSketchBump", fn := fun _ => fun
  | [d1, d2] => { results := [.lit (.bool false)], args := [d1, d2] }
  | _ => none }
def FnExactSketchBumpWrongFalsely : Prop := fnExactSketchBumpRow.holds Try.pinned (OpenSpec.ofChange fnExactSketchBumpWrong)

/-- 'laws.FnOften': WHATEVER THE INPUT: true; the input reads as it did. -/
def fnOftenSpec : ChangeSpec := { name := "fnOften", fn := fun _ => fun
  | [d] => { results := [.lit (.bool true)], args := [d] }
  | _ => none }
def fnOftenRow : OpenClaim := { program := "ytoopdknphikgkaa", sum := "cebec52e952f645103ad5f8d9ed4325269a07e934e9042c66ab85644d3d4dd7a", func := "loop.example/g00245/laws.FnOften", spec := "fnOften", unfollowed := true, recurses := true, apart := false }
def FnOftenSaid : Prop := fnOftenRow.holds Try.pinned (OpenSpec.ofChange fnOftenSpec)

/-- ITS FALSE NEIGHBOUR: 'it returns false'. Refute it at one input. -/
def fnOftenWrong : ChangeSpec := { name := "fnOften", fn := fun _ => fun
  | [d] => { results := [.lit (.bool false)], args := [d] }
  | _ => none }
def FnOftenWrongFalsely : Prop := fnOftenRow.holds Try.pinned (OpenSpec.ofChange fnOftenWrong)

/-- 'laws.FnSketches': WHATEVER THE INPUT: true; the input reads as it did. -/
def fnSketchesSpec : ChangeSpec := { name := "fnSketches", fn := fun _ => fun
  | [d] => { results := [.lit (.bool true)], args := [d] }
  | _ => none }
def fnSketchesRow : OpenClaim := { program := "ytoopdknphikgkaa", sum := "cebec52e952f645103ad5f8d9ed4325269a07e934e9042c66ab85644d3d4dd7a", func := "loop.example/g00245/laws.FnSketches", spec := "fnSketches", apart := false }
def FnSketchesSaid : Prop := fnSketchesRow.holds Try.pinned (OpenSpec.ofChange fnSketchesSpec)

/-- ITS FALSE NEIGHBOUR: 'it returns false'. Refute it at one input. -/
def fnSketchesWrong : ChangeSpec := { name := "fnSketches", fn := fun _ => fun
  | [d] => { results := [.lit (.bool false)], args := [d] }
  | _ => none }
def FnSketchesWrongFalsely : Prop := fnSketchesRow.holds Try.pinned (OpenSpec.ofChange fnSketchesWrong)

/-- 'laws.FnExactPolicyDrop': WHATEVER THE INPUT: true; the input reads as it did. -/
def fnExactPolicyDropSpec : ChangeSpec := { name := "fnExactPolicyDrop", fn := fun _ => fun
  | [d1, d2] => { results := [.lit (.bool true)], args := [d1, d2] }
  | _ => none }
def fnExactPolicyDropRow : OpenClaim := { program := "ytoopdknphikgkaa", sum := "cebec52e952f645103ad5f8d9ed4325269a07e934e9042c66ab85644d3d4dd7a", func := "loop.example/g00245/laws.FnExactPolicyDrop", spec := "fnExactPolicyDrop", unfollowed := true, recurses := true, apart := false }
def FnExactPolicyDropSaid : Prop := fnExactPolicyDropRow.holds Try.pinned (OpenSpec.ofChange fnExactPolicyDropSpec)

/-- ITS FALSE NEIGHBOUR: 'it returns false'. Refute it at one input. -/
def fnExactPolicyDropWrong : ChangeSpec := { name := "fnExactPolicyDrop", fn := fun _ => fun
  | [d1, d2] => { results := [.lit (.bool false)], args := [d1, d2] }
  | _ => none }
def FnExactPolicyDropWrongFalsely : Prop := fnExactPolicyDropRow.holds Try.pinned (OpenSpec.ofChange fnExactPolicyDropWrong)

/-- 'laws.FnPolicies': WHATEVER THE INPUT: true; the input reads as it did. -/
def fnPoliciesSpec : ChangeSpec := { name := "fnPolicies", fn := fun _ => fun
  | [d] => { results := [.lit (.bool true)], args := [d] }
  | _ => none }
def fnPoliciesRow : OpenClaim := { program := "ytoopdknphikgkaa", sum := "cebec52e952f645103ad5f8d9ed4325269a07e934e9042c66ab85644d3d4dd7a", func := "loop.example/g00245/laws.FnPolicies", spec := "fnPolicies", unfollowed := true, recurses := true, apart := false }
def FnPoliciesSaid : Prop := fnPoliciesRow.holds Try.pinned (OpenSpec.ofChange fnPoliciesSpec)

/-- ITS FALSE NEIGHBOUR: 'it returns false'. Refute it at one input. -/
def fnPoliciesWrong : ChangeSpec := { name := "fnPolicies", fn := fun _ => fun
  | [d] => { results := [.lit (.bool false)], args := [d] }
  | _ => none }
def FnPoliciesWrongFalsely : Prop := fnPoliciesRow.holds Try.pinned (OpenSpec.ofChange fnPoliciesWrong)

/-- 'laws.FnPoliciesTold': WHATEVER THE INPUT: true; the input reads as it did. -/
def fnPoliciesToldSpec : ChangeSpec := { name := "fnPoliciesTold", fn := fun _ => fun
  | [d] => { results := [.lit (.bool true)], args := [d] }
  | _ => none }
def fnPoliciesToldRow : OpenClaim := { program := "ytoopdknphikgkaa", sum := "cebec52e952f645103ad5f8d9ed4325269a07e934e9042c66ab85644d3d4dd7a", func := "loop.example/g00245/laws.FnPoliciesTold", spec := "fnPoliciesTold", unfollowed := true, recurses := true, apart := false }
def FnPoliciesToldSaid : Prop := fnPoliciesToldRow.holds Try.pinned (OpenSpec.ofChange fnPoliciesToldSpec)

/-- ITS FALSE NEIGHBOUR: 'it returns false'. Refute it at one input. -/
def fnPoliciesToldWrong : ChangeSpec := { name := "fnPoliciesTold", fn := fun _ => fun
  | [d] => { results := [.lit (.bool false)], args := [d] }
  | _ => none }
def FnPoliciesToldWrongFalsely : Prop := fnPoliciesToldRow.holds Try.pinned (OpenSpec.ofChange fnPoliciesToldWrong)

/- THE SECOND FORM. 'bulk': how many values and letters a reading holds, each counted each time it is reached (what is shared counts as often as it is met; a slice's spare places count too). A statement '..UptoSaid' is the law's where the arguments, and the package variables that the reading takes, are together of bulk at most 1048576: NARROWER than '..Said'. Prove '..Said' where nothing that the law and all that it calls make is longer than what came in: it says more and counts as full. Else prove '..UptoSaid'. A law counts once. -/
mutual
def uptoBulk {H : Type} : DataW H → Nat
  | .lit (.string bytes) => bytes.length + 1
  | .lit _ => 1
  | .nil => 1
  | .ptr d => uptoBulk d + 1
  | .slice elems spare => uptoBulkAll elems + uptoBulkAll spare + 1
  | .agg parts => uptoBulkAll parts + 1
  | .iface _ d => uptoBulk d + 1
  | .map entries => uptoBulkEntries entries + 1
  | .held _ => 1
def uptoBulkAll {H : Type} : List (DataW H) → Nat
  | [] => 0
  | d :: r => uptoBulk d + uptoBulkAll r
def uptoBulkEntries {H : Type} : List (Lit × DataW H) → Nat
  | [] => 0
  | x :: r => uptoBulkEntry x + uptoBulkEntries r
def uptoBulkEntry {H : Type} : Lit × DataW H → Nat
  | (.string bytes, d) => bytes.length + uptoBulk d + 1
  | (_, d) => uptoBulk d + 1
 end
def uptoSmall : (H : Type) → List (DataW H) → Bool := fun _ ds => decide (uptoBulkAll ds ≤ 1048576)
def OpenSpec.upto (s : _root_.Go.ChangeSpec) : _root_.Go.OpenSpec := { _root_.Go.OpenSpec.ofChange s with cond := some uptoSmall }

/-- 'laws.FnExactSketchPlace', WHERE WHAT IT READS IS OF BULK AT MOST 1048576: true; the input reads as it did. -/
def fnExactSketchPlaceUptoRow : OpenClaim := { program := "ytoopdknphikgkaa", sum := "cebec52e952f645103ad5f8d9ed4325269a07e934e9042c66ab85644d3d4dd7a", func := "loop.example/g00245/laws.FnExactSketchPlace", spec := "fnExactSketchPlace", apart := false, narrowed := true }
def FnExactSketchPlaceUptoSaid : Prop := fnExactSketchPlaceUptoRow.holds Try.pinned (OpenSpec.upto fnExactSketchPlaceSpec)

/-- 'laws.FnExactSketchNew', WHERE WHAT IT READS IS OF BULK AT MOST 1048576: true; the input reads as it did. -/
def fnExactSketchNewUptoRow : OpenClaim := { program := "ytoopdknphikgkaa", sum := "cebec52e952f645103ad5f8d9ed4325269a07e934e9042c66ab85644d3d4dd7a", func := "loop.example/g00245/laws.FnExactSketchNew", spec := "fnExactSketchNew", apart := false, narrowed := true }
def FnExactSketchNewUptoSaid : Prop := fnExactSketchNewUptoRow.holds Try.pinned (OpenSpec.upto fnExactSketchNewSpec)

/-- 'laws.FnExactSketchOk', WHERE WHAT IT READS IS OF BULK AT MOST 1048576: true; the input reads as it did. -/
def fnExactSketchOkUptoRow : OpenClaim := { program := "ytoopdknphikgkaa", sum := "cebec52e952f645103ad5f8d9ed4325269a07e934e9042c66ab85644d3d4dd7a", func := "loop.example/g00245/laws.FnExactSketchOk", spec := "fnExactSketchOk", apart := false, narrowed := true }
def FnExactSketchOkUptoSaid : Prop := fnExactSketchOkUptoRow.holds Try.pinned (OpenSpec.upto fnExactSketchOkSpec)

/-- 'laws.FnGuesses', WHERE WHAT IT READS IS OF BULK AT MOST 1048576: true; the input reads as it did. -/
def fnGuessesUptoRow : OpenClaim := { program := "ytoopdknphikgkaa", sum := "cebec52e952f645103ad5f8d9ed4325269a07e934e9042c66ab85644d3d4dd7a", func := "loop.example/g00245/laws.FnGuesses", spec := "fnGuesses", apart := false, narrowed := true }
def FnGuessesUptoSaid : Prop := fnGuessesUptoRow.holds Try.pinned (OpenSpec.upto fnGuessesSpec)

/-- 'laws.FnExactPolicyNew', WHERE WHAT IT READS IS OF BULK AT MOST 1048576: true; the input reads as it did. -/
def fnExactPolicyNewUptoRow : OpenClaim := { program := "ytoopdknphikgkaa", sum := "cebec52e952f645103ad5f8d9ed4325269a07e934e9042c66ab85644d3d4dd7a", func := "loop.example/g00245/laws.FnExactPolicyNew", spec := "fnExactPolicyNew", apart := false, narrowed := true }
def FnExactPolicyNewUptoSaid : Prop := fnExactPolicyNewUptoRow.holds Try.pinned (OpenSpec.upto fnExactPolicyNewSpec)

/-- 'laws.FnExactSketchGuess', WHERE WHAT IT READS IS OF BULK AT MOST 1048576: true; the input reads as it did. -/
def fnExactSketchGuessUptoRow : OpenClaim := { program := "ytoopdknphikgkaa", sum := "cebec52e952f645103ad5f8d9ed4325269a07e934e9042c66ab85644d3d4dd7a", func := "loop.example/g00245/laws.FnExactSketchGuess", spec := "fnExactSketchGuess", apart := false, narrowed := true }
def FnExactSketchGuessUptoSaid : Prop := fnExactSketchGuessUptoRow.holds Try.pinned (OpenSpec.upto fnExactSketchGuessSpec)

/-- 'laws.FnExactPolicyHas', WHERE WHAT IT READS IS OF BULK AT MOST 1048576: true; the input reads as it did. -/
def fnExactPolicyHasUptoRow : OpenClaim := { program := "ytoopdknphikgkaa", sum := "cebec52e952f645103ad5f8d9ed4325269a07e934e9042c66ab85644d3d4dd7a", func := "loop.example/g00245/laws.FnExactPolicyHas", spec := "fnExactPolicyHas", apart := false, narrowed := true }
def FnExactPolicyHasUptoSaid : Prop := fnExactPolicyHasUptoRow.holds Try.pinned (OpenSpec.upto fnExactPolicyHasSpec)

/-- 'laws.FnExactPolicyOk', WHERE WHAT IT READS IS OF BULK AT MOST 1048576: true; the input reads as it did. -/
def fnExactPolicyOkUptoRow : OpenClaim := { program := "ytoopdknphikgkaa", sum := "cebec52e952f645103ad5f8d9ed4325269a07e934e9042c66ab85644d3d4dd7a", func := "loop.example/g00245/laws.FnExactPolicyOk", spec := "fnExactPolicyOk", apart := false, narrowed := true }
def FnExactPolicyOkUptoSaid : Prop := fnExactPolicyOkUptoRow.holds Try.pinned (OpenSpec.upto fnExactPolicyOkSpec)

/-- 'laws.FnExactSketchBump', WHERE WHAT IT READS IS OF BULK AT MOST 1048576: true; the input reads as it did. -/
def fnExactSketchBumpUptoRow : OpenClaim := { program := "ytoopdknphikgkaa", sum := "cebec52e952f645103ad5f8d9ed4325269a07e934e9042c66ab85644d3d4dd7a", func := "loop.example/g00245/laws.FnExactSketchBump", spec := "fnExactSketchBump", apart := false, narrowed := true }
def FnExactSketchBumpUptoSaid : Prop := fnExactSketchBumpUptoRow.holds Try.pinned (OpenSpec.upto fnExactSketchBumpSpec)

/-- 'laws.FnOften', WHERE WHAT IT READS IS OF BULK AT MOST 1048576: true; the input reads as it did. -/
def fnOftenUptoRow : OpenClaim := { program := "ytoopdknphikgkaa", sum := "cebec52e952f645103ad5f8d9ed4325269a07e934e9042c66ab85644d3d4dd7a", func := "loop.example/g00245/laws.FnOften", spec := "fnOften", unfollowed := true, recurses := true, apart := false, narrowed := true }
def FnOftenUptoSaid : Prop := fnOftenUptoRow.holds Try.pinned (OpenSpec.upto fnOftenSpec)

/-- 'laws.FnSketches', WHERE WHAT IT READS IS OF BULK AT MOST 1048576: true; the input reads as it did. -/
def fnSketchesUptoRow : OpenClaim := { program := "ytoopdknphikgkaa", sum := "cebec52e952f645103ad5f8d9ed4325269a07e934e9042c66ab85644d3d4dd7a", func := "loop.example/g00245/laws.FnSketches", spec := "fnSketches", apart := false, narrowed := true }
def FnSketchesUptoSaid : Prop := fnSketchesUptoRow.holds Try.pinned (OpenSpec.upto fnSketchesSpec)

/-- 'laws.FnExactPolicyDrop', WHERE WHAT IT READS IS OF BULK AT MOST 1048576: true; the input reads as it did. -/
def fnExactPolicyDropUptoRow : OpenClaim := { program := "ytoopdknphikgkaa", sum := "cebec52e952f645103ad5f8d9ed4325269a07e934e9042c66ab85644d3d4dd7a", func := "loop.example/g00245/laws.FnExactPolicyDrop", spec := "fnExactPolicyDrop", unfollowed := true, recurses := true, apart := false, narrowed := true }
def FnExactPolicyDropUptoSaid : Prop := fnExactPolicyDropUptoRow.holds Try.pinned (OpenSpec.upto fnExactPolicyDropSpec)

/-- 'laws.FnPolicies', WHERE WHAT IT READS IS OF BULK AT MOST 1048576: true; the input reads as it did. -/
def fnPoliciesUptoRow : OpenClaim := { program := "ytoopdknphikgkaa", sum := "cebec52e952f645103ad5f8d9ed4325269a07e934e9042c66ab85644d3d4dd7a", func := "loop.example/g00245/laws.FnPolicies", spec := "fnPolicies", unfollowed := true, recurses := true, apart := false, narrowed := true }
def FnPoliciesUptoSaid : Prop := fnPoliciesUptoRow.holds Try.pinned (OpenSpec.upto fnPoliciesSpec)

/-- 'laws.FnPoliciesTold', WHERE WHAT IT READS IS OF BULK AT MOST 1048576: true; the input reads as it did. -/
def fnPoliciesToldUptoRow : OpenClaim := { program := "ytoopdknphikgkaa", sum := "cebec52e952f645103ad5f8d9ed4325269a07e934e9042c66ab85644d3d4dd7a", func := "loop.example/g00245/laws.FnPoliciesTold", spec := "fnPoliciesTold", unfollowed := true, recurses := true, apart := false, narrowed := true }
def FnPoliciesToldUptoSaid : Prop := fnPoliciesToldUptoRow.holds Try.pinned (OpenSpec.upto fnPoliciesToldSpec)

end Rows
end Go.Proofs.Ytoopdknphikgkaa
