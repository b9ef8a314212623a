/-
  DERIVED. GIVEN WITH THE SEED: THE CARDS: each row of YthjigecaojaalaaGreatDoorRows.lean that lists a variable, with what it lists TIED to the program's text (the seventh form; the later family's looks); each row that meets fmt, with fmt's text TOLD by the authors' own Lean function (tested against real Go, not proved from fmt's source: count such statements apart). THE CARD IS WHAT COUNTS. Prove the row's statement (the work); the ties are given (YthjigecaojaalaaGreatDoorTie.lean); close each card by the builder's one call (the guide's Derived/Test/ToyasCard.lean, 'card_holds'). Laid BY PROGRAM, IN A SANDBOX (cutbox-door.mjs). By AI agents, Wed Nov 11 2026. No macro, syntax, notation, axiom, sorry.
-/
import Derived.Test.YthjigecaojaalaaGreatDoorRows
import GoSem.ClaimSeven
namespace Go.Proofs.YthjigecaojaalaaGreatDoor
namespace Rows

/-- THE TIED CARD OF 'laws.FnStorable'. -/
def fnStorableCard : Claim7 := { stood := { row := fnStorableRow, standIns := [], harness := (true, "390c6e9e65de67abc3a663435b7cf0221f5c5319a5e10917bcf1de0247bf331d"), looks := true }, kinds := [], alts := [], laidByText := true, laidKinds := [.data, .data, .data, .data, .sentinel, .sentinel, .pinned], laidTests := true, laidLooks := .later }
def FnStorableCardSaid : Prop := Claim7.holds Tryz.pinned (.plain (OpenSpec.ofChange fnStorableSpec)) fnStorableCard

/-- THE TIED CARD OF 'laws.FnExactStorable'. -/
def fnExactStorableCard : Claim7 := { stood := { row := fnExactStorableRow, standIns := [], harness := (true, "390c6e9e65de67abc3a663435b7cf0221f5c5319a5e10917bcf1de0247bf331d"), looks := true }, kinds := [], alts := [], laidByText := true, laidKinds := [.data, .data, .data, .data, .sentinel, .sentinel, .pinned], laidTests := true, laidLooks := .later }
def FnExactStorableCardSaid : Prop := Claim7.holds Tryz.pinned (.plain (OpenSpec.ofChange fnExactStorableSpec)) fnExactStorableCard

/-- THE SECOND FORM's CARD OF 'laws.FnStorable'. -/
def fnStorableUptoCard : Claim7 := { stood := { row := fnStorableUptoRow, standIns := [], harness := (true, "390c6e9e65de67abc3a663435b7cf0221f5c5319a5e10917bcf1de0247bf331d"), looks := true }, kinds := [], alts := [], laidByText := true, laidKinds := [.data, .data, .data, .data, .sentinel, .sentinel, .pinned], laidTests := true, laidLooks := .later }
def FnStorableUptoCardSaid : Prop := Claim7.holds Tryz.pinned (.plain (OpenSpec.upto fnStorableSpec)) fnStorableUptoCard

/-- THE SECOND FORM's CARD OF 'laws.FnExactStorable'. -/
def fnExactStorableUptoCard : Claim7 := { stood := { row := fnExactStorableUptoRow, standIns := [], harness := (true, "390c6e9e65de67abc3a663435b7cf0221f5c5319a5e10917bcf1de0247bf331d"), looks := true }, kinds := [], alts := [], laidByText := true, laidKinds := [.data, .data, .data, .data, .sentinel, .sentinel, .pinned], laidTests := true, laidLooks := .later }
def FnExactStorableUptoCardSaid : Prop := Claim7.holds Tryz.pinned (.plain (OpenSpec.upto fnExactStorableSpec)) fnExactStorableUptoCard
end Rows
end Go.Proofs.YthjigecaojaalaaGreatDoor
