/-
  DERIVED. GIVEN WITH THE SEED: THE CARDS: each row of YtiibecpllokhiaaDoorRows.lean that lists a variable, with what it lists TIED to the program's text (the seventh form; the later family's looks); each row that meets fmt, with fmt's text TOLD by the authors' own Lean function (tested against real Go, not proved from fmt's source: count such statements apart). THE CARD IS WHAT COUNTS. Prove the row's statement (the work); the ties are given (YtiibecpllokhiaaDoorTie.lean); close each card by the builder's one call (the guide's Derived/Test/ToyasCard.lean, 'card_holds'). Laid BY PROGRAM, IN A SANDBOX (cutbox-door.mjs). By AI agents, Wed Nov 11 2026. No macro, syntax, notation, axiom, sorry.
-/
import Derived.Test.YtiibecpllokhiaaDoorRows
import GoSem.ClaimSeven
namespace Go.Proofs.YtiibecpllokhiaaDoor
namespace Rows

/-- THE TIED CARD OF 'laws.FnHeads'. -/
def fnHeadsCard : Claim7 := { stood := { row := fnHeadsRow, standIns := [], harness := (true, "d451d3bb7f132f04f6c5f8a2618e2d05ea8a94048483088a5611b987045a67ea"), looks := true }, kinds := [], alts := [], laidByText := true, laidKinds := [.data, .pinned], laidTests := true, laidLooks := .later }
def FnHeadsCardSaid : Prop := Claim7.holds Tryd.pinned (.plain (OpenSpec.ofChange fnHeadsSpec)) fnHeadsCard

/-- THE TIED CARD OF 'laws.FnExactFieldOk'. -/
def fnExactFieldOkCard : Claim7 := { stood := { row := fnExactFieldOkRow, standIns := [], harness := (true, "d451d3bb7f132f04f6c5f8a2618e2d05ea8a94048483088a5611b987045a67ea"), looks := true }, kinds := [], alts := [], laidByText := true, laidKinds := [.data, .pinned], laidTests := true, laidLooks := .later }
def FnExactFieldOkCardSaid : Prop := Claim7.holds Tryd.pinned (.plain (OpenSpec.ofChange fnExactFieldOkSpec)) fnExactFieldOkCard

/-- THE TIED CARD OF 'laws.FnExactHeadOk'. -/
def fnExactHeadOkCard : Claim7 := { stood := { row := fnExactHeadOkRow, standIns := [], harness := (true, "d451d3bb7f132f04f6c5f8a2618e2d05ea8a94048483088a5611b987045a67ea"), looks := true }, kinds := [], alts := [], laidByText := true, laidKinds := [.data, .pinned], laidTests := true, laidLooks := .later }
def FnExactHeadOkCardSaid : Prop := Claim7.holds Tryd.pinned (.plain (OpenSpec.ofChange fnExactHeadOkSpec)) fnExactHeadOkCard

/-- THE TIED CARD OF 'laws.FnExactHeadText'. -/
def fnExactHeadTextCard : Claim7 := { stood := { row := fnExactHeadTextRow, standIns := [], harness := (true, "d451d3bb7f132f04f6c5f8a2618e2d05ea8a94048483088a5611b987045a67ea"), looks := true }, kinds := [], alts := [], laidByText := true, laidKinds := [.data, .pinned], laidTests := true, laidLooks := .later }
def FnExactHeadTextCardSaid : Prop := Claim7.holds Tryd.pinned (.plain (OpenSpec.ofChange fnExactHeadTextSpec)) fnExactHeadTextCard

/-- THE TIED CARD OF 'laws.FnOther'. -/
def fnOtherCard : Claim7 := { stood := { row := fnOtherRow, standIns := [], harness := (true, "d451d3bb7f132f04f6c5f8a2618e2d05ea8a94048483088a5611b987045a67ea"), looks := true }, kinds := [], alts := [], laidByText := true, laidKinds := [.data, .pinned], laidTests := true, laidLooks := .later }
def FnOtherCardSaid : Prop := Claim7.holds Tryd.pinned (.plain (OpenSpec.ofChange fnOtherSpec)) fnOtherCard

/-- THE TIED CARD OF 'laws.FnExactStatusOf'. -/
def fnExactStatusOfCard : Claim7 := { stood := { row := fnExactStatusOfRow, standIns := [], harness := (true, "d451d3bb7f132f04f6c5f8a2618e2d05ea8a94048483088a5611b987045a67ea"), looks := true }, kinds := [], alts := [], laidByText := true, laidKinds := [.data, .data, .data, .sentinel, .sentinel], laidTests := true, laidLooks := .later }
def FnExactStatusOfCardSaid : Prop := Claim7.holds Tryd.pinned (.plain (OpenSpec.ofChange fnExactStatusOfSpec)) fnExactStatusOfCard

/-- THE TIED CARD OF 'laws.FnLines'. -/
def fnLinesCard : Claim7 := { stood := { row := fnLinesRow, standIns := [], harness := (true, "d451d3bb7f132f04f6c5f8a2618e2d05ea8a94048483088a5611b987045a67ea"), looks := true }, kinds := [], alts := [], laidByText := true, laidKinds := [.data, .data, .data, .sentinel, .sentinel], laidTests := true, laidLooks := .later }
def FnLinesCardSaid : Prop := Claim7.holds Tryd.pinned (.plain (OpenSpec.ofChange fnLinesSpec)) fnLinesCard

/-- THE TIED CARD OF 'laws.FnExactReadHead'. -/
def fnExactReadHeadCard : Claim7 := { stood := { row := fnExactReadHeadRow, standIns := [], harness := (true, "d451d3bb7f132f04f6c5f8a2618e2d05ea8a94048483088a5611b987045a67ea"), looks := true }, kinds := [], alts := [], laidByText := true, laidKinds := [.data, .pinned], laidTests := true, laidLooks := .later }
def FnExactReadHeadCardSaid : Prop := Claim7.holds Tryd.pinned (.plain (OpenSpec.ofChange fnExactReadHeadSpec)) fnExactReadHeadCard

/-- THE TIED CARD OF 'laws.FnHeadsTold'. -/
def fnHeadsToldCard : Claim7 := { stood := { row := fnHeadsToldRow, standIns := [], harness := (true, "d451d3bb7f132f04f6c5f8a2618e2d05ea8a94048483088a5611b987045a67ea"), looks := true }, kinds := [], alts := [], laidByText := true, laidKinds := [.data, .pinned], laidTests := true, laidLooks := .later }
def FnHeadsToldCardSaid : Prop := Claim7.holds Tryd.pinned (.plain (OpenSpec.ofChange fnHeadsToldSpec)) fnHeadsToldCard

/-- THE TIED CARD OF 'laws.FnExactAnswerText'. -/
def fnExactAnswerTextCard : Claim7 := { stood := { row := fnExactAnswerTextRow, standIns := [], harness := (true, "d451d3bb7f132f04f6c5f8a2618e2d05ea8a94048483088a5611b987045a67ea"), looks := true }, kinds := [], alts := [], laidByText := true, laidKinds := [.data, .data, .data, .data, .pinned], laidTests := true, laidLooks := .later }
def FnExactAnswerTextCardSaid : Prop := Claim7.holds Tryd.pinned (.plain (OpenSpec.ofChange fnExactAnswerTextSpec)) fnExactAnswerTextCard

/-- THE SECOND FORM's CARD OF 'laws.FnHeads'. -/
def fnHeadsUptoCard : Claim7 := { stood := { row := fnHeadsUptoRow, standIns := [], harness := (true, "d451d3bb7f132f04f6c5f8a2618e2d05ea8a94048483088a5611b987045a67ea"), looks := true }, kinds := [], alts := [], laidByText := true, laidKinds := [.data, .pinned], laidTests := true, laidLooks := .later }
def FnHeadsUptoCardSaid : Prop := Claim7.holds Tryd.pinned (.plain (OpenSpec.upto fnHeadsSpec)) fnHeadsUptoCard

/-- THE SECOND FORM's CARD OF 'laws.FnExactFieldOk'. -/
def fnExactFieldOkUptoCard : Claim7 := { stood := { row := fnExactFieldOkUptoRow, standIns := [], harness := (true, "d451d3bb7f132f04f6c5f8a2618e2d05ea8a94048483088a5611b987045a67ea"), looks := true }, kinds := [], alts := [], laidByText := true, laidKinds := [.data, .pinned], laidTests := true, laidLooks := .later }
def FnExactFieldOkUptoCardSaid : Prop := Claim7.holds Tryd.pinned (.plain (OpenSpec.upto fnExactFieldOkSpec)) fnExactFieldOkUptoCard

/-- THE SECOND FORM's CARD OF 'laws.FnExactHeadOk'. -/
def fnExactHeadOkUptoCard : Claim7 := { stood := { row := fnExactHeadOkUptoRow, standIns := [], harness := (true, "d451d3bb7f132f04f6c5f8a2618e2d05ea8a94048483088a5611b987045a67ea"), looks := true }, kinds := [], alts := [], laidByText := true, laidKinds := [.data, .pinned], laidTests := true, laidLooks := .later }
def FnExactHeadOkUptoCardSaid : Prop := Claim7.holds Tryd.pinned (.plain (OpenSpec.upto fnExactHeadOkSpec)) fnExactHeadOkUptoCard

/-- THE SECOND FORM's CARD OF 'laws.FnExactHeadText'. -/
def fnExactHeadTextUptoCard : Claim7 := { stood := { row := fnExactHeadTextUptoRow, standIns := [], harness := (true, "d451d3bb7f132f04f6c5f8a2618e2d05ea8a94048483088a5611b987045a67ea"), looks := true }, kinds := [], alts := [], laidByText := true, laidKinds := [.data, .pinned], laidTests := true, laidLooks := .later }
def FnExactHeadTextUptoCardSaid : Prop := Claim7.holds Tryd.pinned (.plain (OpenSpec.upto fnExactHeadTextSpec)) fnExactHeadTextUptoCard

/-- THE SECOND FORM's CARD OF 'laws.FnOther'. -/
def fnOtherUptoCard : Claim7 := { stood := { row := fnOtherUptoRow, standIns := [], harness := (true, "d451d3bb7f132f04f6c5f8a2618e2d05ea8a94048483088a5611b987045a67ea"), looks := true }, kinds := [], alts := [], laidByText := true, laidKinds := [.data, .pinned], laidTests := true, laidLooks := .later }
def FnOtherUptoCardSaid : Prop := Claim7.holds Tryd.pinned (.plain (OpenSpec.upto fnOtherSpec)) fnOtherUptoCard

/-- THE SECOND FORM's CARD OF 'laws.FnExactStatusOf'. -/
def fnExactStatusOfUptoCard : Claim7 := { stood := { row := fnExactStatusOfUptoRow, standIns := [], harness := (true, "d451d3bb7f132f04f6c5f8a2618e2d05ea8a94048483088a5611b987045a67ea"), looks := true }, kinds := [], alts := [], laidByText := true, laidKinds := [.data, .data, .data, .sentinel, .sentinel], laidTests := true, laidLooks := .later }
def FnExactStatusOfUptoCardSaid : Prop := Claim7.holds Tryd.pinned (.plain (OpenSpec.upto fnExactStatusOfSpec)) fnExactStatusOfUptoCard

/-- THE SECOND FORM's CARD OF 'laws.FnLines'. -/
def fnLinesUptoCard : Claim7 := { stood := { row := fnLinesUptoRow, standIns := [], harness := (true, "d451d3bb7f132f04f6c5f8a2618e2d05ea8a94048483088a5611b987045a67ea"), looks := true }, kinds := [], alts := [], laidByText := true, laidKinds := [.data, .data, .data, .sentinel, .sentinel], laidTests := true, laidLooks := .later }
def FnLinesUptoCardSaid : Prop := Claim7.holds Tryd.pinned (.plain (OpenSpec.upto fnLinesSpec)) fnLinesUptoCard

/-- THE SECOND FORM's CARD OF 'laws.FnExactReadHead'. -/
def fnExactReadHeadUptoCard : Claim7 := { stood := { row := fnExactReadHeadUptoRow, standIns := [], harness := (true, "d451d3bb7f132f04f6c5f8a2618e2d05ea8a94048483088a5611b987045a67ea"), looks := true }, kinds := [], alts := [], laidByText := true, laidKinds := [.data, .pinned], laidTests := true, laidLooks := .later }
def FnExactReadHeadUptoCardSaid : Prop := Claim7.holds Tryd.pinned (.plain (OpenSpec.upto fnExactReadHeadSpec)) fnExactReadHeadUptoCard

/-- THE SECOND FORM's CARD OF 'laws.FnHeadsTold'. -/
def fnHeadsToldUptoCard : Claim7 := { stood := { row := fnHeadsToldUptoRow, standIns := [], harness := (true, "d451d3bb7f132f04f6c5f8a2618e2d05ea8a94048483088a5611b987045a67ea"), looks := true }, kinds := [], alts := [], laidByText := true, laidKinds := [.data, .pinned], laidTests := true, laidLooks := .later }
def FnHeadsToldUptoCardSaid : Prop := Claim7.holds Tryd.pinned (.plain (OpenSpec.upto fnHeadsToldSpec)) fnHeadsToldUptoCard

/-- THE SECOND FORM's CARD OF 'laws.FnExactAnswerText'. -/
def fnExactAnswerTextUptoCard : Claim7 := { stood := { row := fnExactAnswerTextUptoRow, standIns := [], harness := (true, "d451d3bb7f132f04f6c5f8a2618e2d05ea8a94048483088a5611b987045a67ea"), looks := true }, kinds := [], alts := [], laidByText := true, laidKinds := [.data, .data, .data, .data, .pinned], laidTests := true, laidLooks := .later }
def FnExactAnswerTextUptoCardSaid : Prop := Claim7.holds Tryd.pinned (.plain (OpenSpec.upto fnExactAnswerTextSpec)) fnExactAnswerTextUptoCard
end Rows
end Go.Proofs.YtiibecpllokhiaaDoor
