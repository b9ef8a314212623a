/-
  DERIVED. GIVEN WITH THE SEED: THE CARDS: each row of YthjigecaojaalaaDoorRows.lean that lists a variable, with what it lists TIED to the program's text (the seventh form; the later family's looks); each row that meets fmt, with fmt's text TOLD by the authors' own Lean function (tested against real Go, not proved from fmt's source: count such statements apart). THE CARD IS WHAT COUNTS. Prove the row's statement (the work); the ties are given (YthjigecaojaalaaDoorTie.lean); close each card by the builder's one call (the guide's Derived/Test/ToyasCard.lean, 'card_holds'). Laid BY PROGRAM, IN A SANDBOX (cutbox-door.mjs). By AI agents, Wed Nov 11 2026. No macro, syntax, notation, axiom, sorry.
-/
import Derived.Test.YthjigecaojaalaaDoorRows
import GoSem.ClaimSeven
namespace Go.Proofs.YthjigecaojaalaaDoor
namespace Rows

/-- THE TIED CARD OF 'laws.FnExactControlText'. -/
def fnExactControlTextCard : Claim7 := { stood := { row := fnExactControlTextRow, standIns := [], harness := (true, "af72a2b800fd6b8e708ae3a781ac41157ee8d59fd08c3b8fd13a3cd9c2dd7a24"), looks := false }, kinds := [], alts := [], laidByText := true, laidKinds := [.data, .data, .data], laidTests := true, laidLooks := .later }
def FnExactControlTextCardSaid : Prop := Claim7.holds Tryd.pinned (.plain (OpenSpec.ofChange fnExactControlTextSpec)) fnExactControlTextCard

/-- THE TIED CARD OF 'laws.FnExactControlOf'. -/
def fnExactControlOfCard : Claim7 := { stood := { row := fnExactControlOfRow, standIns := [], harness := (true, "af72a2b800fd6b8e708ae3a781ac41157ee8d59fd08c3b8fd13a3cd9c2dd7a24"), looks := false }, kinds := [], alts := [], laidByText := true, laidKinds := [.data, .pinned], laidTests := true, laidLooks := .later }
def FnExactControlOfCardSaid : Prop := Claim7.holds Tryd.pinned (.plain (OpenSpec.ofChange fnExactControlOfSpec)) fnExactControlOfCard

/-- THE TIED CARD OF 'laws.FnLifetimes'. -/
def fnLifetimesCard : Claim7 := { stood := { row := fnLifetimesRow, standIns := [], harness := (true, "af72a2b800fd6b8e708ae3a781ac41157ee8d59fd08c3b8fd13a3cd9c2dd7a24"), looks := false }, kinds := [], alts := [], laidByText := true, laidKinds := [.data, .pinned], laidTests := true, laidLooks := .later }
def FnLifetimesCardSaid : Prop := Claim7.holds Tryd.pinned (.plain (OpenSpec.ofChange fnLifetimesSpec)) fnLifetimesCard

/-- THE TIED CARD OF 'laws.FnControls'. -/
def fnControlsCard : Claim7 := { stood := { row := fnControlsRow, standIns := [], harness := (true, "af72a2b800fd6b8e708ae3a781ac41157ee8d59fd08c3b8fd13a3cd9c2dd7a24"), looks := false }, kinds := [], alts := [], laidByText := true, laidKinds := [.data, .data, .data, .data, .pinned], laidTests := true, laidLooks := .later }
def FnControlsCardSaid : Prop := Claim7.holds Tryd.pinned (.plain (OpenSpec.ofChange fnControlsSpec)) fnControlsCard

/-- THE TIED CARD OF 'laws.FnAnswers'. -/
def fnAnswersCard : Claim7 := { stood := { row := fnAnswersRow, standIns := [], harness := (true, "af72a2b800fd6b8e708ae3a781ac41157ee8d59fd08c3b8fd13a3cd9c2dd7a24"), looks := false }, kinds := [], alts := [], laidByText := true, laidKinds := [.data, .data, .data, .data, .pinned], laidTests := true, laidLooks := .later }
def FnAnswersCardSaid : Prop := Claim7.holds Tryd.pinned (.plain (OpenSpec.ofChange fnAnswersSpec)) fnAnswersCard

/-- THE SECOND FORM's CARD OF 'laws.FnExactControlText'. -/
def fnExactControlTextUptoCard : Claim7 := { stood := { row := fnExactControlTextUptoRow, standIns := [], harness := (true, "af72a2b800fd6b8e708ae3a781ac41157ee8d59fd08c3b8fd13a3cd9c2dd7a24"), looks := false }, kinds := [], alts := [], laidByText := true, laidKinds := [.data, .data, .data], laidTests := true, laidLooks := .later }
def FnExactControlTextUptoCardSaid : Prop := Claim7.holds Tryd.pinned (.plain (OpenSpec.upto fnExactControlTextSpec)) fnExactControlTextUptoCard

/-- THE SECOND FORM's CARD OF 'laws.FnExactControlOf'. -/
def fnExactControlOfUptoCard : Claim7 := { stood := { row := fnExactControlOfUptoRow, standIns := [], harness := (true, "af72a2b800fd6b8e708ae3a781ac41157ee8d59fd08c3b8fd13a3cd9c2dd7a24"), looks := false }, kinds := [], alts := [], laidByText := true, laidKinds := [.data, .pinned], laidTests := true, laidLooks := .later }
def FnExactControlOfUptoCardSaid : Prop := Claim7.holds Tryd.pinned (.plain (OpenSpec.upto fnExactControlOfSpec)) fnExactControlOfUptoCard

/-- THE SECOND FORM's CARD OF 'laws.FnLifetimes'. -/
def fnLifetimesUptoCard : Claim7 := { stood := { row := fnLifetimesUptoRow, standIns := [], harness := (true, "af72a2b800fd6b8e708ae3a781ac41157ee8d59fd08c3b8fd13a3cd9c2dd7a24"), looks := false }, kinds := [], alts := [], laidByText := true, laidKinds := [.data, .pinned], laidTests := true, laidLooks := .later }
def FnLifetimesUptoCardSaid : Prop := Claim7.holds Tryd.pinned (.plain (OpenSpec.upto fnLifetimesSpec)) fnLifetimesUptoCard

/-- THE SECOND FORM's CARD OF 'laws.FnControls'. -/
def fnControlsUptoCard : Claim7 := { stood := { row := fnControlsUptoRow, standIns := [], harness := (true, "af72a2b800fd6b8e708ae3a781ac41157ee8d59fd08c3b8fd13a3cd9c2dd7a24"), looks := false }, kinds := [], alts := [], laidByText := true, laidKinds := [.data, .data, .data, .data, .pinned], laidTests := true, laidLooks := .later }
def FnControlsUptoCardSaid : Prop := Claim7.holds Tryd.pinned (.plain (OpenSpec.upto fnControlsSpec)) fnControlsUptoCard

/-- THE SECOND FORM's CARD OF 'laws.FnAnswers'. -/
def fnAnswersUptoCard : Claim7 := { stood := { row := fnAnswersUptoRow, standIns := [], harness := (true, "af72a2b800fd6b8e708ae3a781ac41157ee8d59fd08c3b8fd13a3cd9c2dd7a24"), looks := false }, kinds := [], alts := [], laidByText := true, laidKinds := [.data, .data, .data, .data, .pinned], laidTests := true, laidLooks := .later }
def FnAnswersUptoCardSaid : Prop := Claim7.holds Tryd.pinned (.plain (OpenSpec.upto fnAnswersSpec)) fnAnswersUptoCard
end Rows
end Go.Proofs.YthjigecaojaalaaDoor
