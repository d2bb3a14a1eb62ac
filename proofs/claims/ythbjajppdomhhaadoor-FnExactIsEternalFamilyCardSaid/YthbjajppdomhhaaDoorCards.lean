/-
  DERIVED. GIVEN WITH THE SEED: THE CARDS: each row of YthbjajppdomhhaaDoorRows.lean that lists a variable, with what it lists TIED to the program's text (the seventh form; the later family's looks); each row that meets fmt, with fmt's text TOLD by the authors' own Lean function (tested against real Go, not proved from fmt's source: count such statements apart). THE CARD IS WHAT COUNTS. Prove the row's statement (the work); the ties are given (YthbjajppdomhhaaDoorTie.lean); close each card by the builder's one call (the guide's Derived/Test/ToyasCard.lean, 'card_holds'). Laid BY PROGRAM, IN A SANDBOX (cutbox-door.mjs). By AI agents, Wed Nov 11 2026. No macro, syntax, notation, axiom, sorry.
-/
import Derived.Test.YthbjajppdomhhaaDoorRows
import GoSem.ClaimSeven
namespace Go.Proofs.YthbjajppdomhhaaDoor
namespace Rows

/-- THE TIED CARD OF 'laws.FnExactMatchingNumber'. -/
def fnExactMatchingNumberCard : Claim7 := { stood := { row := fnExactMatchingNumberRow, standIns := [], harness := (true, "425a6853123159aeb7aa5860604ddaa1b9010cc37bc0f87033b52f3227e872be"), looks := false }, kinds := [], alts := [], laidByText := true, laidKinds := [.data, .data], laidTests := true, laidLooks := .later }
def FnExactMatchingNumberCardSaid : Prop := Claim7.holds Tryd.pinned (.plain (OpenSpec.ofChange fnExactMatchingNumberSpec)) fnExactMatchingNumberCard

/-- THE TIED CARD OF 'laws.FnExactCanMoveGuards'. -/
def fnExactCanMoveGuardsCard : Claim7 := { stood := { row := fnExactCanMoveGuardsRow, standIns := [], harness := (true, "425a6853123159aeb7aa5860604ddaa1b9010cc37bc0f87033b52f3227e872be"), looks := false }, kinds := [], alts := [], laidByText := true, laidKinds := [.data, .data], laidTests := true, laidLooks := .later }
def FnExactCanMoveGuardsCardSaid : Prop := Claim7.holds Tryd.pinned (.plain (OpenSpec.ofChange fnExactCanMoveGuardsSpec)) fnExactCanMoveGuardsCard

/-- THE TIED CARD OF 'laws.FnExactIsEternalFamily'. -/
def fnExactIsEternalFamilyCard : Claim7 := { stood := { row := fnExactIsEternalFamilyRow, standIns := [], harness := (true, "425a6853123159aeb7aa5860604ddaa1b9010cc37bc0f87033b52f3227e872be"), looks := false }, kinds := [], alts := [], laidByText := true, laidKinds := [.data, .data], laidTests := true, laidLooks := .later }
def FnExactIsEternalFamilyCardSaid : Prop := Claim7.holds Tryd.pinned (.plain (OpenSpec.ofChange fnExactIsEternalFamilySpec)) fnExactIsEternalFamilyCard

/-- THE TIED CARD OF 'laws.FnExactReversedSet'. -/
def fnExactReversedSetCard : Claim7 := { stood := { row := fnExactReversedSetRow, standIns := [], harness := (true, "425a6853123159aeb7aa5860604ddaa1b9010cc37bc0f87033b52f3227e872be"), looks := false }, kinds := [], alts := [], laidByText := true, laidKinds := [.data, .data], laidTests := true, laidLooks := .later }
def FnExactReversedSetCardSaid : Prop := Claim7.holds Tryd.pinned (.plain (OpenSpec.ofChange fnExactReversedSetSpec)) fnExactReversedSetCard

/-- THE TIED CARD OF 'laws.FnExactChainsOf'. -/
def fnExactChainsOfCard : Claim7 := { stood := { row := fnExactChainsOfRow, standIns := [], harness := (true, "425a6853123159aeb7aa5860604ddaa1b9010cc37bc0f87033b52f3227e872be"), looks := false }, kinds := [], alts := [], laidByText := true, laidKinds := [.data, .data], laidTests := true, laidLooks := .later }
def FnExactChainsOfCardSaid : Prop := Claim7.holds Tryd.pinned (.plain (OpenSpec.ofChange fnExactChainsOfSpec)) fnExactChainsOfCard

/-- THE TIED CARD OF 'laws.FnExactEternalNumber'. -/
def fnExactEternalNumberCard : Claim7 := { stood := { row := fnExactEternalNumberRow, standIns := [], harness := (true, "425a6853123159aeb7aa5860604ddaa1b9010cc37bc0f87033b52f3227e872be"), looks := false }, kinds := [], alts := [], laidByText := true, laidKinds := [.data, .data], laidTests := true, laidLooks := .later }
def FnExactEternalNumberCardSaid : Prop := Claim7.holds Tryd.pinned (.plain (OpenSpec.ofChange fnExactEternalNumberSpec)) fnExactEternalNumberCard

/-- THE TIED CARD OF 'laws.FnExactGuardAnswers'. -/
def fnExactGuardAnswersCard : Claim7 := { stood := { row := fnExactGuardAnswersRow, standIns := [], harness := (true, "425a6853123159aeb7aa5860604ddaa1b9010cc37bc0f87033b52f3227e872be"), looks := false }, kinds := [], alts := [], laidByText := true, laidKinds := [.data, .data], laidTests := true, laidLooks := .later }
def FnExactGuardAnswersCardSaid : Prop := Claim7.holds Tryd.pinned (.plain (OpenSpec.ofChange fnExactGuardAnswersSpec)) fnExactGuardAnswersCard

/-- THE TIED CARD OF 'laws.FnExactResistances'. -/
def fnExactResistancesCard : Claim7 := { stood := { row := fnExactResistancesRow, standIns := [], harness := (true, "425a6853123159aeb7aa5860604ddaa1b9010cc37bc0f87033b52f3227e872be"), looks := false }, kinds := [], alts := [], laidByText := true, laidKinds := [.data, .data], laidTests := true, laidLooks := .later }
def FnExactResistancesCardSaid : Prop := Claim7.holds Tryd.pinned (.plain (OpenSpec.ofChange fnExactResistancesSpec)) fnExactResistancesCard

/-- THE SECOND FORM's CARD OF 'laws.FnExactMatchingNumber'. -/
def fnExactMatchingNumberUptoCard : Claim7 := { stood := { row := fnExactMatchingNumberUptoRow, standIns := [], harness := (true, "425a6853123159aeb7aa5860604ddaa1b9010cc37bc0f87033b52f3227e872be"), looks := false }, kinds := [], alts := [], laidByText := true, laidKinds := [.data, .data], laidTests := true, laidLooks := .later }
def FnExactMatchingNumberUptoCardSaid : Prop := Claim7.holds Tryd.pinned (.plain (OpenSpec.upto fnExactMatchingNumberSpec)) fnExactMatchingNumberUptoCard

/-- THE SECOND FORM's CARD OF 'laws.FnExactCanMoveGuards'. -/
def fnExactCanMoveGuardsUptoCard : Claim7 := { stood := { row := fnExactCanMoveGuardsUptoRow, standIns := [], harness := (true, "425a6853123159aeb7aa5860604ddaa1b9010cc37bc0f87033b52f3227e872be"), looks := false }, kinds := [], alts := [], laidByText := true, laidKinds := [.data, .data], laidTests := true, laidLooks := .later }
def FnExactCanMoveGuardsUptoCardSaid : Prop := Claim7.holds Tryd.pinned (.plain (OpenSpec.upto fnExactCanMoveGuardsSpec)) fnExactCanMoveGuardsUptoCard

/-- THE SECOND FORM's CARD OF 'laws.FnExactIsEternalFamily'. -/
def fnExactIsEternalFamilyUptoCard : Claim7 := { stood := { row := fnExactIsEternalFamilyUptoRow, standIns := [], harness := (true, "425a6853123159aeb7aa5860604ddaa1b9010cc37bc0f87033b52f3227e872be"), looks := false }, kinds := [], alts := [], laidByText := true, laidKinds := [.data, .data], laidTests := true, laidLooks := .later }
def FnExactIsEternalFamilyUptoCardSaid : Prop := Claim7.holds Tryd.pinned (.plain (OpenSpec.upto fnExactIsEternalFamilySpec)) fnExactIsEternalFamilyUptoCard

/-- THE SECOND FORM's CARD OF 'laws.FnExactReversedSet'. -/
def fnExactReversedSetUptoCard : Claim7 := { stood := { row := fnExactReversedSetUptoRow, standIns := [], harness := (true, "425a6853123159aeb7aa5860604ddaa1b9010cc37bc0f87033b52f3227e872be"), looks := false }, kinds := [], alts := [], laidByText := true, laidKinds := [.data, .data], laidTests := true, laidLooks := .later }
def FnExactReversedSetUptoCardSaid : Prop := Claim7.holds Tryd.pinned (.plain (OpenSpec.upto fnExactReversedSetSpec)) fnExactReversedSetUptoCard

/-- THE SECOND FORM's CARD OF 'laws.FnExactChainsOf'. -/
def fnExactChainsOfUptoCard : Claim7 := { stood := { row := fnExactChainsOfUptoRow, standIns := [], harness := (true, "425a6853123159aeb7aa5860604ddaa1b9010cc37bc0f87033b52f3227e872be"), looks := false }, kinds := [], alts := [], laidByText := true, laidKinds := [.data, .data], laidTests := true, laidLooks := .later }
def FnExactChainsOfUptoCardSaid : Prop := Claim7.holds Tryd.pinned (.plain (OpenSpec.upto fnExactChainsOfSpec)) fnExactChainsOfUptoCard

/-- THE SECOND FORM's CARD OF 'laws.FnExactEternalNumber'. -/
def fnExactEternalNumberUptoCard : Claim7 := { stood := { row := fnExactEternalNumberUptoRow, standIns := [], harness := (true, "425a6853123159aeb7aa5860604ddaa1b9010cc37bc0f87033b52f3227e872be"), looks := false }, kinds := [], alts := [], laidByText := true, laidKinds := [.data, .data], laidTests := true, laidLooks := .later }
def FnExactEternalNumberUptoCardSaid : Prop := Claim7.holds Tryd.pinned (.plain (OpenSpec.upto fnExactEternalNumberSpec)) fnExactEternalNumberUptoCard

/-- THE SECOND FORM's CARD OF 'laws.FnExactGuardAnswers'. -/
def fnExactGuardAnswersUptoCard : Claim7 := { stood := { row := fnExactGuardAnswersUptoRow, standIns := [], harness := (true, "425a6853123159aeb7aa5860604ddaa1b9010cc37bc0f87033b52f3227e872be"), looks := false }, kinds := [], alts := [], laidByText := true, laidKinds := [.data, .data], laidTests := true, laidLooks := .later }
def FnExactGuardAnswersUptoCardSaid : Prop := Claim7.holds Tryd.pinned (.plain (OpenSpec.upto fnExactGuardAnswersSpec)) fnExactGuardAnswersUptoCard

/-- THE SECOND FORM's CARD OF 'laws.FnExactResistances'. -/
def fnExactResistancesUptoCard : Claim7 := { stood := { row := fnExactResistancesUptoRow, standIns := [], harness := (true, "425a6853123159aeb7aa5860604ddaa1b9010cc37bc0f87033b52f3227e872be"), looks := false }, kinds := [], alts := [], laidByText := true, laidKinds := [.data, .data], laidTests := true, laidLooks := .later }
def FnExactResistancesUptoCardSaid : Prop := Claim7.holds Tryd.pinned (.plain (OpenSpec.upto fnExactResistancesSpec)) fnExactResistancesUptoCard
end Rows
end Go.Proofs.YthbjajppdomhhaaDoor
