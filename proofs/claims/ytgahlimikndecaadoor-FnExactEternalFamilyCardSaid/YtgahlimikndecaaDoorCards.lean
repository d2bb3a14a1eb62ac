/-
  DERIVED. GIVEN WITH THE SEED: THE CARDS: each row of YtgahlimikndecaaDoorRows.lean that lists a variable, with what it lists TIED to the program's text (the seventh form; the later family's looks); each row that meets fmt, with fmt's text TOLD by the authors' own Lean function (tested against real Go, not proved from fmt's source: count such statements apart). THE CARD IS WHAT COUNTS. Prove the row's statement (the work); the ties are given (YtgahlimikndecaaDoorTie.lean); close each card by the builder's one call (the guide's Derived/Test/ToyasCard.lean, 'card_holds'). Laid BY PROGRAM, IN A SANDBOX (cutbox-door.mjs). By AI agents, Wed Nov 11 2026. No macro, syntax, notation, axiom, sorry.
-/
import Derived.Test.YtgahlimikndecaaDoorRows
import GoSem.ClaimSeven
namespace Go.Proofs.YtgahlimikndecaaDoor
namespace Rows

/-- THE TIED CARD OF 'laws.FnExactEternalFamily'. -/
def fnExactEternalFamilyCard : Claim7 := { stood := { row := fnExactEternalFamilyRow, standIns := [], harness := (true, "d988f4d50d99375dcf189df8bab2913408ed6f3bb434e9d231990ffe5b46a2ce"), looks := false }, kinds := [], alts := [], laidByText := true, laidKinds := [.data, .data], laidTests := true, laidLooks := .later }
def FnExactEternalFamilyCardSaid : Prop := Claim7.holds Tryd.pinned (.plain (OpenSpec.ofChange fnExactEternalFamilySpec)) fnExactEternalFamilyCard

/-- THE TIED CARD OF 'laws.FnExactWorstAttack'. -/
def fnExactWorstAttackCard : Claim7 := { stood := { row := fnExactWorstAttackRow, standIns := [], harness := (true, "d988f4d50d99375dcf189df8bab2913408ed6f3bb434e9d231990ffe5b46a2ce"), looks := false }, kinds := [], alts := [], laidByText := true, laidKinds := [.data, .data], laidTests := true, laidLooks := .later }
def FnExactWorstAttackCardSaid : Prop := Claim7.holds Tryd.pinned (.plain (OpenSpec.ofChange fnExactWorstAttackSpec)) fnExactWorstAttackCard

/-- THE TIED CARD OF 'laws.FnExactBestAnswer'. -/
def fnExactBestAnswerCard : Claim7 := { stood := { row := fnExactBestAnswerRow, standIns := [], harness := (true, "d988f4d50d99375dcf189df8bab2913408ed6f3bb434e9d231990ffe5b46a2ce"), looks := false }, kinds := [], alts := [], laidByText := true, laidKinds := [.data, .data], laidTests := true, laidLooks := .later }
def FnExactBestAnswerCardSaid : Prop := Claim7.holds Tryd.pinned (.plain (OpenSpec.ofChange fnExactBestAnswerSpec)) fnExactBestAnswerCard

/-- THE TIED CARD OF 'laws.FnExactPlayAttacks'. -/
def fnExactPlayAttacksCard : Claim7 := { stood := { row := fnExactPlayAttacksRow, standIns := [], harness := (true, "d988f4d50d99375dcf189df8bab2913408ed6f3bb434e9d231990ffe5b46a2ce"), looks := false }, kinds := [], alts := [], laidByText := true, laidKinds := [.data, .data], laidTests := true, laidLooks := .later }
def FnExactPlayAttacksCardSaid : Prop := Claim7.holds Tryd.pinned (.plain (OpenSpec.ofChange fnExactPlayAttacksSpec)) fnExactPlayAttacksCard

/-- THE SECOND FORM's CARD OF 'laws.FnExactEternalFamily'. -/
def fnExactEternalFamilyUptoCard : Claim7 := { stood := { row := fnExactEternalFamilyUptoRow, standIns := [], harness := (true, "d988f4d50d99375dcf189df8bab2913408ed6f3bb434e9d231990ffe5b46a2ce"), looks := false }, kinds := [], alts := [], laidByText := true, laidKinds := [.data, .data], laidTests := true, laidLooks := .later }
def FnExactEternalFamilyUptoCardSaid : Prop := Claim7.holds Tryd.pinned (.plain (OpenSpec.upto fnExactEternalFamilySpec)) fnExactEternalFamilyUptoCard

/-- THE SECOND FORM's CARD OF 'laws.FnExactWorstAttack'. -/
def fnExactWorstAttackUptoCard : Claim7 := { stood := { row := fnExactWorstAttackUptoRow, standIns := [], harness := (true, "d988f4d50d99375dcf189df8bab2913408ed6f3bb434e9d231990ffe5b46a2ce"), looks := false }, kinds := [], alts := [], laidByText := true, laidKinds := [.data, .data], laidTests := true, laidLooks := .later }
def FnExactWorstAttackUptoCardSaid : Prop := Claim7.holds Tryd.pinned (.plain (OpenSpec.upto fnExactWorstAttackSpec)) fnExactWorstAttackUptoCard

/-- THE SECOND FORM's CARD OF 'laws.FnExactBestAnswer'. -/
def fnExactBestAnswerUptoCard : Claim7 := { stood := { row := fnExactBestAnswerUptoRow, standIns := [], harness := (true, "d988f4d50d99375dcf189df8bab2913408ed6f3bb434e9d231990ffe5b46a2ce"), looks := false }, kinds := [], alts := [], laidByText := true, laidKinds := [.data, .data], laidTests := true, laidLooks := .later }
def FnExactBestAnswerUptoCardSaid : Prop := Claim7.holds Tryd.pinned (.plain (OpenSpec.upto fnExactBestAnswerSpec)) fnExactBestAnswerUptoCard

/-- THE SECOND FORM's CARD OF 'laws.FnExactPlayAttacks'. -/
def fnExactPlayAttacksUptoCard : Claim7 := { stood := { row := fnExactPlayAttacksUptoRow, standIns := [], harness := (true, "d988f4d50d99375dcf189df8bab2913408ed6f3bb434e9d231990ffe5b46a2ce"), looks := false }, kinds := [], alts := [], laidByText := true, laidKinds := [.data, .data], laidTests := true, laidLooks := .later }
def FnExactPlayAttacksUptoCardSaid : Prop := Claim7.holds Tryd.pinned (.plain (OpenSpec.upto fnExactPlayAttacksSpec)) fnExactPlayAttacksUptoCard
end Rows
end Go.Proofs.YtgahlimikndecaaDoor
