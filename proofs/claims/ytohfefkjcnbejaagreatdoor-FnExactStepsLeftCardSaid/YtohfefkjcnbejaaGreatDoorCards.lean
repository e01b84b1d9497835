/-
  DERIVED. GIVEN WITH THE SEED: THE CARDS: each row of YtohfefkjcnbejaaGreatDoorRows.lean that lists a variable, with what it lists TIED to the program's text (the seventh form; the later family's looks); each row that meets fmt, with fmt's text TOLD by the authors' own Lean function (tested against real Go, not proved from fmt's source: count such statements apart). THE CARD IS WHAT COUNTS. Prove the row's statement (the work); the ties are given (YtohfefkjcnbejaaGreatDoorTie.lean); close each card by the builder's one call (the guide's Derived/Test/ToyasCard.lean, 'card_holds'). Laid BY PROGRAM, IN A SANDBOX (cutbox-door.mjs). By AI agents, Wed Nov 11 2026. No macro, syntax, notation, axiom, sorry.
-/
import Derived.Test.YtohfefkjcnbejaaGreatDoorRows
import GoSem.ClaimSeven
namespace Go.Proofs.YtohfefkjcnbejaaGreatDoor
namespace Rows

/-- THE TIED CARD OF 'laws.FnExactReqOf'. -/
def fnExactReqOfCard : Claim7 := { stood := { row := fnExactReqOfRow, standIns := [], harness := (true, "112b7a1d4d4b9ea72080f5b83574afbf194a323494579d1774c8b83e1d2e182d"), looks := true }, kinds := [], alts := [], laidByText := true, laidKinds := [.data, .data, .data, .data, .sentinel, .sentinel, .pinned], laidTests := true, laidLooks := .later }
def FnExactReqOfCardSaid : Prop := Claim7.holds Tryz.pinned (.plain (OpenSpec.ofChange fnExactReqOfSpec)) fnExactReqOfCard

/-- THE TIED CARD OF 'laws.FnExactAsks'. -/
def fnExactAsksCard : Claim7 := { stood := { row := fnExactAsksRow, standIns := [], harness := (true, "112b7a1d4d4b9ea72080f5b83574afbf194a323494579d1774c8b83e1d2e182d"), looks := true }, kinds := [], alts := [], laidByText := true, laidKinds := [.data, .data, .data, .data, .sentinel, .sentinel, .pinned], laidTests := true, laidLooks := .later }
def FnExactAsksCardSaid : Prop := Claim7.holds Tryz.pinned (.plain (OpenSpec.ofChange fnExactAsksSpec)) fnExactAsksCard

/-- THE TIED CARD OF 'laws.FnExactNeeds'. -/
def fnExactNeedsCard : Claim7 := { stood := { row := fnExactNeedsRow, standIns := [], harness := (true, "112b7a1d4d4b9ea72080f5b83574afbf194a323494579d1774c8b83e1d2e182d"), looks := true }, kinds := [], alts := [], laidByText := true, laidKinds := [.data, .data, .data, .data, .sentinel, .sentinel, .pinned], laidTests := true, laidLooks := .later }
def FnExactNeedsCardSaid : Prop := Claim7.holds Tryz.pinned (.plain (OpenSpec.ofChange fnExactNeedsSpec)) fnExactNeedsCard

/-- THE TIED CARD OF 'laws.FnExactTaskOk'. -/
def fnExactTaskOkCard : Claim7 := { stood := { row := fnExactTaskOkRow, standIns := [], harness := (true, "112b7a1d4d4b9ea72080f5b83574afbf194a323494579d1774c8b83e1d2e182d"), looks := true }, kinds := [], alts := [], laidByText := true, laidKinds := [.data, .data, .data, .data, .sentinel, .sentinel, .pinned], laidTests := true, laidLooks := .later }
def FnExactTaskOkCardSaid : Prop := Claim7.holds Tryz.pinned (.plain (OpenSpec.ofChange fnExactTaskOkSpec)) fnExactTaskOkCard

/-- THE TIED CARD OF 'laws.FnExactStepsLeft'. -/
def fnExactStepsLeftCard : Claim7 := { stood := { row := fnExactStepsLeftRow, standIns := [], harness := (true, "112b7a1d4d4b9ea72080f5b83574afbf194a323494579d1774c8b83e1d2e182d"), looks := true }, kinds := [], alts := [], laidByText := true, laidKinds := [.data, .data, .data, .data, .sentinel, .sentinel, .pinned], laidTests := true, laidLooks := .later }
def FnExactStepsLeftCardSaid : Prop := Claim7.holds Tryz.pinned (.plain (OpenSpec.ofChange fnExactStepsLeftSpec)) fnExactStepsLeftCard

/-- THE SECOND FORM's CARD OF 'laws.FnExactReqOf'. -/
def fnExactReqOfUptoCard : Claim7 := { stood := { row := fnExactReqOfUptoRow, standIns := [], harness := (true, "112b7a1d4d4b9ea72080f5b83574afbf194a323494579d1774c8b83e1d2e182d"), looks := true }, kinds := [], alts := [], laidByText := true, laidKinds := [.data, .data, .data, .data, .sentinel, .sentinel, .pinned], laidTests := true, laidLooks := .later }
def FnExactReqOfUptoCardSaid : Prop := Claim7.holds Tryz.pinned (.plain (OpenSpec.upto fnExactReqOfSpec)) fnExactReqOfUptoCard

/-- THE SECOND FORM's CARD OF 'laws.FnExactAsks'. -/
def fnExactAsksUptoCard : Claim7 := { stood := { row := fnExactAsksUptoRow, standIns := [], harness := (true, "112b7a1d4d4b9ea72080f5b83574afbf194a323494579d1774c8b83e1d2e182d"), looks := true }, kinds := [], alts := [], laidByText := true, laidKinds := [.data, .data, .data, .data, .sentinel, .sentinel, .pinned], laidTests := true, laidLooks := .later }
def FnExactAsksUptoCardSaid : Prop := Claim7.holds Tryz.pinned (.plain (OpenSpec.upto fnExactAsksSpec)) fnExactAsksUptoCard

/-- THE SECOND FORM's CARD OF 'laws.FnExactNeeds'. -/
def fnExactNeedsUptoCard : Claim7 := { stood := { row := fnExactNeedsUptoRow, standIns := [], harness := (true, "112b7a1d4d4b9ea72080f5b83574afbf194a323494579d1774c8b83e1d2e182d"), looks := true }, kinds := [], alts := [], laidByText := true, laidKinds := [.data, .data, .data, .data, .sentinel, .sentinel, .pinned], laidTests := true, laidLooks := .later }
def FnExactNeedsUptoCardSaid : Prop := Claim7.holds Tryz.pinned (.plain (OpenSpec.upto fnExactNeedsSpec)) fnExactNeedsUptoCard

/-- THE SECOND FORM's CARD OF 'laws.FnExactTaskOk'. -/
def fnExactTaskOkUptoCard : Claim7 := { stood := { row := fnExactTaskOkUptoRow, standIns := [], harness := (true, "112b7a1d4d4b9ea72080f5b83574afbf194a323494579d1774c8b83e1d2e182d"), looks := true }, kinds := [], alts := [], laidByText := true, laidKinds := [.data, .data, .data, .data, .sentinel, .sentinel, .pinned], laidTests := true, laidLooks := .later }
def FnExactTaskOkUptoCardSaid : Prop := Claim7.holds Tryz.pinned (.plain (OpenSpec.upto fnExactTaskOkSpec)) fnExactTaskOkUptoCard

/-- THE SECOND FORM's CARD OF 'laws.FnExactStepsLeft'. -/
def fnExactStepsLeftUptoCard : Claim7 := { stood := { row := fnExactStepsLeftUptoRow, standIns := [], harness := (true, "112b7a1d4d4b9ea72080f5b83574afbf194a323494579d1774c8b83e1d2e182d"), looks := true }, kinds := [], alts := [], laidByText := true, laidKinds := [.data, .data, .data, .data, .sentinel, .sentinel, .pinned], laidTests := true, laidLooks := .later }
def FnExactStepsLeftUptoCardSaid : Prop := Claim7.holds Tryz.pinned (.plain (OpenSpec.upto fnExactStepsLeftSpec)) fnExactStepsLeftUptoCard
end Rows
end Go.Proofs.YtohfefkjcnbejaaGreatDoor
