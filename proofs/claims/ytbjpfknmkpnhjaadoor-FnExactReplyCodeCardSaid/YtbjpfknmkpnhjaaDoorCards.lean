/-
  DERIVED. GIVEN WITH THE SEED: THE CARDS: each row of YtbjpfknmkpnhjaaDoorRows.lean that lists a variable, with what it lists TIED to the program's text (the seventh form; the later family's looks); each row that meets fmt, with fmt's text TOLD by the authors' own Lean function (tested against real Go, not proved from fmt's source: count such statements apart). THE CARD IS WHAT COUNTS. Prove the row's statement (the work); the ties are given (YtbjpfknmkpnhjaaDoorTie.lean); close each card by the builder's one call (the guide's Derived/Test/ToyasCard.lean, 'card_holds'). Laid BY PROGRAM, IN A SANDBOX (cutbox-door.mjs). By AI agents, Wed Nov 11 2026. No macro, syntax, notation, axiom, sorry.
-/
import Derived.Test.YtbjpfknmkpnhjaaDoorRows
import GoSem.ClaimSeven
namespace Go.Proofs.YtbjpfknmkpnhjaaDoor
namespace Rows

/-- THE TIED CARD OF 'laws.FnMoney'. -/
def fnMoneyCard : Claim7 := { stood := { row := fnMoneyRow, standIns := [], harness := (true, "e0bdbf0876ab779b65b05acd19e8e5c894c37c36323d63b16bd3934c27f9b728"), looks := true }, kinds := [], alts := [], laidByText := true, laidKinds := [.data, .data, .data, .sentinel, .sentinel], laidTests := true, laidLooks := .later }
def FnMoneyCardSaid : Prop := Claim7.holds Tryd.pinned (.plain (OpenSpec.ofChange fnMoneySpec)) fnMoneyCard

/-- THE TIED CARD OF 'laws.FnExactReqMsg'. -/
def fnExactReqMsgCard : Claim7 := { stood := { row := fnExactReqMsgRow, standIns := [], harness := (true, "e0bdbf0876ab779b65b05acd19e8e5c894c37c36323d63b16bd3934c27f9b728"), looks := true }, kinds := [], alts := [], laidByText := true, laidKinds := [.data, .data, .data], laidTests := true, laidLooks := .later }
def FnExactReqMsgCardSaid : Prop := Claim7.holds Tryd.pinned (.plain (OpenSpec.ofChange fnExactReqMsgSpec)) fnExactReqMsgCard

/-- THE TIED CARD OF 'laws.FnExactReplyCode'. -/
def fnExactReplyCodeCard : Claim7 := { stood := { row := fnExactReplyCodeRow, standIns := [], harness := (true, "e0bdbf0876ab779b65b05acd19e8e5c894c37c36323d63b16bd3934c27f9b728"), looks := true }, kinds := [], alts := [], laidByText := true, laidKinds := [.data, .data, .data, .sentinel, .sentinel], laidTests := true, laidLooks := .later }
def FnExactReplyCodeCardSaid : Prop := Claim7.holds Tryd.pinned (.plain (OpenSpec.ofChange fnExactReplyCodeSpec)) fnExactReplyCodeCard

/-- THE SECOND FORM's CARD OF 'laws.FnMoney'. -/
def fnMoneyUptoCard : Claim7 := { stood := { row := fnMoneyUptoRow, standIns := [], harness := (true, "e0bdbf0876ab779b65b05acd19e8e5c894c37c36323d63b16bd3934c27f9b728"), looks := true }, kinds := [], alts := [], laidByText := true, laidKinds := [.data, .data, .data, .sentinel, .sentinel], laidTests := true, laidLooks := .later }
def FnMoneyUptoCardSaid : Prop := Claim7.holds Tryd.pinned (.plain (OpenSpec.upto fnMoneySpec)) fnMoneyUptoCard

/-- THE SECOND FORM's CARD OF 'laws.FnExactReqMsg'. -/
def fnExactReqMsgUptoCard : Claim7 := { stood := { row := fnExactReqMsgUptoRow, standIns := [], harness := (true, "e0bdbf0876ab779b65b05acd19e8e5c894c37c36323d63b16bd3934c27f9b728"), looks := true }, kinds := [], alts := [], laidByText := true, laidKinds := [.data, .data, .data], laidTests := true, laidLooks := .later }
def FnExactReqMsgUptoCardSaid : Prop := Claim7.holds Tryd.pinned (.plain (OpenSpec.upto fnExactReqMsgSpec)) fnExactReqMsgUptoCard

/-- THE SECOND FORM's CARD OF 'laws.FnExactReplyCode'. -/
def fnExactReplyCodeUptoCard : Claim7 := { stood := { row := fnExactReplyCodeUptoRow, standIns := [], harness := (true, "e0bdbf0876ab779b65b05acd19e8e5c894c37c36323d63b16bd3934c27f9b728"), looks := true }, kinds := [], alts := [], laidByText := true, laidKinds := [.data, .data, .data, .sentinel, .sentinel], laidTests := true, laidLooks := .later }
def FnExactReplyCodeUptoCardSaid : Prop := Claim7.holds Tryd.pinned (.plain (OpenSpec.upto fnExactReplyCodeSpec)) fnExactReplyCodeUptoCard
end Rows
end Go.Proofs.YtbjpfknmkpnhjaaDoor
