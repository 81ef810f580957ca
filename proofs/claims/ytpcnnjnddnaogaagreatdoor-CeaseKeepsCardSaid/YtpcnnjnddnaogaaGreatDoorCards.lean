/-
  DERIVED. GIVEN WITH THE SEED: THE CARDS: each row of YtpcnnjnddnaogaaGreatDoorRows.lean that lists a variable, with what it lists TIED to the program's text (the seventh form; the later family's looks); each row that meets fmt, with fmt's text TOLD by the authors' own Lean function (tested against real Go, not proved from fmt's source: count such statements apart). THE CARD IS WHAT COUNTS. Prove the row's statement (the work); the ties are given (YtpcnnjnddnaogaaGreatDoorTie.lean); close each card by the builder's one call (the guide's Derived/Test/ToyasCard.lean, 'card_holds'). Laid BY PROGRAM, IN A SANDBOX (cutbox-door.mjs). By AI agents, Wed Nov 11 2026. No macro, syntax, notation, axiom, sorry.
-/
import Derived.Test.YtpcnnjnddnaogaaGreatDoorRows
import GoSem.ClaimSeven
namespace Go.Proofs.YtpcnnjnddnaogaaGreatDoor
namespace Rows

/-- THE TIED CARD OF 'drawbridgelaw16.CeaseAll'. -/
def ceaseAllCard : Claim7 := { stood := { row := ceaseAllRow, standIns := [], harness := (true, "6b02c825a31eb1d64ce8c0d48304d645abff5b6c9cb370d5267b4e4c1e322499"), looks := false }, kinds := [], alts := [], laidByText := true, laidKinds := [.data], laidTests := true, laidLooks := .later }
def CeaseAllCardSaid : Prop := Claim7.holds Tryz.pinned (.plain (OpenSpec.ofChange ceaseAllSpec)) ceaseAllCard

/-- THE TIED CARD OF 'drawbridgelaw16.CeaseMoney'. -/
def ceaseMoneyCard : Claim7 := { stood := { row := ceaseMoneyRow, standIns := [], harness := (true, "6b02c825a31eb1d64ce8c0d48304d645abff5b6c9cb370d5267b4e4c1e322499"), looks := false }, kinds := [], alts := [], laidByText := true, laidKinds := [.data], laidTests := true, laidLooks := .later }
def CeaseMoneyCardSaid : Prop := Claim7.holds Tryz.pinned (.plain (OpenSpec.ofChange ceaseMoneySpec)) ceaseMoneyCard

/-- THE TIED CARD OF 'drawbridgelaw16.CeaseNot'. -/
def ceaseNotCard : Claim7 := { stood := { row := ceaseNotRow, standIns := [], harness := (true, "6b02c825a31eb1d64ce8c0d48304d645abff5b6c9cb370d5267b4e4c1e322499"), looks := false }, kinds := [], alts := [], laidByText := true, laidKinds := [.data], laidTests := true, laidLooks := .later }
def CeaseNotCardSaid : Prop := Claim7.holds Tryz.pinned (.plain (OpenSpec.ofChange ceaseNotSpec)) ceaseNotCard

/-- THE TIED CARD OF 'drawbridgelaw16.CeaseKeeps'. -/
def ceaseKeepsCard : Claim7 := { stood := { row := ceaseKeepsRow, standIns := [], harness := (true, "6b02c825a31eb1d64ce8c0d48304d645abff5b6c9cb370d5267b4e4c1e322499"), looks := false }, kinds := [], alts := [], laidByText := true, laidKinds := [.data], laidTests := true, laidLooks := .later }
def CeaseKeepsCardSaid : Prop := Claim7.holds Tryz.pinned (.plain (OpenSpec.ofChange ceaseKeepsSpec)) ceaseKeepsCard

/-- THE TIED CARD OF 'drawbridgelaw15.PayoutDue'. -/
def payoutDueCard : Claim7 := { stood := { row := payoutDueRow, standIns := [], harness := (true, "6b02c825a31eb1d64ce8c0d48304d645abff5b6c9cb370d5267b4e4c1e322499"), looks := false }, kinds := [], alts := [], laidByText := true, laidKinds := [.data], laidTests := true, laidLooks := .later }
def PayoutDueCardSaid : Prop := Claim7.holds Tryz.pinned (.plain (OpenSpec.ofChange payoutDueSpec)) payoutDueCard

/-- THE TIED CARD OF 'drawbridgelaw15.PayoutKeeps'. -/
def payoutKeepsCard : Claim7 := { stood := { row := payoutKeepsRow, standIns := [], harness := (true, "6b02c825a31eb1d64ce8c0d48304d645abff5b6c9cb370d5267b4e4c1e322499"), looks := false }, kinds := [], alts := [], laidByText := true, laidKinds := [.data], laidTests := true, laidLooks := .later }
def PayoutKeepsCardSaid : Prop := Claim7.holds Tryz.pinned (.plain (OpenSpec.ofChange payoutKeepsSpec)) payoutKeepsCard

/-- THE TIED CARD OF 'drawbridgelaw15.PayoutOnce'. -/
def payoutOnceCard : Claim7 := { stood := { row := payoutOnceRow, standIns := [], harness := (true, "6b02c825a31eb1d64ce8c0d48304d645abff5b6c9cb370d5267b4e4c1e322499"), looks := false }, kinds := [], alts := [], laidByText := true, laidKinds := [.data], laidTests := true, laidLooks := .later }
def PayoutOnceCardSaid : Prop := Claim7.holds Tryz.pinned (.plain (OpenSpec.ofChange payoutOnceSpec)) payoutOnceCard

/-- THE TIED CARD OF 'drawbridgelaw15.PayoutPays'. -/
def payoutPaysCard : Claim7 := { stood := { row := payoutPaysRow, standIns := [], harness := (true, "6b02c825a31eb1d64ce8c0d48304d645abff5b6c9cb370d5267b4e4c1e322499"), looks := false }, kinds := [], alts := [], laidByText := true, laidKinds := [.data], laidTests := true, laidLooks := .later }
def PayoutPaysCardSaid : Prop := Claim7.holds Tryz.pinned (.plain (OpenSpec.ofChange payoutPaysSpec)) payoutPaysCard

/-- THE TIED CARD OF 'drawbridgelaw15.PayoutEnds'. -/
def payoutEndsCard : Claim7 := { stood := { row := payoutEndsRow, standIns := [], harness := (true, "6b02c825a31eb1d64ce8c0d48304d645abff5b6c9cb370d5267b4e4c1e322499"), looks := false }, kinds := [], alts := [], laidByText := true, laidKinds := [.data], laidTests := true, laidLooks := .later }
def PayoutEndsCardSaid : Prop := Claim7.holds Tryz.pinned (.plain (OpenSpec.ofChange payoutEndsSpec)) payoutEndsCard

/-- THE TIED CARD OF 'drawbridgelaw16.CeaseTakes'. -/
def ceaseTakesCard : Claim7 := { stood := { row := ceaseTakesRow, standIns := [], harness := (true, "6b02c825a31eb1d64ce8c0d48304d645abff5b6c9cb370d5267b4e4c1e322499"), looks := false }, kinds := [], alts := [], laidByText := true, laidKinds := [.data], laidTests := true, laidLooks := .later }
def CeaseTakesCardSaid : Prop := Claim7.holds Tryz.pinned (.plain (OpenSpec.ofChange ceaseTakesSpec)) ceaseTakesCard

/-- THE SECOND FORM's CARD OF 'drawbridgelaw16.CeaseAll'. -/
def ceaseAllUptoCard : Claim7 := { stood := { row := ceaseAllUptoRow, standIns := [], harness := (true, "6b02c825a31eb1d64ce8c0d48304d645abff5b6c9cb370d5267b4e4c1e322499"), looks := false }, kinds := [], alts := [], laidByText := true, laidKinds := [.data], laidTests := true, laidLooks := .later }
def CeaseAllUptoCardSaid : Prop := Claim7.holds Tryz.pinned (.plain (OpenSpec.upto ceaseAllSpec)) ceaseAllUptoCard

/-- THE SECOND FORM's CARD OF 'drawbridgelaw16.CeaseMoney'. -/
def ceaseMoneyUptoCard : Claim7 := { stood := { row := ceaseMoneyUptoRow, standIns := [], harness := (true, "6b02c825a31eb1d64ce8c0d48304d645abff5b6c9cb370d5267b4e4c1e322499"), looks := false }, kinds := [], alts := [], laidByText := true, laidKinds := [.data], laidTests := true, laidLooks := .later }
def CeaseMoneyUptoCardSaid : Prop := Claim7.holds Tryz.pinned (.plain (OpenSpec.upto ceaseMoneySpec)) ceaseMoneyUptoCard

/-- THE SECOND FORM's CARD OF 'drawbridgelaw16.CeaseNot'. -/
def ceaseNotUptoCard : Claim7 := { stood := { row := ceaseNotUptoRow, standIns := [], harness := (true, "6b02c825a31eb1d64ce8c0d48304d645abff5b6c9cb370d5267b4e4c1e322499"), looks := false }, kinds := [], alts := [], laidByText := true, laidKinds := [.data], laidTests := true, laidLooks := .later }
def CeaseNotUptoCardSaid : Prop := Claim7.holds Tryz.pinned (.plain (OpenSpec.upto ceaseNotSpec)) ceaseNotUptoCard

/-- THE SECOND FORM's CARD OF 'drawbridgelaw16.CeaseKeeps'. -/
def ceaseKeepsUptoCard : Claim7 := { stood := { row := ceaseKeepsUptoRow, standIns := [], harness := (true, "6b02c825a31eb1d64ce8c0d48304d645abff5b6c9cb370d5267b4e4c1e322499"), looks := false }, kinds := [], alts := [], laidByText := true, laidKinds := [.data], laidTests := true, laidLooks := .later }
def CeaseKeepsUptoCardSaid : Prop := Claim7.holds Tryz.pinned (.plain (OpenSpec.upto ceaseKeepsSpec)) ceaseKeepsUptoCard

/-- THE SECOND FORM's CARD OF 'drawbridgelaw15.PayoutDue'. -/
def payoutDueUptoCard : Claim7 := { stood := { row := payoutDueUptoRow, standIns := [], harness := (true, "6b02c825a31eb1d64ce8c0d48304d645abff5b6c9cb370d5267b4e4c1e322499"), looks := false }, kinds := [], alts := [], laidByText := true, laidKinds := [.data], laidTests := true, laidLooks := .later }
def PayoutDueUptoCardSaid : Prop := Claim7.holds Tryz.pinned (.plain (OpenSpec.upto payoutDueSpec)) payoutDueUptoCard

/-- THE SECOND FORM's CARD OF 'drawbridgelaw15.PayoutKeeps'. -/
def payoutKeepsUptoCard : Claim7 := { stood := { row := payoutKeepsUptoRow, standIns := [], harness := (true, "6b02c825a31eb1d64ce8c0d48304d645abff5b6c9cb370d5267b4e4c1e322499"), looks := false }, kinds := [], alts := [], laidByText := true, laidKinds := [.data], laidTests := true, laidLooks := .later }
def PayoutKeepsUptoCardSaid : Prop := Claim7.holds Tryz.pinned (.plain (OpenSpec.upto payoutKeepsSpec)) payoutKeepsUptoCard

/-- THE SECOND FORM's CARD OF 'drawbridgelaw15.PayoutOnce'. -/
def payoutOnceUptoCard : Claim7 := { stood := { row := payoutOnceUptoRow, standIns := [], harness := (true, "6b02c825a31eb1d64ce8c0d48304d645abff5b6c9cb370d5267b4e4c1e322499"), looks := false }, kinds := [], alts := [], laidByText := true, laidKinds := [.data], laidTests := true, laidLooks := .later }
def PayoutOnceUptoCardSaid : Prop := Claim7.holds Tryz.pinned (.plain (OpenSpec.upto payoutOnceSpec)) payoutOnceUptoCard

/-- THE SECOND FORM's CARD OF 'drawbridgelaw15.PayoutPays'. -/
def payoutPaysUptoCard : Claim7 := { stood := { row := payoutPaysUptoRow, standIns := [], harness := (true, "6b02c825a31eb1d64ce8c0d48304d645abff5b6c9cb370d5267b4e4c1e322499"), looks := false }, kinds := [], alts := [], laidByText := true, laidKinds := [.data], laidTests := true, laidLooks := .later }
def PayoutPaysUptoCardSaid : Prop := Claim7.holds Tryz.pinned (.plain (OpenSpec.upto payoutPaysSpec)) payoutPaysUptoCard

/-- THE SECOND FORM's CARD OF 'drawbridgelaw15.PayoutEnds'. -/
def payoutEndsUptoCard : Claim7 := { stood := { row := payoutEndsUptoRow, standIns := [], harness := (true, "6b02c825a31eb1d64ce8c0d48304d645abff5b6c9cb370d5267b4e4c1e322499"), looks := false }, kinds := [], alts := [], laidByText := true, laidKinds := [.data], laidTests := true, laidLooks := .later }
def PayoutEndsUptoCardSaid : Prop := Claim7.holds Tryz.pinned (.plain (OpenSpec.upto payoutEndsSpec)) payoutEndsUptoCard

/-- THE SECOND FORM's CARD OF 'drawbridgelaw16.CeaseTakes'. -/
def ceaseTakesUptoCard : Claim7 := { stood := { row := ceaseTakesUptoRow, standIns := [], harness := (true, "6b02c825a31eb1d64ce8c0d48304d645abff5b6c9cb370d5267b4e4c1e322499"), looks := false }, kinds := [], alts := [], laidByText := true, laidKinds := [.data], laidTests := true, laidLooks := .later }
def CeaseTakesUptoCardSaid : Prop := Claim7.holds Tryz.pinned (.plain (OpenSpec.upto ceaseTakesSpec)) ceaseTakesUptoCard
end Rows
end Go.Proofs.YtpcnnjnddnaogaaGreatDoor
