/-
  DERIVED. GIVEN WITH THE SEED: THE CARDS: each row of YtpmpggihngmnoaaGreatDoorRows.lean that lists a variable, with what it lists TIED to the program's text (the seventh form; the later family's looks); each row that meets fmt, with fmt's text TOLD by the authors' own Lean function (tested against real Go, not proved from fmt's source: count such statements apart). THE CARD IS WHAT COUNTS. Prove the row's statement (the work); the ties are given (YtpmpggihngmnoaaGreatDoorTie.lean); close each card by the builder's one call (the guide's Derived/Test/ToyasCard.lean, 'card_holds'). Laid BY PROGRAM, IN A SANDBOX (cutbox-door.mjs). By AI agents, Wed Nov 11 2026. No macro, syntax, notation, axiom, sorry.
-/
import Derived.Test.YtpmpggihngmnoaaGreatDoorRows
import GoSem.ClaimSeven
namespace Go.Proofs.YtpmpggihngmnoaaGreatDoor
namespace Rows

/-- THE TIED CARD OF 'laws.FnTraceDate'. -/
def fnTraceDateCard : Claim7 := { stood := { row := fnTraceDateRow, standIns := [], harness := (true, "e86b1062b0806b53af9be35a4d1aa967d70b5c7b7f399656b39399bacadd1ce1"), looks := false }, kinds := [], alts := [], laidByText := true, laidKinds := [.data, .widerDeep, .pinned], laidTests := true, laidLooks := .later }
def FnTraceDateCardSaid : Prop := Claim7.holds Tryz.pinned (.plain (OpenSpec.ofChange fnTraceDateSpec)) fnTraceDateCard

/-- THE TIED CARD OF 'laws.FnHopsTrace'. -/
def fnHopsTraceCard : Claim7 := { stood := { row := fnHopsTraceRow, standIns := [], harness := (true, "e86b1062b0806b53af9be35a4d1aa967d70b5c7b7f399656b39399bacadd1ce1"), looks := false }, kinds := [], alts := [], laidByText := true, laidKinds := [.data, .widerDeep, .pinned], laidTests := true, laidLooks := .later }
def FnHopsTraceCardSaid : Prop := Claim7.holds Tryz.pinned (.plain (OpenSpec.ofChange fnHopsTraceSpec)) fnHopsTraceCard

/-- THE TIED CARD OF 'laws.FnTraceMail'. -/
def fnTraceMailCard : Claim7 := { stood := { row := fnTraceMailRow, standIns := [], harness := (true, "e86b1062b0806b53af9be35a4d1aa967d70b5c7b7f399656b39399bacadd1ce1"), looks := false }, kinds := [], alts := [], laidByText := true, laidKinds := [.data, .widerDeep, .pinned], laidTests := true, laidLooks := .later }
def FnTraceMailCardSaid : Prop := Claim7.holds Tryz.pinned (.plain (OpenSpec.ofChange fnTraceMailSpec)) fnTraceMailCard

/-- THE TIED CARD OF 'laws.FnScriptBox'. -/
def fnScriptBoxCard : Claim7 := { stood := { row := fnScriptBoxRow, standIns := [], harness := (true, "e86b1062b0806b53af9be35a4d1aa967d70b5c7b7f399656b39399bacadd1ce1"), looks := false }, kinds := [], alts := [], laidByText := true, laidKinds := [.data, .widerDeep, .pinned], laidTests := true, laidLooks := .later }
def FnScriptBoxCardSaid : Prop := Claim7.holds Tryz.pinned (.plain (OpenSpec.ofChange fnScriptBoxSpec)) fnScriptBoxCard

/-- THE TIED CARD OF 'laws.FnScriptReturn'. -/
def fnScriptReturnCard : Claim7 := { stood := { row := fnScriptReturnRow, standIns := [], harness := (true, "e86b1062b0806b53af9be35a4d1aa967d70b5c7b7f399656b39399bacadd1ce1"), looks := false }, kinds := [], alts := [], laidByText := true, laidKinds := [.data, .widerDeep, .pinned], laidTests := true, laidLooks := .later }
def FnScriptReturnCardSaid : Prop := Claim7.holds Tryz.pinned (.plain (OpenSpec.ofChange fnScriptReturnSpec)) fnScriptReturnCard

/-- THE TIED CARD OF 'laws.FnScriptSay'. -/
def fnScriptSayCard : Claim7 := { stood := { row := fnScriptSayRow, standIns := [], harness := (true, "e86b1062b0806b53af9be35a4d1aa967d70b5c7b7f399656b39399bacadd1ce1"), looks := false }, kinds := [], alts := [], laidByText := true, laidKinds := [.data, .widerDeep, .pinned], laidTests := true, laidLooks := .later }
def FnScriptSayCardSaid : Prop := Claim7.holds Tryz.pinned (.plain (OpenSpec.ofChange fnScriptSaySpec)) fnScriptSayCard

/-- THE SECOND FORM's CARD OF 'laws.FnTraceDate'. -/
def fnTraceDateUptoCard : Claim7 := { stood := { row := fnTraceDateUptoRow, standIns := [], harness := (true, "e86b1062b0806b53af9be35a4d1aa967d70b5c7b7f399656b39399bacadd1ce1"), looks := false }, kinds := [], alts := [], laidByText := true, laidKinds := [.data, .widerDeep, .pinned], laidTests := true, laidLooks := .later }
def FnTraceDateUptoCardSaid : Prop := Claim7.holds Tryz.pinned (.plain (OpenSpec.upto fnTraceDateSpec)) fnTraceDateUptoCard

/-- THE SECOND FORM's CARD OF 'laws.FnHopsTrace'. -/
def fnHopsTraceUptoCard : Claim7 := { stood := { row := fnHopsTraceUptoRow, standIns := [], harness := (true, "e86b1062b0806b53af9be35a4d1aa967d70b5c7b7f399656b39399bacadd1ce1"), looks := false }, kinds := [], alts := [], laidByText := true, laidKinds := [.data, .widerDeep, .pinned], laidTests := true, laidLooks := .later }
def FnHopsTraceUptoCardSaid : Prop := Claim7.holds Tryz.pinned (.plain (OpenSpec.upto fnHopsTraceSpec)) fnHopsTraceUptoCard

/-- THE SECOND FORM's CARD OF 'laws.FnTraceMail'. -/
def fnTraceMailUptoCard : Claim7 := { stood := { row := fnTraceMailUptoRow, standIns := [], harness := (true, "e86b1062b0806b53af9be35a4d1aa967d70b5c7b7f399656b39399bacadd1ce1"), looks := false }, kinds := [], alts := [], laidByText := true, laidKinds := [.data, .widerDeep, .pinned], laidTests := true, laidLooks := .later }
def FnTraceMailUptoCardSaid : Prop := Claim7.holds Tryz.pinned (.plain (OpenSpec.upto fnTraceMailSpec)) fnTraceMailUptoCard

/-- THE SECOND FORM's CARD OF 'laws.FnScriptBox'. -/
def fnScriptBoxUptoCard : Claim7 := { stood := { row := fnScriptBoxUptoRow, standIns := [], harness := (true, "e86b1062b0806b53af9be35a4d1aa967d70b5c7b7f399656b39399bacadd1ce1"), looks := false }, kinds := [], alts := [], laidByText := true, laidKinds := [.data, .widerDeep, .pinned], laidTests := true, laidLooks := .later }
def FnScriptBoxUptoCardSaid : Prop := Claim7.holds Tryz.pinned (.plain (OpenSpec.upto fnScriptBoxSpec)) fnScriptBoxUptoCard

/-- THE SECOND FORM's CARD OF 'laws.FnScriptReturn'. -/
def fnScriptReturnUptoCard : Claim7 := { stood := { row := fnScriptReturnUptoRow, standIns := [], harness := (true, "e86b1062b0806b53af9be35a4d1aa967d70b5c7b7f399656b39399bacadd1ce1"), looks := false }, kinds := [], alts := [], laidByText := true, laidKinds := [.data, .widerDeep, .pinned], laidTests := true, laidLooks := .later }
def FnScriptReturnUptoCardSaid : Prop := Claim7.holds Tryz.pinned (.plain (OpenSpec.upto fnScriptReturnSpec)) fnScriptReturnUptoCard

/-- THE SECOND FORM's CARD OF 'laws.FnScriptSay'. -/
def fnScriptSayUptoCard : Claim7 := { stood := { row := fnScriptSayUptoRow, standIns := [], harness := (true, "e86b1062b0806b53af9be35a4d1aa967d70b5c7b7f399656b39399bacadd1ce1"), looks := false }, kinds := [], alts := [], laidByText := true, laidKinds := [.data, .widerDeep, .pinned], laidTests := true, laidLooks := .later }
def FnScriptSayUptoCardSaid : Prop := Claim7.holds Tryz.pinned (.plain (OpenSpec.upto fnScriptSaySpec)) fnScriptSayUptoCard
end Rows
end Go.Proofs.YtpmpggihngmnoaaGreatDoor
