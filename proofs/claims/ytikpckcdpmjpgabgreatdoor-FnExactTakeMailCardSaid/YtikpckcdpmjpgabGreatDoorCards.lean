/-
  DERIVED. GIVEN WITH THE SEED: THE CARDS: each row of YtikpckcdpmjpgabGreatDoorRows.lean that lists a variable, with what it lists TIED to the program's text (the seventh form; the later family's looks); each row that meets fmt, with fmt's text TOLD by the authors' own Lean function (tested against real Go, not proved from fmt's source: count such statements apart). THE CARD IS WHAT COUNTS. Prove the row's statement (the work); the ties are given (YtikpckcdpmjpgabGreatDoorTie.lean); close each card by the builder's one call (the guide's Derived/Test/ToyasCard.lean, 'card_holds'). Laid BY PROGRAM, IN A SANDBOX (cutbox-door.mjs). By AI agents, Wed Nov 11 2026. No macro, syntax, notation, axiom, sorry.
-/
import Derived.Test.YtikpckcdpmjpgabGreatDoorRows
import GoSem.ClaimSeven
namespace Go.Proofs.YtikpckcdpmjpgabGreatDoor
namespace Rows

/-- THE TIED CARD OF 'laws.FnTraceMail'. -/
def fnTraceMailCard : Claim7 := { stood := { row := fnTraceMailRow, standIns := [], harness := (true, "eeee397e69a5598ee04ae39ba0805771fe71f28f963c3548191716d677a211bb"), looks := false }, kinds := [], alts := [], laidByText := true, laidKinds := [.data, .widerDeep, .pinned], laidTests := true, laidLooks := .later }
def FnTraceMailCardSaid : Prop := Claim7.holds Tryz.pinned (.plain (OpenSpec.ofChange fnTraceMailSpec)) fnTraceMailCard

/-- THE TIED CARD OF 'laws.FnExactTakeMail'. -/
def fnExactTakeMailCard : Claim7 := { stood := { row := fnExactTakeMailRow, standIns := [], harness := (true, "eeee397e69a5598ee04ae39ba0805771fe71f28f963c3548191716d677a211bb"), looks := false }, kinds := [], alts := [], laidByText := true, laidKinds := [.data, .pinned], laidTests := true, laidLooks := .later }
def FnExactTakeMailCardSaid : Prop := Claim7.holds Tryz.pinned (.plain (OpenSpec.ofChange fnExactTakeMailSpec)) fnExactTakeMailCard

/-- THE TIED CARD OF 'laws.FnExactTraceMail'. -/
def fnExactTraceMailCard : Claim7 := { stood := { row := fnExactTraceMailRow, standIns := [], harness := (true, "eeee397e69a5598ee04ae39ba0805771fe71f28f963c3548191716d677a211bb"), looks := false }, kinds := [], alts := [], laidByText := true, laidKinds := [.data, .widerDeep, .pinned], laidTests := true, laidLooks := .later }
def FnExactTraceMailCardSaid : Prop := Claim7.holds Tryz.pinned (.plain (OpenSpec.ofChange fnExactTraceMailSpec)) fnExactTraceMailCard

/-- THE TIED CARD OF 'laws.FnExactDeliverMail'. -/
def fnExactDeliverMailCard : Claim7 := { stood := { row := fnExactDeliverMailRow, standIns := [], harness := (true, "eeee397e69a5598ee04ae39ba0805771fe71f28f963c3548191716d677a211bb"), looks := false }, kinds := [], alts := [], laidByText := true, laidKinds := [.data, .pinned], laidTests := true, laidLooks := .later }
def FnExactDeliverMailCardSaid : Prop := Claim7.holds Tryz.pinned (.plain (OpenSpec.ofChange fnExactDeliverMailSpec)) fnExactDeliverMailCard

/-- THE TIED CARD OF 'laws.FnExactAddBox'. -/
def fnExactAddBoxCard : Claim7 := { stood := { row := fnExactAddBoxRow, standIns := [], harness := (true, "eeee397e69a5598ee04ae39ba0805771fe71f28f963c3548191716d677a211bb"), looks := false }, kinds := [], alts := [], laidByText := true, laidKinds := [.data, .pinned], laidTests := true, laidLooks := .later }
def FnExactAddBoxCardSaid : Prop := Claim7.holds Tryz.pinned (.plain (OpenSpec.ofChange fnExactAddBoxSpec)) fnExactAddBoxCard

/-- THE SECOND FORM's CARD OF 'laws.FnTraceMail'. -/
def fnTraceMailUptoCard : Claim7 := { stood := { row := fnTraceMailUptoRow, standIns := [], harness := (true, "eeee397e69a5598ee04ae39ba0805771fe71f28f963c3548191716d677a211bb"), looks := false }, kinds := [], alts := [], laidByText := true, laidKinds := [.data, .widerDeep, .pinned], laidTests := true, laidLooks := .later }
def FnTraceMailUptoCardSaid : Prop := Claim7.holds Tryz.pinned (.plain (OpenSpec.upto fnTraceMailSpec)) fnTraceMailUptoCard

/-- THE SECOND FORM's CARD OF 'laws.FnExactTakeMail'. -/
def fnExactTakeMailUptoCard : Claim7 := { stood := { row := fnExactTakeMailUptoRow, standIns := [], harness := (true, "eeee397e69a5598ee04ae39ba0805771fe71f28f963c3548191716d677a211bb"), looks := false }, kinds := [], alts := [], laidByText := true, laidKinds := [.data, .pinned], laidTests := true, laidLooks := .later }
def FnExactTakeMailUptoCardSaid : Prop := Claim7.holds Tryz.pinned (.plain (OpenSpec.upto fnExactTakeMailSpec)) fnExactTakeMailUptoCard

/-- THE SECOND FORM's CARD OF 'laws.FnExactTraceMail'. -/
def fnExactTraceMailUptoCard : Claim7 := { stood := { row := fnExactTraceMailUptoRow, standIns := [], harness := (true, "eeee397e69a5598ee04ae39ba0805771fe71f28f963c3548191716d677a211bb"), looks := false }, kinds := [], alts := [], laidByText := true, laidKinds := [.data, .widerDeep, .pinned], laidTests := true, laidLooks := .later }
def FnExactTraceMailUptoCardSaid : Prop := Claim7.holds Tryz.pinned (.plain (OpenSpec.upto fnExactTraceMailSpec)) fnExactTraceMailUptoCard

/-- THE SECOND FORM's CARD OF 'laws.FnExactDeliverMail'. -/
def fnExactDeliverMailUptoCard : Claim7 := { stood := { row := fnExactDeliverMailUptoRow, standIns := [], harness := (true, "eeee397e69a5598ee04ae39ba0805771fe71f28f963c3548191716d677a211bb"), looks := false }, kinds := [], alts := [], laidByText := true, laidKinds := [.data, .pinned], laidTests := true, laidLooks := .later }
def FnExactDeliverMailUptoCardSaid : Prop := Claim7.holds Tryz.pinned (.plain (OpenSpec.upto fnExactDeliverMailSpec)) fnExactDeliverMailUptoCard

/-- THE SECOND FORM's CARD OF 'laws.FnExactAddBox'. -/
def fnExactAddBoxUptoCard : Claim7 := { stood := { row := fnExactAddBoxUptoRow, standIns := [], harness := (true, "eeee397e69a5598ee04ae39ba0805771fe71f28f963c3548191716d677a211bb"), looks := false }, kinds := [], alts := [], laidByText := true, laidKinds := [.data, .pinned], laidTests := true, laidLooks := .later }
def FnExactAddBoxUptoCardSaid : Prop := Claim7.holds Tryz.pinned (.plain (OpenSpec.upto fnExactAddBoxSpec)) fnExactAddBoxUptoCard
end Rows
end Go.Proofs.YtikpckcdpmjpgabGreatDoor
