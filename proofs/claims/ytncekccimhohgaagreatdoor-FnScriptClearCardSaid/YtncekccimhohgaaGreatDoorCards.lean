/-
  DERIVED. GIVEN WITH THE SEED: THE CARDS: each row of YtncekccimhohgaaGreatDoorRows.lean that lists a variable, with what it lists TIED to the program's text (the seventh form; the later family's looks); each row that meets fmt, with fmt's text TOLD by the authors' own Lean function (tested against real Go, not proved from fmt's source: count such statements apart). THE CARD IS WHAT COUNTS. Prove the row's statement (the work); the ties are given (YtncekccimhohgaaGreatDoorTie.lean); close each card by the builder's one call (the guide's Derived/Test/ToyasCard.lean, 'card_holds'). Laid BY PROGRAM, IN A SANDBOX (cutbox-door.mjs). By AI agents, Wed Nov 11 2026. No macro, syntax, notation, axiom, sorry.
-/
import Derived.Test.YtncekccimhohgaaGreatDoorRows
import GoSem.ClaimSeven
namespace Go.Proofs.YtncekccimhohgaaGreatDoor
namespace Rows

/-- THE TIED CARD OF 'laws.FnScriptMail'. -/
def fnScriptMailCard : Claim7 := { stood := { row := fnScriptMailRow, standIns := [], harness := (true, "59c0036248630b2c378c0c96052902e65a46ddaa736c21969da4e55aa4d08e5e"), looks := false }, kinds := [], alts := [], laidByText := true, laidKinds := [.data, .widerDeep, .pinned], laidTests := true, laidLooks := .later }
def FnScriptMailCardSaid : Prop := Claim7.holds Tryz.pinned (.plain (OpenSpec.ofChange fnScriptMailSpec)) fnScriptMailCard

/-- THE TIED CARD OF 'laws.FnScriptDate'. -/
def fnScriptDateCard : Claim7 := { stood := { row := fnScriptDateRow, standIns := [], harness := (true, "59c0036248630b2c378c0c96052902e65a46ddaa736c21969da4e55aa4d08e5e"), looks := false }, kinds := [], alts := [], laidByText := true, laidKinds := [.data, .widerDeep, .pinned], laidTests := true, laidLooks := .later }
def FnScriptDateCardSaid : Prop := Claim7.holds Tryz.pinned (.plain (OpenSpec.ofChange fnScriptDateSpec)) fnScriptDateCard

/-- THE TIED CARD OF 'laws.FnScriptClear'. -/
def fnScriptClearCard : Claim7 := { stood := { row := fnScriptClearRow, standIns := [], harness := (true, "59c0036248630b2c378c0c96052902e65a46ddaa736c21969da4e55aa4d08e5e"), looks := false }, kinds := [], alts := [], laidByText := true, laidKinds := [.data, .widerDeep, .pinned], laidTests := true, laidLooks := .later }
def FnScriptClearCardSaid : Prop := Claim7.holds Tryz.pinned (.plain (OpenSpec.ofChange fnScriptClearSpec)) fnScriptClearCard

/-- THE TIED CARD OF 'laws.FnScriptTrace'. -/
def fnScriptTraceCard : Claim7 := { stood := { row := fnScriptTraceRow, standIns := [], harness := (true, "59c0036248630b2c378c0c96052902e65a46ddaa736c21969da4e55aa4d08e5e"), looks := false }, kinds := [], alts := [], laidByText := true, laidKinds := [.data, .widerDeep, .pinned], laidTests := true, laidLooks := .later }
def FnScriptTraceCardSaid : Prop := Claim7.holds Tryz.pinned (.plain (OpenSpec.ofChange fnScriptTraceSpec)) fnScriptTraceCard

/-- THE TIED CARD OF 'laws.FnScriptAddress'. -/
def fnScriptAddressCard : Claim7 := { stood := { row := fnScriptAddressRow, standIns := [], harness := (true, "59c0036248630b2c378c0c96052902e65a46ddaa736c21969da4e55aa4d08e5e"), looks := false }, kinds := [], alts := [], laidByText := true, laidKinds := [.data, .widerDeep, .pinned], laidTests := true, laidLooks := .later }
def FnScriptAddressCardSaid : Prop := Claim7.holds Tryz.pinned (.plain (OpenSpec.ofChange fnScriptAddressSpec)) fnScriptAddressCard

/-- THE TIED CARD OF 'laws.FnScriptName'. -/
def fnScriptNameCard : Claim7 := { stood := { row := fnScriptNameRow, standIns := [], harness := (true, "59c0036248630b2c378c0c96052902e65a46ddaa736c21969da4e55aa4d08e5e"), looks := false }, kinds := [], alts := [], laidByText := true, laidKinds := [.data, .widerDeep, .pinned], laidTests := true, laidLooks := .later }
def FnScriptNameCardSaid : Prop := Claim7.holds Tryz.pinned (.plain (OpenSpec.ofChange fnScriptNameSpec)) fnScriptNameCard

/-- THE SECOND FORM's CARD OF 'laws.FnScriptMail'. -/
def fnScriptMailUptoCard : Claim7 := { stood := { row := fnScriptMailUptoRow, standIns := [], harness := (true, "59c0036248630b2c378c0c96052902e65a46ddaa736c21969da4e55aa4d08e5e"), looks := false }, kinds := [], alts := [], laidByText := true, laidKinds := [.data, .widerDeep, .pinned], laidTests := true, laidLooks := .later }
def FnScriptMailUptoCardSaid : Prop := Claim7.holds Tryz.pinned (.plain (OpenSpec.upto fnScriptMailSpec)) fnScriptMailUptoCard

/-- THE SECOND FORM's CARD OF 'laws.FnScriptDate'. -/
def fnScriptDateUptoCard : Claim7 := { stood := { row := fnScriptDateUptoRow, standIns := [], harness := (true, "59c0036248630b2c378c0c96052902e65a46ddaa736c21969da4e55aa4d08e5e"), looks := false }, kinds := [], alts := [], laidByText := true, laidKinds := [.data, .widerDeep, .pinned], laidTests := true, laidLooks := .later }
def FnScriptDateUptoCardSaid : Prop := Claim7.holds Tryz.pinned (.plain (OpenSpec.upto fnScriptDateSpec)) fnScriptDateUptoCard

/-- THE SECOND FORM's CARD OF 'laws.FnScriptClear'. -/
def fnScriptClearUptoCard : Claim7 := { stood := { row := fnScriptClearUptoRow, standIns := [], harness := (true, "59c0036248630b2c378c0c96052902e65a46ddaa736c21969da4e55aa4d08e5e"), looks := false }, kinds := [], alts := [], laidByText := true, laidKinds := [.data, .widerDeep, .pinned], laidTests := true, laidLooks := .later }
def FnScriptClearUptoCardSaid : Prop := Claim7.holds Tryz.pinned (.plain (OpenSpec.upto fnScriptClearSpec)) fnScriptClearUptoCard

/-- THE SECOND FORM's CARD OF 'laws.FnScriptTrace'. -/
def fnScriptTraceUptoCard : Claim7 := { stood := { row := fnScriptTraceUptoRow, standIns := [], harness := (true, "59c0036248630b2c378c0c96052902e65a46ddaa736c21969da4e55aa4d08e5e"), looks := false }, kinds := [], alts := [], laidByText := true, laidKinds := [.data, .widerDeep, .pinned], laidTests := true, laidLooks := .later }
def FnScriptTraceUptoCardSaid : Prop := Claim7.holds Tryz.pinned (.plain (OpenSpec.upto fnScriptTraceSpec)) fnScriptTraceUptoCard

/-- THE SECOND FORM's CARD OF 'laws.FnScriptAddress'. -/
def fnScriptAddressUptoCard : Claim7 := { stood := { row := fnScriptAddressUptoRow, standIns := [], harness := (true, "59c0036248630b2c378c0c96052902e65a46ddaa736c21969da4e55aa4d08e5e"), looks := false }, kinds := [], alts := [], laidByText := true, laidKinds := [.data, .widerDeep, .pinned], laidTests := true, laidLooks := .later }
def FnScriptAddressUptoCardSaid : Prop := Claim7.holds Tryz.pinned (.plain (OpenSpec.upto fnScriptAddressSpec)) fnScriptAddressUptoCard

/-- THE SECOND FORM's CARD OF 'laws.FnScriptName'. -/
def fnScriptNameUptoCard : Claim7 := { stood := { row := fnScriptNameUptoRow, standIns := [], harness := (true, "59c0036248630b2c378c0c96052902e65a46ddaa736c21969da4e55aa4d08e5e"), looks := false }, kinds := [], alts := [], laidByText := true, laidKinds := [.data, .widerDeep, .pinned], laidTests := true, laidLooks := .later }
def FnScriptNameUptoCardSaid : Prop := Claim7.holds Tryz.pinned (.plain (OpenSpec.upto fnScriptNameSpec)) fnScriptNameUptoCard
end Rows
end Go.Proofs.YtncekccimhohgaaGreatDoor
