/-
  DERIVED. GIVEN WITH THE SEED: THE CARDS: each row of YtpbgpeojlfdpoaaGreatDoorRows.lean that lists a variable, with what it lists TIED to the program's text (the seventh form; the later family's looks); each row that meets fmt, with fmt's text TOLD by the authors' own Lean function (tested against real Go, not proved from fmt's source: count such statements apart). THE CARD IS WHAT COUNTS. Prove the row's statement (the work); the ties are given (YtpbgpeojlfdpoaaGreatDoorTie.lean); close each card by the builder's one call (the guide's Derived/Test/ToyasCard.lean, 'card_holds'). Laid BY PROGRAM, IN A SANDBOX (cutbox-door.mjs). By AI agents, Wed Nov 11 2026. No macro, syntax, notation, axiom, sorry.
-/
import Derived.Test.YtpbgpeojlfdpoaaGreatDoorRows
import GoSem.ClaimSeven
namespace Go.Proofs.YtpbgpeojlfdpoaaGreatDoor
namespace Rows

/-- THE TIED CARD OF 'laws.FnExactTraceMail'. -/
def fnExactTraceMailCard : Claim7 := { stood := { row := fnExactTraceMailRow, standIns := [], harness := (true, "f14b7e9a560aa80472b80236e3148d13534426e8c3bb16ea8ba9077e7dcb89dc"), looks := false }, kinds := [], alts := [], laidByText := true, laidKinds := [.data, .widerDeep, .pinned], laidTests := true, laidLooks := .later }
def FnExactTraceMailCardSaid : Prop := Claim7.holds Tryz.pinned (.plain (OpenSpec.ofChange fnExactTraceMailSpec)) fnExactTraceMailCard

/-- THE TIED CARD OF 'laws.FnScriptName'. -/
def fnScriptNameCard : Claim7 := { stood := { row := fnScriptNameRow, standIns := [], harness := (true, "f14b7e9a560aa80472b80236e3148d13534426e8c3bb16ea8ba9077e7dcb89dc"), looks := false }, kinds := [], alts := [], laidByText := true, laidKinds := [.data, .widerDeep, .pinned], laidTests := true, laidLooks := .later }
def FnScriptNameCardSaid : Prop := Claim7.holds Tryz.pinned (.plain (OpenSpec.ofChange fnScriptNameSpec)) fnScriptNameCard

/-- THE TIED CARD OF 'laws.FnScriptList'. -/
def fnScriptListCard : Claim7 := { stood := { row := fnScriptListRow, standIns := [], harness := (true, "f14b7e9a560aa80472b80236e3148d13534426e8c3bb16ea8ba9077e7dcb89dc"), looks := false }, kinds := [], alts := [], laidByText := true, laidKinds := [.data, .widerDeep, .pinned], laidTests := true, laidLooks := .later }
def FnScriptListCardSaid : Prop := Claim7.holds Tryz.pinned (.plain (OpenSpec.ofChange fnScriptListSpec)) fnScriptListCard

/-- THE TIED CARD OF 'laws.FnScriptAddress'. -/
def fnScriptAddressCard : Claim7 := { stood := { row := fnScriptAddressRow, standIns := [], harness := (true, "f14b7e9a560aa80472b80236e3148d13534426e8c3bb16ea8ba9077e7dcb89dc"), looks := false }, kinds := [], alts := [], laidByText := true, laidKinds := [.data, .widerDeep, .pinned], laidTests := true, laidLooks := .later }
def FnScriptAddressCardSaid : Prop := Claim7.holds Tryz.pinned (.plain (OpenSpec.ofChange fnScriptAddressSpec)) fnScriptAddressCard

/-- THE TIED CARD OF 'laws.FnScriptKind'. -/
def fnScriptKindCard : Claim7 := { stood := { row := fnScriptKindRow, standIns := [], harness := (true, "f14b7e9a560aa80472b80236e3148d13534426e8c3bb16ea8ba9077e7dcb89dc"), looks := false }, kinds := [], alts := [], laidByText := true, laidKinds := [.data, .widerDeep, .pinned], laidTests := true, laidLooks := .later }
def FnScriptKindCardSaid : Prop := Claim7.holds Tryz.pinned (.plain (OpenSpec.ofChange fnScriptKindSpec)) fnScriptKindCard

/-- THE SECOND FORM's CARD OF 'laws.FnExactTraceMail'. -/
def fnExactTraceMailUptoCard : Claim7 := { stood := { row := fnExactTraceMailUptoRow, standIns := [], harness := (true, "f14b7e9a560aa80472b80236e3148d13534426e8c3bb16ea8ba9077e7dcb89dc"), looks := false }, kinds := [], alts := [], laidByText := true, laidKinds := [.data, .widerDeep, .pinned], laidTests := true, laidLooks := .later }
def FnExactTraceMailUptoCardSaid : Prop := Claim7.holds Tryz.pinned (.plain (OpenSpec.upto fnExactTraceMailSpec)) fnExactTraceMailUptoCard

/-- THE SECOND FORM's CARD OF 'laws.FnScriptName'. -/
def fnScriptNameUptoCard : Claim7 := { stood := { row := fnScriptNameUptoRow, standIns := [], harness := (true, "f14b7e9a560aa80472b80236e3148d13534426e8c3bb16ea8ba9077e7dcb89dc"), looks := false }, kinds := [], alts := [], laidByText := true, laidKinds := [.data, .widerDeep, .pinned], laidTests := true, laidLooks := .later }
def FnScriptNameUptoCardSaid : Prop := Claim7.holds Tryz.pinned (.plain (OpenSpec.upto fnScriptNameSpec)) fnScriptNameUptoCard

/-- THE SECOND FORM's CARD OF 'laws.FnScriptList'. -/
def fnScriptListUptoCard : Claim7 := { stood := { row := fnScriptListUptoRow, standIns := [], harness := (true, "f14b7e9a560aa80472b80236e3148d13534426e8c3bb16ea8ba9077e7dcb89dc"), looks := false }, kinds := [], alts := [], laidByText := true, laidKinds := [.data, .widerDeep, .pinned], laidTests := true, laidLooks := .later }
def FnScriptListUptoCardSaid : Prop := Claim7.holds Tryz.pinned (.plain (OpenSpec.upto fnScriptListSpec)) fnScriptListUptoCard

/-- THE SECOND FORM's CARD OF 'laws.FnScriptAddress'. -/
def fnScriptAddressUptoCard : Claim7 := { stood := { row := fnScriptAddressUptoRow, standIns := [], harness := (true, "f14b7e9a560aa80472b80236e3148d13534426e8c3bb16ea8ba9077e7dcb89dc"), looks := false }, kinds := [], alts := [], laidByText := true, laidKinds := [.data, .widerDeep, .pinned], laidTests := true, laidLooks := .later }
def FnScriptAddressUptoCardSaid : Prop := Claim7.holds Tryz.pinned (.plain (OpenSpec.upto fnScriptAddressSpec)) fnScriptAddressUptoCard

/-- THE SECOND FORM's CARD OF 'laws.FnScriptKind'. -/
def fnScriptKindUptoCard : Claim7 := { stood := { row := fnScriptKindUptoRow, standIns := [], harness := (true, "f14b7e9a560aa80472b80236e3148d13534426e8c3bb16ea8ba9077e7dcb89dc"), looks := false }, kinds := [], alts := [], laidByText := true, laidKinds := [.data, .widerDeep, .pinned], laidTests := true, laidLooks := .later }
def FnScriptKindUptoCardSaid : Prop := Claim7.holds Tryz.pinned (.plain (OpenSpec.upto fnScriptKindSpec)) fnScriptKindUptoCard
end Rows
end Go.Proofs.YtpbgpeojlfdpoaaGreatDoor
