/-
  DERIVED. GIVEN WITH THE SEED: THE CARDS: each row of YtaapfgpeeghmeaaGreatDoorRows.lean that lists a variable, with what it lists TIED to the program's text (the seventh form; the later family's looks); each row that meets fmt, with fmt's text TOLD by the authors' own Lean function (tested against real Go, not proved from fmt's source: count such statements apart). THE CARD IS WHAT COUNTS. Prove the row's statement (the work); the ties are given (YtaapfgpeeghmeaaGreatDoorTie.lean); close each card by the builder's one call (the guide's Derived/Test/ToyasCard.lean, 'card_holds'). Laid BY PROGRAM, IN A SANDBOX (cutbox-door.mjs). By AI agents, Wed Nov 11 2026. No macro, syntax, notation, axiom, sorry.
-/
import Derived.Test.YtaapfgpeeghmeaaGreatDoorRows
import GoSem.ClaimSeven
namespace Go.Proofs.YtaapfgpeeghmeaaGreatDoor
namespace Rows

/-- THE TIED CARD OF 'laws.FnScriptTrace'. -/
def fnScriptTraceCard : Claim7 := { stood := { row := fnScriptTraceRow, standIns := [], harness := (true, "93e13d566d61a95c02e7d4931327b17057c5150eedc3dc18c76f9df6234fc300"), looks := false }, kinds := [], alts := [], laidByText := true, laidKinds := [.data, .widerDeep, .pinned], laidTests := true, laidLooks := .later }
def FnScriptTraceCardSaid : Prop := Claim7.holds Tryz.pinned (.plain (OpenSpec.ofChange fnScriptTraceSpec)) fnScriptTraceCard

/-- THE TIED CARD OF 'laws.FnScriptMail'. -/
def fnScriptMailCard : Claim7 := { stood := { row := fnScriptMailRow, standIns := [], harness := (true, "93e13d566d61a95c02e7d4931327b17057c5150eedc3dc18c76f9df6234fc300"), looks := false }, kinds := [], alts := [], laidByText := true, laidKinds := [.data, .widerDeep, .pinned], laidTests := true, laidLooks := .later }
def FnScriptMailCardSaid : Prop := Claim7.holds Tryz.pinned (.plain (OpenSpec.ofChange fnScriptMailSpec)) fnScriptMailCard

/-- THE SECOND FORM's CARD OF 'laws.FnScriptTrace'. -/
def fnScriptTraceUptoCard : Claim7 := { stood := { row := fnScriptTraceUptoRow, standIns := [], harness := (true, "93e13d566d61a95c02e7d4931327b17057c5150eedc3dc18c76f9df6234fc300"), looks := false }, kinds := [], alts := [], laidByText := true, laidKinds := [.data, .widerDeep, .pinned], laidTests := true, laidLooks := .later }
def FnScriptTraceUptoCardSaid : Prop := Claim7.holds Tryz.pinned (.plain (OpenSpec.upto fnScriptTraceSpec)) fnScriptTraceUptoCard

/-- THE SECOND FORM's CARD OF 'laws.FnScriptMail'. -/
def fnScriptMailUptoCard : Claim7 := { stood := { row := fnScriptMailUptoRow, standIns := [], harness := (true, "93e13d566d61a95c02e7d4931327b17057c5150eedc3dc18c76f9df6234fc300"), looks := false }, kinds := [], alts := [], laidByText := true, laidKinds := [.data, .widerDeep, .pinned], laidTests := true, laidLooks := .later }
def FnScriptMailUptoCardSaid : Prop := Claim7.holds Tryz.pinned (.plain (OpenSpec.upto fnScriptMailSpec)) fnScriptMailUptoCard
end Rows
end Go.Proofs.YtaapfgpeeghmeaaGreatDoor
