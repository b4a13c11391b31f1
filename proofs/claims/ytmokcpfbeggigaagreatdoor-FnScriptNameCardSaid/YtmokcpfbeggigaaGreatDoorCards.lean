/-
  DERIVED. GIVEN WITH THE SEED: THE CARDS: each row of YtmokcpfbeggigaaGreatDoorRows.lean that lists a variable, with what it lists TIED to the program's text (the seventh form; the later family's looks); each row that meets fmt, with fmt's text TOLD by the authors' own Lean function (tested against real Go, not proved from fmt's source: count such statements apart). THE CARD IS WHAT COUNTS. Prove the row's statement (the work); the ties are given (YtmokcpfbeggigaaGreatDoorTie.lean); close each card by the builder's one call (the guide's Derived/Test/ToyasCard.lean, 'card_holds'). Laid BY PROGRAM, IN A SANDBOX (cutbox-door.mjs). By AI agents, Wed Nov 11 2026. No macro, syntax, notation, axiom, sorry.
-/
import Derived.Test.YtmokcpfbeggigaaGreatDoorRows
import GoSem.ClaimSeven
namespace Go.Proofs.YtmokcpfbeggigaaGreatDoor
namespace Rows

/-- THE TIED CARD OF 'laws.FnScriptName'. -/
def fnScriptNameCard : Claim7 := { stood := { row := fnScriptNameRow, standIns := [], harness := (true, "b5e30f906013e7eef882929d6e05e2c033c289c154ed7a2e18e39aa1b236c3ba"), looks := false }, kinds := [], alts := [], laidByText := true, laidKinds := [.data, .widerDeep, .pinned], laidTests := true, laidLooks := .later }
def FnScriptNameCardSaid : Prop := Claim7.holds Tryz.pinned (.plain (OpenSpec.ofChange fnScriptNameSpec)) fnScriptNameCard

/-- THE TIED CARD OF 'laws.FnScriptList'. -/
def fnScriptListCard : Claim7 := { stood := { row := fnScriptListRow, standIns := [], harness := (true, "b5e30f906013e7eef882929d6e05e2c033c289c154ed7a2e18e39aa1b236c3ba"), looks := false }, kinds := [], alts := [], laidByText := true, laidKinds := [.data, .widerDeep, .pinned], laidTests := true, laidLooks := .later }
def FnScriptListCardSaid : Prop := Claim7.holds Tryz.pinned (.plain (OpenSpec.ofChange fnScriptListSpec)) fnScriptListCard

/-- THE TIED CARD OF 'laws.FnScriptKind'. -/
def fnScriptKindCard : Claim7 := { stood := { row := fnScriptKindRow, standIns := [], harness := (true, "b5e30f906013e7eef882929d6e05e2c033c289c154ed7a2e18e39aa1b236c3ba"), looks := false }, kinds := [], alts := [], laidByText := true, laidKinds := [.data, .widerDeep, .pinned], laidTests := true, laidLooks := .later }
def FnScriptKindCardSaid : Prop := Claim7.holds Tryz.pinned (.plain (OpenSpec.ofChange fnScriptKindSpec)) fnScriptKindCard

/-- THE SECOND FORM's CARD OF 'laws.FnScriptName'. -/
def fnScriptNameUptoCard : Claim7 := { stood := { row := fnScriptNameUptoRow, standIns := [], harness := (true, "b5e30f906013e7eef882929d6e05e2c033c289c154ed7a2e18e39aa1b236c3ba"), looks := false }, kinds := [], alts := [], laidByText := true, laidKinds := [.data, .widerDeep, .pinned], laidTests := true, laidLooks := .later }
def FnScriptNameUptoCardSaid : Prop := Claim7.holds Tryz.pinned (.plain (OpenSpec.upto fnScriptNameSpec)) fnScriptNameUptoCard

/-- THE SECOND FORM's CARD OF 'laws.FnScriptList'. -/
def fnScriptListUptoCard : Claim7 := { stood := { row := fnScriptListUptoRow, standIns := [], harness := (true, "b5e30f906013e7eef882929d6e05e2c033c289c154ed7a2e18e39aa1b236c3ba"), looks := false }, kinds := [], alts := [], laidByText := true, laidKinds := [.data, .widerDeep, .pinned], laidTests := true, laidLooks := .later }
def FnScriptListUptoCardSaid : Prop := Claim7.holds Tryz.pinned (.plain (OpenSpec.upto fnScriptListSpec)) fnScriptListUptoCard

/-- THE SECOND FORM's CARD OF 'laws.FnScriptKind'. -/
def fnScriptKindUptoCard : Claim7 := { stood := { row := fnScriptKindUptoRow, standIns := [], harness := (true, "b5e30f906013e7eef882929d6e05e2c033c289c154ed7a2e18e39aa1b236c3ba"), looks := false }, kinds := [], alts := [], laidByText := true, laidKinds := [.data, .widerDeep, .pinned], laidTests := true, laidLooks := .later }
def FnScriptKindUptoCardSaid : Prop := Claim7.holds Tryz.pinned (.plain (OpenSpec.upto fnScriptKindSpec)) fnScriptKindUptoCard
end Rows
end Go.Proofs.YtmokcpfbeggigaaGreatDoor
