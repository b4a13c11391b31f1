/-
  DERIVED. GIVEN WITH THE SEED: THE CARDS: each row of YtgpfabgnlpdpdaaDoorRows.lean that lists a variable, with what it lists TIED to the program's text (the seventh form; the later family's looks); each row that meets fmt, with fmt's text TOLD by the authors' own Lean function (tested against real Go, not proved from fmt's source: count such statements apart). THE CARD IS WHAT COUNTS. Prove the row's statement (the work); the ties are given (YtgpfabgnlpdpdaaDoorTie.lean); close each card by the builder's one call (the guide's Derived/Test/ToyasCard.lean, 'card_holds'). Laid BY PROGRAM, IN A SANDBOX (cutbox-door.mjs). By AI agents, Wed Nov 11 2026. No macro, syntax, notation, axiom, sorry.
-/
import Derived.Test.YtgpfabgnlpdpdaaDoorRows
import GoSem.ClaimSeven
namespace Go.Proofs.YtgpfabgnlpdpdaaDoor
namespace Rows

/-- THE TIED CARD OF 'laws.FnMailSame'. -/
def fnMailSameCard : Claim7 := { stood := { row := fnMailSameRow, standIns := [], harness := (true, "7ca84af741fe2e449ea0a763b9ceb7706052295b55bc06cc582791a431c8bff3"), looks := false }, kinds := [], alts := [], laidByText := true, laidKinds := [.data, .pinned], laidTests := true, laidLooks := .later }
def FnMailSameCardSaid : Prop := Claim7.holds Tryd.pinned (.plain (OpenSpec.ofChange fnMailSameSpec)) fnMailSameCard

/-- THE TIED CARD OF 'laws.FnMailPart'. -/
def fnMailPartCard : Claim7 := { stood := { row := fnMailPartRow, standIns := [], harness := (true, "7ca84af741fe2e449ea0a763b9ceb7706052295b55bc06cc582791a431c8bff3"), looks := false }, kinds := [], alts := [], laidByText := true, laidKinds := [.data, .pinned], laidTests := true, laidLooks := .later }
def FnMailPartCardSaid : Prop := Claim7.holds Tryd.pinned (.plain (OpenSpec.ofChange fnMailPartSpec)) fnMailPartCard

/-- THE SECOND FORM's CARD OF 'laws.FnMailSame'. -/
def fnMailSameUptoCard : Claim7 := { stood := { row := fnMailSameUptoRow, standIns := [], harness := (true, "7ca84af741fe2e449ea0a763b9ceb7706052295b55bc06cc582791a431c8bff3"), looks := false }, kinds := [], alts := [], laidByText := true, laidKinds := [.data, .pinned], laidTests := true, laidLooks := .later }
def FnMailSameUptoCardSaid : Prop := Claim7.holds Tryd.pinned (.plain (OpenSpec.upto fnMailSameSpec)) fnMailSameUptoCard

/-- THE SECOND FORM's CARD OF 'laws.FnMailPart'. -/
def fnMailPartUptoCard : Claim7 := { stood := { row := fnMailPartUptoRow, standIns := [], harness := (true, "7ca84af741fe2e449ea0a763b9ceb7706052295b55bc06cc582791a431c8bff3"), looks := false }, kinds := [], alts := [], laidByText := true, laidKinds := [.data, .pinned], laidTests := true, laidLooks := .later }
def FnMailPartUptoCardSaid : Prop := Claim7.holds Tryd.pinned (.plain (OpenSpec.upto fnMailPartSpec)) fnMailPartUptoCard
end Rows
end Go.Proofs.YtgpfabgnlpdpdaaDoor
