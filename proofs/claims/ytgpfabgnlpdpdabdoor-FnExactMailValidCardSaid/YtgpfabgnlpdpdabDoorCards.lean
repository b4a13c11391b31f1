/-
  DERIVED. GIVEN WITH THE SEED: THE CARDS: each row of YtgpfabgnlpdpdabDoorRows.lean that lists a variable, with what it lists TIED to the program's text (the seventh form; the later family's looks); each row that meets fmt, with fmt's text TOLD by the authors' own Lean function (tested against real Go, not proved from fmt's source: count such statements apart). THE CARD IS WHAT COUNTS. Prove the row's statement (the work); the ties are given (YtgpfabgnlpdpdabDoorTie.lean); close each card by the builder's one call (the guide's Derived/Test/ToyasCard.lean, 'card_holds'). Laid BY PROGRAM, IN A SANDBOX (cutbox-door.mjs). By AI agents, Wed Nov 11 2026. No macro, syntax, notation, axiom, sorry.
-/
import Derived.Test.YtgpfabgnlpdpdabDoorRows
import GoSem.ClaimSeven
namespace Go.Proofs.YtgpfabgnlpdpdabDoor
namespace Rows

/-- THE TIED CARD OF 'laws.FnExactMailValid'. -/
def fnExactMailValidCard : Claim7 := { stood := { row := fnExactMailValidRow, standIns := [], harness := (true, "2d731d773c75e656ad0075a4a991cfc5127c3d1f9e16a962865dacc6b305964d"), looks := false }, kinds := [], alts := [], laidByText := true, laidKinds := [.data, .pinned], laidTests := true, laidLooks := .later }
def FnExactMailValidCardSaid : Prop := Claim7.holds Tryd.pinned (.plain (OpenSpec.ofChange fnExactMailValidSpec)) fnExactMailValidCard

/-- THE SECOND FORM's CARD OF 'laws.FnExactMailValid'. -/
def fnExactMailValidUptoCard : Claim7 := { stood := { row := fnExactMailValidUptoRow, standIns := [], harness := (true, "2d731d773c75e656ad0075a4a991cfc5127c3d1f9e16a962865dacc6b305964d"), looks := false }, kinds := [], alts := [], laidByText := true, laidKinds := [.data, .pinned], laidTests := true, laidLooks := .later }
def FnExactMailValidUptoCardSaid : Prop := Claim7.holds Tryd.pinned (.plain (OpenSpec.upto fnExactMailValidSpec)) fnExactMailValidUptoCard
end Rows
end Go.Proofs.YtgpfabgnlpdpdabDoor
