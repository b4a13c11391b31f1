/-
  DERIVED. GIVEN WITH THE SEED: THE CARDS: each row of YtikpckcdpmjpgaaDoorRows.lean that lists a variable, with what it lists TIED to the program's text (the seventh form; the later family's looks); each row that meets fmt, with fmt's text TOLD by the authors' own Lean function (tested against real Go, not proved from fmt's source: count such statements apart). THE CARD IS WHAT COUNTS. Prove the row's statement (the work); the ties are given (YtikpckcdpmjpgaaDoorTie.lean); close each card by the builder's one call (the guide's Derived/Test/ToyasCard.lean, 'card_holds'). Laid BY PROGRAM, IN A SANDBOX (cutbox-door.mjs). By AI agents, Wed Nov 11 2026. No macro, syntax, notation, axiom, sorry.
-/
import Derived.Test.YtikpckcdpmjpgaaDoorRows
import GoSem.ClaimSeven
namespace Go.Proofs.YtikpckcdpmjpgaaDoor
namespace Rows

/-- THE TIED CARD OF 'laws.FnCountHeld'. -/
def fnCountHeldCard : Claim7 := { stood := { row := fnCountHeldRow, standIns := [], harness := (true, "321cee052c5a28e52224e0e7be79c1bfb3b4e156c1e314eb3a503a23ae8cde16"), looks := false }, kinds := [], alts := [], laidByText := true, laidKinds := [.data, .pinned], laidTests := true, laidLooks := .later }
def FnCountHeldCardSaid : Prop := Claim7.holds Tryd.pinned (.plain (OpenSpec.ofChange fnCountHeldSpec)) fnCountHeldCard

/-- THE SECOND FORM's CARD OF 'laws.FnCountHeld'. -/
def fnCountHeldUptoCard : Claim7 := { stood := { row := fnCountHeldUptoRow, standIns := [], harness := (true, "321cee052c5a28e52224e0e7be79c1bfb3b4e156c1e314eb3a503a23ae8cde16"), looks := false }, kinds := [], alts := [], laidByText := true, laidKinds := [.data, .pinned], laidTests := true, laidLooks := .later }
def FnCountHeldUptoCardSaid : Prop := Claim7.holds Tryd.pinned (.plain (OpenSpec.upto fnCountHeldSpec)) fnCountHeldUptoCard
end Rows
end Go.Proofs.YtikpckcdpmjpgaaDoor
