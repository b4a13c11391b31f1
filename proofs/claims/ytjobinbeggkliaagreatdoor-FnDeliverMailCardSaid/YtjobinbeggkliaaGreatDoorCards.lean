/-
  DERIVED. GIVEN WITH THE SEED: THE CARDS: each row of YtjobinbeggkliaaGreatDoorRows.lean that lists a variable, with what it lists TIED to the program's text (the seventh form; the later family's looks); each row that meets fmt, with fmt's text TOLD by the authors' own Lean function (tested against real Go, not proved from fmt's source: count such statements apart). THE CARD IS WHAT COUNTS. Prove the row's statement (the work); the ties are given (YtjobinbeggkliaaGreatDoorTie.lean); close each card by the builder's one call (the guide's Derived/Test/ToyasCard.lean, 'card_holds'). Laid BY PROGRAM, IN A SANDBOX (cutbox-door.mjs). By AI agents, Wed Nov 11 2026. No macro, syntax, notation, axiom, sorry.
-/
import Derived.Test.YtjobinbeggkliaaGreatDoorRows
import GoSem.ClaimSeven
namespace Go.Proofs.YtjobinbeggkliaaGreatDoor
namespace Rows

/-- THE TIED CARD OF 'laws.FnDeliverMail'. -/
def fnDeliverMailCard : Claim7 := { stood := { row := fnDeliverMailRow, standIns := [], harness := (true, "523f9bc44bc59b0cd64ab547ddac7babfaf83943a19090cb0d23e0a1dbd9f5ce"), looks := false }, kinds := [], alts := [], laidByText := true, laidKinds := [.data, .pinned], laidTests := true, laidLooks := .later }
def FnDeliverMailCardSaid : Prop := Claim7.holds Tryz.pinned (.plain (OpenSpec.ofChange fnDeliverMailSpec)) fnDeliverMailCard

/-- THE SECOND FORM's CARD OF 'laws.FnDeliverMail'. -/
def fnDeliverMailUptoCard : Claim7 := { stood := { row := fnDeliverMailUptoRow, standIns := [], harness := (true, "523f9bc44bc59b0cd64ab547ddac7babfaf83943a19090cb0d23e0a1dbd9f5ce"), looks := false }, kinds := [], alts := [], laidByText := true, laidKinds := [.data, .pinned], laidTests := true, laidLooks := .later }
def FnDeliverMailUptoCardSaid : Prop := Claim7.holds Tryz.pinned (.plain (OpenSpec.upto fnDeliverMailSpec)) fnDeliverMailUptoCard
end Rows
end Go.Proofs.YtjobinbeggkliaaGreatDoor
