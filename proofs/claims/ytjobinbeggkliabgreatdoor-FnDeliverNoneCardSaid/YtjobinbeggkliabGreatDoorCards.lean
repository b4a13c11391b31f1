/-
  DERIVED. GIVEN WITH THE SEED: THE CARDS: each row of YtjobinbeggkliabGreatDoorRows.lean that lists a variable, with what it lists TIED to the program's text (the seventh form; the later family's looks); each row that meets fmt, with fmt's text TOLD by the authors' own Lean function (tested against real Go, not proved from fmt's source: count such statements apart). THE CARD IS WHAT COUNTS. Prove the row's statement (the work); the ties are given (YtjobinbeggkliabGreatDoorTie.lean); close each card by the builder's one call (the guide's Derived/Test/ToyasCard.lean, 'card_holds'). Laid BY PROGRAM, IN A SANDBOX (cutbox-door.mjs). By AI agents, Wed Nov 11 2026. No macro, syntax, notation, axiom, sorry.
-/
import Derived.Test.YtjobinbeggkliabGreatDoorRows
import GoSem.ClaimSeven
namespace Go.Proofs.YtjobinbeggkliabGreatDoor
namespace Rows

/-- THE TIED CARD OF 'laws.FnDeliverNone'. -/
def fnDeliverNoneCard : Claim7 := { stood := { row := fnDeliverNoneRow, standIns := [], harness := (true, "cddc66f9ab434f0c13e3448c5475f2e83f4eaad55633e80f9051f584b3e3d93e"), looks := false }, kinds := [], alts := [], laidByText := true, laidKinds := [.data, .pinned], laidTests := true, laidLooks := .later }
def FnDeliverNoneCardSaid : Prop := Claim7.holds Tryz.pinned (.plain (OpenSpec.ofChange fnDeliverNoneSpec)) fnDeliverNoneCard

/-- THE TIED CARD OF 'laws.FnAddOrder'. -/
def fnAddOrderCard : Claim7 := { stood := { row := fnAddOrderRow, standIns := [], harness := (true, "cddc66f9ab434f0c13e3448c5475f2e83f4eaad55633e80f9051f584b3e3d93e"), looks := false }, kinds := [], alts := [], laidByText := true, laidKinds := [.data, .pinned], laidTests := true, laidLooks := .later }
def FnAddOrderCardSaid : Prop := Claim7.holds Tryz.pinned (.plain (OpenSpec.ofChange fnAddOrderSpec)) fnAddOrderCard

/-- THE SECOND FORM's CARD OF 'laws.FnDeliverNone'. -/
def fnDeliverNoneUptoCard : Claim7 := { stood := { row := fnDeliverNoneUptoRow, standIns := [], harness := (true, "cddc66f9ab434f0c13e3448c5475f2e83f4eaad55633e80f9051f584b3e3d93e"), looks := false }, kinds := [], alts := [], laidByText := true, laidKinds := [.data, .pinned], laidTests := true, laidLooks := .later }
def FnDeliverNoneUptoCardSaid : Prop := Claim7.holds Tryz.pinned (.plain (OpenSpec.upto fnDeliverNoneSpec)) fnDeliverNoneUptoCard

/-- THE SECOND FORM's CARD OF 'laws.FnAddOrder'. -/
def fnAddOrderUptoCard : Claim7 := { stood := { row := fnAddOrderUptoRow, standIns := [], harness := (true, "cddc66f9ab434f0c13e3448c5475f2e83f4eaad55633e80f9051f584b3e3d93e"), looks := false }, kinds := [], alts := [], laidByText := true, laidKinds := [.data, .pinned], laidTests := true, laidLooks := .later }
def FnAddOrderUptoCardSaid : Prop := Claim7.holds Tryz.pinned (.plain (OpenSpec.upto fnAddOrderSpec)) fnAddOrderUptoCard
end Rows
end Go.Proofs.YtjobinbeggkliabGreatDoor
