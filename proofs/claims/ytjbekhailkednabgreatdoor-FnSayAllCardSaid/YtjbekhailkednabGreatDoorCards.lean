/-
  DERIVED. GIVEN WITH THE SEED: THE CARDS: each row of YtjbekhailkednabGreatDoorRows.lean that lists a variable, with what it lists TIED to the program's text (the seventh form; the later family's looks); each row that meets fmt, with fmt's text TOLD by the authors' own Lean function (tested against real Go, not proved from fmt's source: count such statements apart). THE CARD IS WHAT COUNTS. Prove the row's statement (the work); the ties are given (YtjbekhailkednabGreatDoorTie.lean); close each card by the builder's one call (the guide's Derived/Test/ToyasCard.lean, 'card_holds'). Laid BY PROGRAM, IN A SANDBOX (cutbox-door.mjs). By AI agents, Wed Nov 11 2026. No macro, syntax, notation, axiom, sorry.
-/
import Derived.Test.YtjbekhailkednabGreatDoorRows
import GoSem.ClaimSeven
namespace Go.Proofs.YtjbekhailkednabGreatDoor
namespace Rows

/-- THE TIED CARD OF 'laws.FnSayLine'. -/
def fnSayLineCard : Claim7 := { stood := { row := fnSayLineRow, standIns := [], harness := (true, "77389aa80153075e9e4b4fe9aa7bcd4d0467476e1f609de908151d53f56adddf"), looks := false }, kinds := [], alts := [], laidByText := true, laidKinds := [.data, .pinned], laidTests := true, laidLooks := .later }
def FnSayLineCardSaid : Prop := Claim7.holds Tryz.pinned (.plain (OpenSpec.ofChange fnSayLineSpec)) fnSayLineCard

/-- THE TIED CARD OF 'laws.FnSayAll'. -/
def fnSayAllCard : Claim7 := { stood := { row := fnSayAllRow, standIns := [], harness := (true, "77389aa80153075e9e4b4fe9aa7bcd4d0467476e1f609de908151d53f56adddf"), looks := false }, kinds := [], alts := [], laidByText := true, laidKinds := [.data, .pinned], laidTests := true, laidLooks := .later }
def FnSayAllCardSaid : Prop := Claim7.holds Tryz.pinned (.plain (OpenSpec.ofChange fnSayAllSpec)) fnSayAllCard

/-- THE TIED CARD OF 'laws.FnClosed'. -/
def fnClosedCard : Claim7 := { stood := { row := fnClosedRow, standIns := [], harness := (true, "77389aa80153075e9e4b4fe9aa7bcd4d0467476e1f609de908151d53f56adddf"), looks := false }, kinds := [], alts := [], laidByText := true, laidKinds := [.data, .pinned], laidTests := true, laidLooks := .later }
def FnClosedCardSaid : Prop := Claim7.holds Tryz.pinned (.plain (OpenSpec.ofChange fnClosedSpec)) fnClosedCard

/-- THE TIED CARD OF 'laws.FnSayFew'. -/
def fnSayFewCard : Claim7 := { stood := { row := fnSayFewRow, standIns := [], harness := (true, "77389aa80153075e9e4b4fe9aa7bcd4d0467476e1f609de908151d53f56adddf"), looks := false }, kinds := [], alts := [], laidByText := true, laidKinds := [.data, .pinned], laidTests := true, laidLooks := .later }
def FnSayFewCardSaid : Prop := Claim7.holds Tryz.pinned (.plain (OpenSpec.ofChange fnSayFewSpec)) fnSayFewCard

/-- THE SECOND FORM's CARD OF 'laws.FnSayLine'. -/
def fnSayLineUptoCard : Claim7 := { stood := { row := fnSayLineUptoRow, standIns := [], harness := (true, "77389aa80153075e9e4b4fe9aa7bcd4d0467476e1f609de908151d53f56adddf"), looks := false }, kinds := [], alts := [], laidByText := true, laidKinds := [.data, .pinned], laidTests := true, laidLooks := .later }
def FnSayLineUptoCardSaid : Prop := Claim7.holds Tryz.pinned (.plain (OpenSpec.upto fnSayLineSpec)) fnSayLineUptoCard

/-- THE SECOND FORM's CARD OF 'laws.FnSayAll'. -/
def fnSayAllUptoCard : Claim7 := { stood := { row := fnSayAllUptoRow, standIns := [], harness := (true, "77389aa80153075e9e4b4fe9aa7bcd4d0467476e1f609de908151d53f56adddf"), looks := false }, kinds := [], alts := [], laidByText := true, laidKinds := [.data, .pinned], laidTests := true, laidLooks := .later }
def FnSayAllUptoCardSaid : Prop := Claim7.holds Tryz.pinned (.plain (OpenSpec.upto fnSayAllSpec)) fnSayAllUptoCard

/-- THE SECOND FORM's CARD OF 'laws.FnClosed'. -/
def fnClosedUptoCard : Claim7 := { stood := { row := fnClosedUptoRow, standIns := [], harness := (true, "77389aa80153075e9e4b4fe9aa7bcd4d0467476e1f609de908151d53f56adddf"), looks := false }, kinds := [], alts := [], laidByText := true, laidKinds := [.data, .pinned], laidTests := true, laidLooks := .later }
def FnClosedUptoCardSaid : Prop := Claim7.holds Tryz.pinned (.plain (OpenSpec.upto fnClosedSpec)) fnClosedUptoCard

/-- THE SECOND FORM's CARD OF 'laws.FnSayFew'. -/
def fnSayFewUptoCard : Claim7 := { stood := { row := fnSayFewUptoRow, standIns := [], harness := (true, "77389aa80153075e9e4b4fe9aa7bcd4d0467476e1f609de908151d53f56adddf"), looks := false }, kinds := [], alts := [], laidByText := true, laidKinds := [.data, .pinned], laidTests := true, laidLooks := .later }
def FnSayFewUptoCardSaid : Prop := Claim7.holds Tryz.pinned (.plain (OpenSpec.upto fnSayFewSpec)) fnSayFewUptoCard
end Rows
end Go.Proofs.YtjbekhailkednabGreatDoor
