/-
  DERIVED. GIVEN WITH THE SEED: THE CARDS: each row of YtjpkhkndkockiaaGreatDoorRows.lean that lists a variable, with what it lists TIED to the program's text (the seventh form; the later family's looks); each row that meets fmt, with fmt's text TOLD by the authors' own Lean function (tested against real Go, not proved from fmt's source: count such statements apart). THE CARD IS WHAT COUNTS. Prove the row's statement (the work); the ties are given (YtjpkhkndkockiaaGreatDoorTie.lean); close each card by the builder's one call (the guide's Derived/Test/ToyasCard.lean, 'card_holds'). Laid BY PROGRAM, IN A SANDBOX (cutbox-door.mjs). By AI agents, Wed Nov 11 2026. No macro, syntax, notation, axiom, sorry.
-/
import Derived.Test.YtjpkhkndkockiaaGreatDoorRows
import GoSem.ClaimSeven
namespace Go.Proofs.YtjpkhkndkockiaaGreatDoor
namespace Rows

/-- THE TIED CARD OF 'laws.FnExactSayLine'. -/
def fnExactSayLineCard : Claim7 := { stood := { row := fnExactSayLineRow, standIns := [], harness := (true, "83c6b622a1631a6b1c1db4e97bcc83cb689db0cf42e0bada47c91136f4ab3ed4"), looks := false }, kinds := [], alts := [], laidByText := true, laidKinds := [.data, .pinned], laidTests := true, laidLooks := .later }
def FnExactSayLineCardSaid : Prop := Claim7.holds Tryz.pinned (.plain (OpenSpec.ofChange fnExactSayLineSpec)) fnExactSayLineCard

/-- THE TIED CARD OF 'laws.FnExactSayAll'. -/
def fnExactSayAllCard : Claim7 := { stood := { row := fnExactSayAllRow, standIns := [], harness := (true, "83c6b622a1631a6b1c1db4e97bcc83cb689db0cf42e0bada47c91136f4ab3ed4"), looks := false }, kinds := [], alts := [], laidByText := true, laidKinds := [.data, .pinned], laidTests := true, laidLooks := .later }
def FnExactSayAllCardSaid : Prop := Claim7.holds Tryz.pinned (.plain (OpenSpec.ofChange fnExactSayAllSpec)) fnExactSayAllCard

/-- THE SECOND FORM's CARD OF 'laws.FnExactSayLine'. -/
def fnExactSayLineUptoCard : Claim7 := { stood := { row := fnExactSayLineUptoRow, standIns := [], harness := (true, "83c6b622a1631a6b1c1db4e97bcc83cb689db0cf42e0bada47c91136f4ab3ed4"), looks := false }, kinds := [], alts := [], laidByText := true, laidKinds := [.data, .pinned], laidTests := true, laidLooks := .later }
def FnExactSayLineUptoCardSaid : Prop := Claim7.holds Tryz.pinned (.plain (OpenSpec.upto fnExactSayLineSpec)) fnExactSayLineUptoCard

/-- THE SECOND FORM's CARD OF 'laws.FnExactSayAll'. -/
def fnExactSayAllUptoCard : Claim7 := { stood := { row := fnExactSayAllUptoRow, standIns := [], harness := (true, "83c6b622a1631a6b1c1db4e97bcc83cb689db0cf42e0bada47c91136f4ab3ed4"), looks := false }, kinds := [], alts := [], laidByText := true, laidKinds := [.data, .pinned], laidTests := true, laidLooks := .later }
def FnExactSayAllUptoCardSaid : Prop := Claim7.holds Tryz.pinned (.plain (OpenSpec.upto fnExactSayAllSpec)) fnExactSayAllUptoCard
end Rows
end Go.Proofs.YtjpkhkndkockiaaGreatDoor
