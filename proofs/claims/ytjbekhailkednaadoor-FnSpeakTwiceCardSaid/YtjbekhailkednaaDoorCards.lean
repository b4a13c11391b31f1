/-
  DERIVED. GIVEN WITH THE SEED: THE CARDS: each row of YtjbekhailkednaaDoorRows.lean that lists a variable, with what it lists TIED to the program's text (the seventh form; the later family's looks); each row that meets fmt, with fmt's text TOLD by the authors' own Lean function (tested against real Go, not proved from fmt's source: count such statements apart). THE CARD IS WHAT COUNTS. Prove the row's statement (the work); the ties are given (YtjbekhailkednaaDoorTie.lean); close each card by the builder's one call (the guide's Derived/Test/ToyasCard.lean, 'card_holds'). Laid BY PROGRAM, IN A SANDBOX (cutbox-door.mjs). By AI agents, Wed Nov 11 2026. No macro, syntax, notation, axiom, sorry.
-/
import Derived.Test.YtjbekhailkednaaDoorRows
import GoSem.ClaimSeven
namespace Go.Proofs.YtjbekhailkednaaDoor
namespace Rows

/-- THE TIED CARD OF 'laws.FnSpeakMail'. -/
def fnSpeakMailCard : Claim7 := { stood := { row := fnSpeakMailRow, standIns := [], harness := (true, "d282bff0f2ce39cbb11d61626725d245c2942d317925bffe83e51295b7f2c3c4"), looks := false }, kinds := [], alts := [], laidByText := true, laidKinds := [.data, .pinned], laidTests := true, laidLooks := .later }
def FnSpeakMailCardSaid : Prop := Claim7.holds Tryd.pinned (.plain (OpenSpec.ofChange fnSpeakMailSpec)) fnSpeakMailCard

/-- THE TIED CARD OF 'laws.FnSpeakTwice'. -/
def fnSpeakTwiceCard : Claim7 := { stood := { row := fnSpeakTwiceRow, standIns := [], harness := (true, "d282bff0f2ce39cbb11d61626725d245c2942d317925bffe83e51295b7f2c3c4"), looks := false }, kinds := [], alts := [], laidByText := true, laidKinds := [.data, .pinned], laidTests := true, laidLooks := .later }
def FnSpeakTwiceCardSaid : Prop := Claim7.holds Tryd.pinned (.plain (OpenSpec.ofChange fnSpeakTwiceSpec)) fnSpeakTwiceCard

/-- THE SECOND FORM's CARD OF 'laws.FnSpeakMail'. -/
def fnSpeakMailUptoCard : Claim7 := { stood := { row := fnSpeakMailUptoRow, standIns := [], harness := (true, "d282bff0f2ce39cbb11d61626725d245c2942d317925bffe83e51295b7f2c3c4"), looks := false }, kinds := [], alts := [], laidByText := true, laidKinds := [.data, .pinned], laidTests := true, laidLooks := .later }
def FnSpeakMailUptoCardSaid : Prop := Claim7.holds Tryd.pinned (.plain (OpenSpec.upto fnSpeakMailSpec)) fnSpeakMailUptoCard

/-- THE SECOND FORM's CARD OF 'laws.FnSpeakTwice'. -/
def fnSpeakTwiceUptoCard : Claim7 := { stood := { row := fnSpeakTwiceUptoRow, standIns := [], harness := (true, "d282bff0f2ce39cbb11d61626725d245c2942d317925bffe83e51295b7f2c3c4"), looks := false }, kinds := [], alts := [], laidByText := true, laidKinds := [.data, .pinned], laidTests := true, laidLooks := .later }
def FnSpeakTwiceUptoCardSaid : Prop := Claim7.holds Tryd.pinned (.plain (OpenSpec.upto fnSpeakTwiceSpec)) fnSpeakTwiceUptoCard
end Rows
end Go.Proofs.YtjbekhailkednaaDoor
