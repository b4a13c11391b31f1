/-
  DERIVED. GIVEN WITH THE SEED: THE CARDS: each row of YtjobinbeggkliabDoorRows.lean that lists a variable, with what it lists TIED to the program's text (the seventh form; the later family's looks); each row that meets fmt, with fmt's text TOLD by the authors' own Lean function (tested against real Go, not proved from fmt's source: count such statements apart). THE CARD IS WHAT COUNTS. Prove the row's statement (the work); the ties are given (YtjobinbeggkliabDoorTie.lean); close each card by the builder's one call (the guide's Derived/Test/ToyasCard.lean, 'card_holds'). Laid BY PROGRAM, IN A SANDBOX (cutbox-door.mjs). By AI agents, Wed Nov 11 2026. No macro, syntax, notation, axiom, sorry.
-/
import Derived.Test.YtjobinbeggkliabDoorRows
import GoSem.ClaimSeven
namespace Go.Proofs.YtjobinbeggkliabDoor
namespace Rows

/-- THE TIED CARD OF 'laws.FnExactSpeakMail'. -/
def fnExactSpeakMailCard : Claim7 := { stood := { row := fnExactSpeakMailRow, standIns := [], harness := (true, "84af285f06876956f5efbfba072d92aede5b420276682dd4a404538e58cc69f0"), looks := false }, kinds := [], alts := [], laidByText := true, laidKinds := [.data, .pinned], laidTests := true, laidLooks := .later }
def FnExactSpeakMailCardSaid : Prop := Claim7.holds Tryd.pinned (.plain (OpenSpec.ofChange fnExactSpeakMailSpec)) fnExactSpeakMailCard

/-- THE TIED CARD OF 'laws.FnExactNormalMail'. -/
def fnExactNormalMailCard : Claim7 := { stood := { row := fnExactNormalMailRow, standIns := [], harness := (true, "84af285f06876956f5efbfba072d92aede5b420276682dd4a404538e58cc69f0"), looks := false }, kinds := [], alts := [], laidByText := true, laidKinds := [.data, .pinned], laidTests := true, laidLooks := .later }
def FnExactNormalMailCardSaid : Prop := Claim7.holds Tryd.pinned (.plain (OpenSpec.ofChange fnExactNormalMailSpec)) fnExactNormalMailCard

/-- THE SECOND FORM's CARD OF 'laws.FnExactSpeakMail'. -/
def fnExactSpeakMailUptoCard : Claim7 := { stood := { row := fnExactSpeakMailUptoRow, standIns := [], harness := (true, "84af285f06876956f5efbfba072d92aede5b420276682dd4a404538e58cc69f0"), looks := false }, kinds := [], alts := [], laidByText := true, laidKinds := [.data, .pinned], laidTests := true, laidLooks := .later }
def FnExactSpeakMailUptoCardSaid : Prop := Claim7.holds Tryd.pinned (.plain (OpenSpec.upto fnExactSpeakMailSpec)) fnExactSpeakMailUptoCard

/-- THE SECOND FORM's CARD OF 'laws.FnExactNormalMail'. -/
def fnExactNormalMailUptoCard : Claim7 := { stood := { row := fnExactNormalMailUptoRow, standIns := [], harness := (true, "84af285f06876956f5efbfba072d92aede5b420276682dd4a404538e58cc69f0"), looks := false }, kinds := [], alts := [], laidByText := true, laidKinds := [.data, .pinned], laidTests := true, laidLooks := .later }
def FnExactNormalMailUptoCardSaid : Prop := Claim7.holds Tryd.pinned (.plain (OpenSpec.upto fnExactNormalMailSpec)) fnExactNormalMailUptoCard
end Rows
end Go.Proofs.YtjobinbeggkliabDoor
