/-
  DERIVED. GIVEN WITH THE SEED: THE CARDS: each row of YtdhgaimdhkojbaaDoorRows.lean that lists a variable, with what it lists TIED to the program's text (the seventh form; the later family's looks); each row that meets fmt, with fmt's text TOLD by the authors' own Lean function (tested against real Go, not proved from fmt's source: count such statements apart). THE CARD IS WHAT COUNTS. Prove the row's statement (the work); the ties are given (YtdhgaimdhkojbaaDoorTie.lean); close each card by the builder's one call (the guide's Derived/Test/ToyasCard.lean, 'card_holds'). Laid BY PROGRAM, IN A SANDBOX (cutbox-door.mjs). By AI agents, Wed Nov 11 2026. No macro, syntax, notation, axiom, sorry.
-/
import Derived.Test.YtdhgaimdhkojbaaDoorRows
import GoSem.ClaimSeven
namespace Go.Proofs.YtdhgaimdhkojbaaDoor
namespace Rows

/-- THE TIED CARD OF 'laws.FnExactSessionValid'. -/
def fnExactSessionValidCard : Claim7 := { stood := { row := fnExactSessionValidRow, standIns := [], harness := (true, "f4bf05747737618d7a1445802e9f9302c6384d247ac6ef10bf87cabf9476eaa5"), looks := false }, kinds := [], alts := [], laidByText := true, laidKinds := [.data, .pinned], laidTests := true, laidLooks := .later }
def FnExactSessionValidCardSaid : Prop := Claim7.holds Tryd.pinned (.plain (OpenSpec.ofChange fnExactSessionValidSpec)) fnExactSessionValidCard

/-- THE TIED CARD OF 'laws.FnSpeakSize'. -/
def fnSpeakSizeCard : Claim7 := { stood := { row := fnSpeakSizeRow, standIns := [], harness := (true, "f4bf05747737618d7a1445802e9f9302c6384d247ac6ef10bf87cabf9476eaa5"), looks := false }, kinds := [], alts := [], laidByText := true, laidKinds := [.data, .pinned], laidTests := true, laidLooks := .later }
def FnSpeakSizeCardSaid : Prop := Claim7.holds Tryd.pinned (.plain (OpenSpec.ofChange fnSpeakSizeSpec)) fnSpeakSizeCard

/-- THE TIED CARD OF 'laws.FnNormalMail'. -/
def fnNormalMailCard : Claim7 := { stood := { row := fnNormalMailRow, standIns := [], harness := (true, "f4bf05747737618d7a1445802e9f9302c6384d247ac6ef10bf87cabf9476eaa5"), looks := false }, kinds := [], alts := [], laidByText := true, laidKinds := [.data, .pinned], laidTests := true, laidLooks := .later }
def FnNormalMailCardSaid : Prop := Claim7.holds Tryd.pinned (.plain (OpenSpec.ofChange fnNormalMailSpec)) fnNormalMailCard

/-- THE TIED CARD OF 'laws.FnExactBoxesValid'. -/
def fnExactBoxesValidCard : Claim7 := { stood := { row := fnExactBoxesValidRow, standIns := [], harness := (true, "f4bf05747737618d7a1445802e9f9302c6384d247ac6ef10bf87cabf9476eaa5"), looks := false }, kinds := [], alts := [], laidByText := true, laidKinds := [.data, .pinned], laidTests := true, laidLooks := .later }
def FnExactBoxesValidCardSaid : Prop := Claim7.holds Tryd.pinned (.plain (OpenSpec.ofChange fnExactBoxesValidSpec)) fnExactBoxesValidCard

/-- THE TIED CARD OF 'laws.FnExactCountHeld'. -/
def fnExactCountHeldCard : Claim7 := { stood := { row := fnExactCountHeldRow, standIns := [], harness := (true, "f4bf05747737618d7a1445802e9f9302c6384d247ac6ef10bf87cabf9476eaa5"), looks := false }, kinds := [], alts := [], laidByText := true, laidKinds := [.data, .pinned], laidTests := true, laidLooks := .later }
def FnExactCountHeldCardSaid : Prop := Claim7.holds Tryd.pinned (.plain (OpenSpec.ofChange fnExactCountHeldSpec)) fnExactCountHeldCard

/-- THE TIED CARD OF 'laws.FnSessionSame'. -/
def fnSessionSameCard : Claim7 := { stood := { row := fnSessionSameRow, standIns := [], harness := (true, "f4bf05747737618d7a1445802e9f9302c6384d247ac6ef10bf87cabf9476eaa5"), looks := false }, kinds := [], alts := [], laidByText := true, laidKinds := [.data, .pinned], laidTests := true, laidLooks := .later }
def FnSessionSameCardSaid : Prop := Claim7.holds Tryd.pinned (.plain (OpenSpec.ofChange fnSessionSameSpec)) fnSessionSameCard

/-- THE SECOND FORM's CARD OF 'laws.FnExactSessionValid'. -/
def fnExactSessionValidUptoCard : Claim7 := { stood := { row := fnExactSessionValidUptoRow, standIns := [], harness := (true, "f4bf05747737618d7a1445802e9f9302c6384d247ac6ef10bf87cabf9476eaa5"), looks := false }, kinds := [], alts := [], laidByText := true, laidKinds := [.data, .pinned], laidTests := true, laidLooks := .later }
def FnExactSessionValidUptoCardSaid : Prop := Claim7.holds Tryd.pinned (.plain (OpenSpec.upto fnExactSessionValidSpec)) fnExactSessionValidUptoCard

/-- THE SECOND FORM's CARD OF 'laws.FnSpeakSize'. -/
def fnSpeakSizeUptoCard : Claim7 := { stood := { row := fnSpeakSizeUptoRow, standIns := [], harness := (true, "f4bf05747737618d7a1445802e9f9302c6384d247ac6ef10bf87cabf9476eaa5"), looks := false }, kinds := [], alts := [], laidByText := true, laidKinds := [.data, .pinned], laidTests := true, laidLooks := .later }
def FnSpeakSizeUptoCardSaid : Prop := Claim7.holds Tryd.pinned (.plain (OpenSpec.upto fnSpeakSizeSpec)) fnSpeakSizeUptoCard

/-- THE SECOND FORM's CARD OF 'laws.FnNormalMail'. -/
def fnNormalMailUptoCard : Claim7 := { stood := { row := fnNormalMailUptoRow, standIns := [], harness := (true, "f4bf05747737618d7a1445802e9f9302c6384d247ac6ef10bf87cabf9476eaa5"), looks := false }, kinds := [], alts := [], laidByText := true, laidKinds := [.data, .pinned], laidTests := true, laidLooks := .later }
def FnNormalMailUptoCardSaid : Prop := Claim7.holds Tryd.pinned (.plain (OpenSpec.upto fnNormalMailSpec)) fnNormalMailUptoCard

/-- THE SECOND FORM's CARD OF 'laws.FnExactBoxesValid'. -/
def fnExactBoxesValidUptoCard : Claim7 := { stood := { row := fnExactBoxesValidUptoRow, standIns := [], harness := (true, "f4bf05747737618d7a1445802e9f9302c6384d247ac6ef10bf87cabf9476eaa5"), looks := false }, kinds := [], alts := [], laidByText := true, laidKinds := [.data, .pinned], laidTests := true, laidLooks := .later }
def FnExactBoxesValidUptoCardSaid : Prop := Claim7.holds Tryd.pinned (.plain (OpenSpec.upto fnExactBoxesValidSpec)) fnExactBoxesValidUptoCard

/-- THE SECOND FORM's CARD OF 'laws.FnExactCountHeld'. -/
def fnExactCountHeldUptoCard : Claim7 := { stood := { row := fnExactCountHeldUptoRow, standIns := [], harness := (true, "f4bf05747737618d7a1445802e9f9302c6384d247ac6ef10bf87cabf9476eaa5"), looks := false }, kinds := [], alts := [], laidByText := true, laidKinds := [.data, .pinned], laidTests := true, laidLooks := .later }
def FnExactCountHeldUptoCardSaid : Prop := Claim7.holds Tryd.pinned (.plain (OpenSpec.upto fnExactCountHeldSpec)) fnExactCountHeldUptoCard

/-- THE SECOND FORM's CARD OF 'laws.FnSessionSame'. -/
def fnSessionSameUptoCard : Claim7 := { stood := { row := fnSessionSameUptoRow, standIns := [], harness := (true, "f4bf05747737618d7a1445802e9f9302c6384d247ac6ef10bf87cabf9476eaa5"), looks := false }, kinds := [], alts := [], laidByText := true, laidKinds := [.data, .pinned], laidTests := true, laidLooks := .later }
def FnSessionSameUptoCardSaid : Prop := Claim7.holds Tryd.pinned (.plain (OpenSpec.upto fnSessionSameSpec)) fnSessionSameUptoCard
end Rows
end Go.Proofs.YtdhgaimdhkojbaaDoor
