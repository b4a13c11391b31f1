/-
  DERIVED. GIVEN WITH THE SEED: THE CARDS: each row of YtemfiddemagflaaDoorRows.lean that lists a variable, with what it lists TIED to the program's text (the seventh form; the later family's looks); each row that meets fmt, with fmt's text TOLD by the authors' own Lean function (tested against real Go, not proved from fmt's source: count such statements apart). THE CARD IS WHAT COUNTS. Prove the row's statement (the work); the ties are given (YtemfiddemagflaaDoorTie.lean); close each card by the builder's one call (the guide's Derived/Test/ToyasCard.lean, 'card_holds'). Laid BY PROGRAM, IN A SANDBOX (cutbox-door.mjs). By AI agents, Wed Nov 11 2026. No macro, syntax, notation, axiom, sorry.
-/
import Derived.Test.YtemfiddemagflaaDoorRows
import GoSem.ClaimSeven
namespace Go.Proofs.YtemfiddemagflaaDoor
namespace Rows

/-- THE TIED CARD OF 'laws.FnMailValid'. -/
def fnMailValidCard : Claim7 := { stood := { row := fnMailValidRow, standIns := [], harness := (true, "7d88ac0f1d843b27119beae0621323e2925b4b85d66c7ae787c1a49f10acc953"), looks := false }, kinds := [], alts := [], laidByText := true, laidKinds := [.data, .pinned], laidTests := true, laidLooks := .later }
def FnMailValidCardSaid : Prop := Claim7.holds Tryd.pinned (.plain (OpenSpec.ofChange fnMailValidSpec)) fnMailValidCard

/-- THE TIED CARD OF 'laws.FnCountHops'. -/
def fnCountHopsCard : Claim7 := { stood := { row := fnCountHopsRow, standIns := [], harness := (true, "7d88ac0f1d843b27119beae0621323e2925b4b85d66c7ae787c1a49f10acc953"), looks := false }, kinds := [], alts := [], laidByText := true, laidKinds := [.data, .pinned], laidTests := true, laidLooks := .later }
def FnCountHopsCardSaid : Prop := Claim7.holds Tryd.pinned (.plain (OpenSpec.ofChange fnCountHopsSpec)) fnCountHopsCard

/-- THE TIED CARD OF 'laws.FnSpeakSize'. -/
def fnSpeakSizeCard : Claim7 := { stood := { row := fnSpeakSizeRow, standIns := [], harness := (true, "7d88ac0f1d843b27119beae0621323e2925b4b85d66c7ae787c1a49f10acc953"), looks := false }, kinds := [], alts := [], laidByText := true, laidKinds := [.data, .pinned], laidTests := true, laidLooks := .later }
def FnSpeakSizeCardSaid : Prop := Claim7.holds Tryd.pinned (.plain (OpenSpec.ofChange fnSpeakSizeSpec)) fnSpeakSizeCard

/-- THE TIED CARD OF 'laws.FnExactCountHops'. -/
def fnExactCountHopsCard : Claim7 := { stood := { row := fnExactCountHopsRow, standIns := [], harness := (true, "7d88ac0f1d843b27119beae0621323e2925b4b85d66c7ae787c1a49f10acc953"), looks := false }, kinds := [], alts := [], laidByText := true, laidKinds := [.data, .pinned], laidTests := true, laidLooks := .later }
def FnExactCountHopsCardSaid : Prop := Claim7.holds Tryd.pinned (.plain (OpenSpec.ofChange fnExactCountHopsSpec)) fnExactCountHopsCard

/-- THE TIED CARD OF 'laws.FnNormalMail'. -/
def fnNormalMailCard : Claim7 := { stood := { row := fnNormalMailRow, standIns := [], harness := (true, "7d88ac0f1d843b27119beae0621323e2925b4b85d66c7ae787c1a49f10acc953"), looks := false }, kinds := [], alts := [], laidByText := true, laidKinds := [.data, .pinned], laidTests := true, laidLooks := .later }
def FnNormalMailCardSaid : Prop := Claim7.holds Tryd.pinned (.plain (OpenSpec.ofChange fnNormalMailSpec)) fnNormalMailCard

/-- THE SECOND FORM's CARD OF 'laws.FnMailValid'. -/
def fnMailValidUptoCard : Claim7 := { stood := { row := fnMailValidUptoRow, standIns := [], harness := (true, "7d88ac0f1d843b27119beae0621323e2925b4b85d66c7ae787c1a49f10acc953"), looks := false }, kinds := [], alts := [], laidByText := true, laidKinds := [.data, .pinned], laidTests := true, laidLooks := .later }
def FnMailValidUptoCardSaid : Prop := Claim7.holds Tryd.pinned (.plain (OpenSpec.upto fnMailValidSpec)) fnMailValidUptoCard

/-- THE SECOND FORM's CARD OF 'laws.FnCountHops'. -/
def fnCountHopsUptoCard : Claim7 := { stood := { row := fnCountHopsUptoRow, standIns := [], harness := (true, "7d88ac0f1d843b27119beae0621323e2925b4b85d66c7ae787c1a49f10acc953"), looks := false }, kinds := [], alts := [], laidByText := true, laidKinds := [.data, .pinned], laidTests := true, laidLooks := .later }
def FnCountHopsUptoCardSaid : Prop := Claim7.holds Tryd.pinned (.plain (OpenSpec.upto fnCountHopsSpec)) fnCountHopsUptoCard

/-- THE SECOND FORM's CARD OF 'laws.FnSpeakSize'. -/
def fnSpeakSizeUptoCard : Claim7 := { stood := { row := fnSpeakSizeUptoRow, standIns := [], harness := (true, "7d88ac0f1d843b27119beae0621323e2925b4b85d66c7ae787c1a49f10acc953"), looks := false }, kinds := [], alts := [], laidByText := true, laidKinds := [.data, .pinned], laidTests := true, laidLooks := .later }
def FnSpeakSizeUptoCardSaid : Prop := Claim7.holds Tryd.pinned (.plain (OpenSpec.upto fnSpeakSizeSpec)) fnSpeakSizeUptoCard

/-- THE SECOND FORM's CARD OF 'laws.FnExactCountHops'. -/
def fnExactCountHopsUptoCard : Claim7 := { stood := { row := fnExactCountHopsUptoRow, standIns := [], harness := (true, "7d88ac0f1d843b27119beae0621323e2925b4b85d66c7ae787c1a49f10acc953"), looks := false }, kinds := [], alts := [], laidByText := true, laidKinds := [.data, .pinned], laidTests := true, laidLooks := .later }
def FnExactCountHopsUptoCardSaid : Prop := Claim7.holds Tryd.pinned (.plain (OpenSpec.upto fnExactCountHopsSpec)) fnExactCountHopsUptoCard

/-- THE SECOND FORM's CARD OF 'laws.FnNormalMail'. -/
def fnNormalMailUptoCard : Claim7 := { stood := { row := fnNormalMailUptoRow, standIns := [], harness := (true, "7d88ac0f1d843b27119beae0621323e2925b4b85d66c7ae787c1a49f10acc953"), looks := false }, kinds := [], alts := [], laidByText := true, laidKinds := [.data, .pinned], laidTests := true, laidLooks := .later }
def FnNormalMailUptoCardSaid : Prop := Claim7.holds Tryd.pinned (.plain (OpenSpec.upto fnNormalMailSpec)) fnNormalMailUptoCard
end Rows
end Go.Proofs.YtemfiddemagflaaDoor
