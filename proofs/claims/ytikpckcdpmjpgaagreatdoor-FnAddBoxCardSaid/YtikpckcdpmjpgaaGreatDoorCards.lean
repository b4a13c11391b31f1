/-
  DERIVED. GIVEN WITH THE SEED: THE CARDS: each row of YtikpckcdpmjpgaaGreatDoorRows.lean that lists a variable, with what it lists TIED to the program's text (the seventh form; the later family's looks); each row that meets fmt, with fmt's text TOLD by the authors' own Lean function (tested against real Go, not proved from fmt's source: count such statements apart). THE CARD IS WHAT COUNTS. Prove the row's statement (the work); the ties are given (YtikpckcdpmjpgaaGreatDoorTie.lean); close each card by the builder's one call (the guide's Derived/Test/ToyasCard.lean, 'card_holds'). Laid BY PROGRAM, IN A SANDBOX (cutbox-door.mjs). By AI agents, Wed Nov 11 2026. No macro, syntax, notation, axiom, sorry.
-/
import Derived.Test.YtikpckcdpmjpgaaGreatDoorRows
import GoSem.ClaimSeven
namespace Go.Proofs.YtikpckcdpmjpgaaGreatDoor
namespace Rows

/-- THE TIED CARD OF 'laws.FnTakeMail'. -/
def fnTakeMailCard : Claim7 := { stood := { row := fnTakeMailRow, standIns := [], harness := (true, "4d5676e946d9178552711167535414dd97d861bd402f641c19e1c407dfa4097d"), looks := false }, kinds := [], alts := [], laidByText := true, laidKinds := [.data, .pinned], laidTests := true, laidLooks := .later }
def FnTakeMailCardSaid : Prop := Claim7.holds Tryz.pinned (.plain (OpenSpec.ofChange fnTakeMailSpec)) fnTakeMailCard

/-- THE TIED CARD OF 'laws.FnTakeOrder'. -/
def fnTakeOrderCard : Claim7 := { stood := { row := fnTakeOrderRow, standIns := [], harness := (true, "4d5676e946d9178552711167535414dd97d861bd402f641c19e1c407dfa4097d"), looks := false }, kinds := [], alts := [], laidByText := true, laidKinds := [.data, .pinned], laidTests := true, laidLooks := .later }
def FnTakeOrderCardSaid : Prop := Claim7.holds Tryz.pinned (.plain (OpenSpec.ofChange fnTakeOrderSpec)) fnTakeOrderCard

/-- THE TIED CARD OF 'laws.FnAddBox'. -/
def fnAddBoxCard : Claim7 := { stood := { row := fnAddBoxRow, standIns := [], harness := (true, "4d5676e946d9178552711167535414dd97d861bd402f641c19e1c407dfa4097d"), looks := false }, kinds := [], alts := [], laidByText := true, laidKinds := [.data, .pinned], laidTests := true, laidLooks := .later }
def FnAddBoxCardSaid : Prop := Claim7.holds Tryz.pinned (.plain (OpenSpec.ofChange fnAddBoxSpec)) fnAddBoxCard

/-- THE TIED CARD OF 'laws.FnTraceDate'. -/
def fnTraceDateCard : Claim7 := { stood := { row := fnTraceDateRow, standIns := [], harness := (true, "4d5676e946d9178552711167535414dd97d861bd402f641c19e1c407dfa4097d"), looks := false }, kinds := [], alts := [], laidByText := true, laidKinds := [.data, .widerDeep, .pinned], laidTests := true, laidLooks := .later }
def FnTraceDateCardSaid : Prop := Claim7.holds Tryz.pinned (.plain (OpenSpec.ofChange fnTraceDateSpec)) fnTraceDateCard

/-- THE TIED CARD OF 'laws.FnHopsTrace'. -/
def fnHopsTraceCard : Claim7 := { stood := { row := fnHopsTraceRow, standIns := [], harness := (true, "4d5676e946d9178552711167535414dd97d861bd402f641c19e1c407dfa4097d"), looks := false }, kinds := [], alts := [], laidByText := true, laidKinds := [.data, .widerDeep, .pinned], laidTests := true, laidLooks := .later }
def FnHopsTraceCardSaid : Prop := Claim7.holds Tryz.pinned (.plain (OpenSpec.ofChange fnHopsTraceSpec)) fnHopsTraceCard

/-- THE SECOND FORM's CARD OF 'laws.FnTakeMail'. -/
def fnTakeMailUptoCard : Claim7 := { stood := { row := fnTakeMailUptoRow, standIns := [], harness := (true, "4d5676e946d9178552711167535414dd97d861bd402f641c19e1c407dfa4097d"), looks := false }, kinds := [], alts := [], laidByText := true, laidKinds := [.data, .pinned], laidTests := true, laidLooks := .later }
def FnTakeMailUptoCardSaid : Prop := Claim7.holds Tryz.pinned (.plain (OpenSpec.upto fnTakeMailSpec)) fnTakeMailUptoCard

/-- THE SECOND FORM's CARD OF 'laws.FnTakeOrder'. -/
def fnTakeOrderUptoCard : Claim7 := { stood := { row := fnTakeOrderUptoRow, standIns := [], harness := (true, "4d5676e946d9178552711167535414dd97d861bd402f641c19e1c407dfa4097d"), looks := false }, kinds := [], alts := [], laidByText := true, laidKinds := [.data, .pinned], laidTests := true, laidLooks := .later }
def FnTakeOrderUptoCardSaid : Prop := Claim7.holds Tryz.pinned (.plain (OpenSpec.upto fnTakeOrderSpec)) fnTakeOrderUptoCard

/-- THE SECOND FORM's CARD OF 'laws.FnAddBox'. -/
def fnAddBoxUptoCard : Claim7 := { stood := { row := fnAddBoxUptoRow, standIns := [], harness := (true, "4d5676e946d9178552711167535414dd97d861bd402f641c19e1c407dfa4097d"), looks := false }, kinds := [], alts := [], laidByText := true, laidKinds := [.data, .pinned], laidTests := true, laidLooks := .later }
def FnAddBoxUptoCardSaid : Prop := Claim7.holds Tryz.pinned (.plain (OpenSpec.upto fnAddBoxSpec)) fnAddBoxUptoCard

/-- THE SECOND FORM's CARD OF 'laws.FnTraceDate'. -/
def fnTraceDateUptoCard : Claim7 := { stood := { row := fnTraceDateUptoRow, standIns := [], harness := (true, "4d5676e946d9178552711167535414dd97d861bd402f641c19e1c407dfa4097d"), looks := false }, kinds := [], alts := [], laidByText := true, laidKinds := [.data, .widerDeep, .pinned], laidTests := true, laidLooks := .later }
def FnTraceDateUptoCardSaid : Prop := Claim7.holds Tryz.pinned (.plain (OpenSpec.upto fnTraceDateSpec)) fnTraceDateUptoCard

/-- THE SECOND FORM's CARD OF 'laws.FnHopsTrace'. -/
def fnHopsTraceUptoCard : Claim7 := { stood := { row := fnHopsTraceUptoRow, standIns := [], harness := (true, "4d5676e946d9178552711167535414dd97d861bd402f641c19e1c407dfa4097d"), looks := false }, kinds := [], alts := [], laidByText := true, laidKinds := [.data, .widerDeep, .pinned], laidTests := true, laidLooks := .later }
def FnHopsTraceUptoCardSaid : Prop := Claim7.holds Tryz.pinned (.plain (OpenSpec.upto fnHopsTraceSpec)) fnHopsTraceUptoCard
end Rows
end Go.Proofs.YtikpckcdpmjpgaaGreatDoor
