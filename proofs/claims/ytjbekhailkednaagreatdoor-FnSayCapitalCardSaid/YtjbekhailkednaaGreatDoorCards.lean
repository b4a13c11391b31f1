/-
  DERIVED. GIVEN WITH THE SEED: THE CARDS: each row of YtjbekhailkednaaGreatDoorRows.lean that lists a variable, with what it lists TIED to the program's text (the seventh form; the later family's looks); each row that meets fmt, with fmt's text TOLD by the authors' own Lean function (tested against real Go, not proved from fmt's source: count such statements apart). THE CARD IS WHAT COUNTS. Prove the row's statement (the work); the ties are given (YtjbekhailkednaaGreatDoorTie.lean); close each card by the builder's one call (the guide's Derived/Test/ToyasCard.lean, 'card_holds'). Laid BY PROGRAM, IN A SANDBOX (cutbox-door.mjs). By AI agents, Wed Nov 11 2026. No macro, syntax, notation, axiom, sorry.
-/
import Derived.Test.YtjbekhailkednaaGreatDoorRows
import GoSem.ClaimSeven
namespace Go.Proofs.YtjbekhailkednaaGreatDoor
namespace Rows

/-- THE TIED CARD OF 'laws.FnSessionReset'. -/
def fnSessionResetCard : Claim7 := { stood := { row := fnSessionResetRow, standIns := [], harness := (true, "b38945e2e9a51bf9895e5e8c81df4d6cfa1403506f7d40e7f4b1e42dc11c5a1f"), looks := false }, kinds := [], alts := [], laidByText := true, laidKinds := [.data, .pinned], laidTests := true, laidLooks := .later }
def FnSessionResetCardSaid : Prop := Claim7.holds Tryz.pinned (.plain (OpenSpec.ofChange fnSessionResetSpec)) fnSessionResetCard

/-- THE TIED CARD OF 'laws.FnSayCapital'. -/
def fnSayCapitalCard : Claim7 := { stood := { row := fnSayCapitalRow, standIns := [], harness := (true, "b38945e2e9a51bf9895e5e8c81df4d6cfa1403506f7d40e7f4b1e42dc11c5a1f"), looks := false }, kinds := [], alts := [], laidByText := true, laidKinds := [.data, .pinned], laidTests := true, laidLooks := .later }
def FnSayCapitalCardSaid : Prop := Claim7.holds Tryz.pinned (.plain (OpenSpec.ofChange fnSayCapitalSpec)) fnSayCapitalCard

/-- THE TIED CARD OF 'laws.FnSayData'. -/
def fnSayDataCard : Claim7 := { stood := { row := fnSayDataRow, standIns := [], harness := (true, "b38945e2e9a51bf9895e5e8c81df4d6cfa1403506f7d40e7f4b1e42dc11c5a1f"), looks := false }, kinds := [], alts := [], laidByText := true, laidKinds := [.data, .pinned], laidTests := true, laidLooks := .later }
def FnSayDataCardSaid : Prop := Claim7.holds Tryz.pinned (.plain (OpenSpec.ofChange fnSayDataSpec)) fnSayDataCard

/-- THE TIED CARD OF 'laws.FnSayNoop'. -/
def fnSayNoopCard : Claim7 := { stood := { row := fnSayNoopRow, standIns := [], harness := (true, "b38945e2e9a51bf9895e5e8c81df4d6cfa1403506f7d40e7f4b1e42dc11c5a1f"), looks := false }, kinds := [], alts := [], laidByText := true, laidKinds := [.data, .pinned], laidTests := true, laidLooks := .later }
def FnSayNoopCardSaid : Prop := Claim7.holds Tryz.pinned (.plain (OpenSpec.ofChange fnSayNoopSpec)) fnSayNoopCard

/-- THE SECOND FORM's CARD OF 'laws.FnSessionReset'. -/
def fnSessionResetUptoCard : Claim7 := { stood := { row := fnSessionResetUptoRow, standIns := [], harness := (true, "b38945e2e9a51bf9895e5e8c81df4d6cfa1403506f7d40e7f4b1e42dc11c5a1f"), looks := false }, kinds := [], alts := [], laidByText := true, laidKinds := [.data, .pinned], laidTests := true, laidLooks := .later }
def FnSessionResetUptoCardSaid : Prop := Claim7.holds Tryz.pinned (.plain (OpenSpec.upto fnSessionResetSpec)) fnSessionResetUptoCard

/-- THE SECOND FORM's CARD OF 'laws.FnSayCapital'. -/
def fnSayCapitalUptoCard : Claim7 := { stood := { row := fnSayCapitalUptoRow, standIns := [], harness := (true, "b38945e2e9a51bf9895e5e8c81df4d6cfa1403506f7d40e7f4b1e42dc11c5a1f"), looks := false }, kinds := [], alts := [], laidByText := true, laidKinds := [.data, .pinned], laidTests := true, laidLooks := .later }
def FnSayCapitalUptoCardSaid : Prop := Claim7.holds Tryz.pinned (.plain (OpenSpec.upto fnSayCapitalSpec)) fnSayCapitalUptoCard

/-- THE SECOND FORM's CARD OF 'laws.FnSayData'. -/
def fnSayDataUptoCard : Claim7 := { stood := { row := fnSayDataUptoRow, standIns := [], harness := (true, "b38945e2e9a51bf9895e5e8c81df4d6cfa1403506f7d40e7f4b1e42dc11c5a1f"), looks := false }, kinds := [], alts := [], laidByText := true, laidKinds := [.data, .pinned], laidTests := true, laidLooks := .later }
def FnSayDataUptoCardSaid : Prop := Claim7.holds Tryz.pinned (.plain (OpenSpec.upto fnSayDataSpec)) fnSayDataUptoCard

/-- THE SECOND FORM's CARD OF 'laws.FnSayNoop'. -/
def fnSayNoopUptoCard : Claim7 := { stood := { row := fnSayNoopUptoRow, standIns := [], harness := (true, "b38945e2e9a51bf9895e5e8c81df4d6cfa1403506f7d40e7f4b1e42dc11c5a1f"), looks := false }, kinds := [], alts := [], laidByText := true, laidKinds := [.data, .pinned], laidTests := true, laidLooks := .later }
def FnSayNoopUptoCardSaid : Prop := Claim7.holds Tryz.pinned (.plain (OpenSpec.upto fnSayNoopSpec)) fnSayNoopUptoCard
end Rows
end Go.Proofs.YtjbekhailkednaaGreatDoor
