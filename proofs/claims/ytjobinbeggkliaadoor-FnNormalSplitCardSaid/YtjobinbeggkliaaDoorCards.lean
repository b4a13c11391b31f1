/-
  DERIVED. GIVEN WITH THE SEED: THE CARDS: each row of YtjobinbeggkliaaDoorRows.lean that lists a variable, with what it lists TIED to the program's text (the seventh form; the later family's looks); each row that meets fmt, with fmt's text TOLD by the authors' own Lean function (tested against real Go, not proved from fmt's source: count such statements apart). THE CARD IS WHAT COUNTS. Prove the row's statement (the work); the ties are given (YtjobinbeggkliaaDoorTie.lean); close each card by the builder's one call (the guide's Derived/Test/ToyasCard.lean, 'card_holds'). Laid BY PROGRAM, IN A SANDBOX (cutbox-door.mjs). By AI agents, Wed Nov 11 2026. No macro, syntax, notation, axiom, sorry.
-/
import Derived.Test.YtjobinbeggkliaaDoorRows
import GoSem.ClaimSeven
namespace Go.Proofs.YtjobinbeggkliaaDoor
namespace Rows

/-- THE TIED CARD OF 'laws.FnBoxesPart'. -/
def fnBoxesPartCard : Claim7 := { stood := { row := fnBoxesPartRow, standIns := [], harness := (true, "65d65d38bc18fd423d4d61da384c20077dae13bde8fcd7435005a46bca1e8a78"), looks := false }, kinds := [], alts := [], laidByText := true, laidKinds := [.data, .pinned], laidTests := true, laidLooks := .later }
def FnBoxesPartCardSaid : Prop := Claim7.holds Tryd.pinned (.plain (OpenSpec.ofChange fnBoxesPartSpec)) fnBoxesPartCard

/-- THE TIED CARD OF 'laws.FnBoxesSame'. -/
def fnBoxesSameCard : Claim7 := { stood := { row := fnBoxesSameRow, standIns := [], harness := (true, "65d65d38bc18fd423d4d61da384c20077dae13bde8fcd7435005a46bca1e8a78"), looks := false }, kinds := [], alts := [], laidByText := true, laidKinds := [.data, .pinned], laidTests := true, laidLooks := .later }
def FnBoxesSameCardSaid : Prop := Claim7.holds Tryd.pinned (.plain (OpenSpec.ofChange fnBoxesSameSpec)) fnBoxesSameCard

/-- THE TIED CARD OF 'laws.FnDeliverTwice'. -/
def fnDeliverTwiceCard : Claim7 := { stood := { row := fnDeliverTwiceRow, standIns := [], harness := (true, "65d65d38bc18fd423d4d61da384c20077dae13bde8fcd7435005a46bca1e8a78"), looks := false }, kinds := [], alts := [], laidByText := true, laidKinds := [.data, .pinned], laidTests := true, laidLooks := .later }
def FnDeliverTwiceCardSaid : Prop := Claim7.holds Tryd.pinned (.plain (OpenSpec.ofChange fnDeliverTwiceSpec)) fnDeliverTwiceCard

/-- THE TIED CARD OF 'laws.FnNormalSplit'. -/
def fnNormalSplitCard : Claim7 := { stood := { row := fnNormalSplitRow, standIns := [], harness := (true, "65d65d38bc18fd423d4d61da384c20077dae13bde8fcd7435005a46bca1e8a78"), looks := false }, kinds := [], alts := [], laidByText := true, laidKinds := [.data, .pinned], laidTests := true, laidLooks := .later }
def FnNormalSplitCardSaid : Prop := Claim7.holds Tryd.pinned (.plain (OpenSpec.ofChange fnNormalSplitSpec)) fnNormalSplitCard

/-- THE TIED CARD OF 'laws.FnSplitMail'. -/
def fnSplitMailCard : Claim7 := { stood := { row := fnSplitMailRow, standIns := [], harness := (true, "65d65d38bc18fd423d4d61da384c20077dae13bde8fcd7435005a46bca1e8a78"), looks := false }, kinds := [], alts := [], laidByText := true, laidKinds := [.data, .pinned], laidTests := true, laidLooks := .later }
def FnSplitMailCardSaid : Prop := Claim7.holds Tryd.pinned (.plain (OpenSpec.ofChange fnSplitMailSpec)) fnSplitMailCard

/-- THE SECOND FORM's CARD OF 'laws.FnBoxesPart'. -/
def fnBoxesPartUptoCard : Claim7 := { stood := { row := fnBoxesPartUptoRow, standIns := [], harness := (true, "65d65d38bc18fd423d4d61da384c20077dae13bde8fcd7435005a46bca1e8a78"), looks := false }, kinds := [], alts := [], laidByText := true, laidKinds := [.data, .pinned], laidTests := true, laidLooks := .later }
def FnBoxesPartUptoCardSaid : Prop := Claim7.holds Tryd.pinned (.plain (OpenSpec.upto fnBoxesPartSpec)) fnBoxesPartUptoCard

/-- THE SECOND FORM's CARD OF 'laws.FnBoxesSame'. -/
def fnBoxesSameUptoCard : Claim7 := { stood := { row := fnBoxesSameUptoRow, standIns := [], harness := (true, "65d65d38bc18fd423d4d61da384c20077dae13bde8fcd7435005a46bca1e8a78"), looks := false }, kinds := [], alts := [], laidByText := true, laidKinds := [.data, .pinned], laidTests := true, laidLooks := .later }
def FnBoxesSameUptoCardSaid : Prop := Claim7.holds Tryd.pinned (.plain (OpenSpec.upto fnBoxesSameSpec)) fnBoxesSameUptoCard

/-- THE SECOND FORM's CARD OF 'laws.FnDeliverTwice'. -/
def fnDeliverTwiceUptoCard : Claim7 := { stood := { row := fnDeliverTwiceUptoRow, standIns := [], harness := (true, "65d65d38bc18fd423d4d61da384c20077dae13bde8fcd7435005a46bca1e8a78"), looks := false }, kinds := [], alts := [], laidByText := true, laidKinds := [.data, .pinned], laidTests := true, laidLooks := .later }
def FnDeliverTwiceUptoCardSaid : Prop := Claim7.holds Tryd.pinned (.plain (OpenSpec.upto fnDeliverTwiceSpec)) fnDeliverTwiceUptoCard

/-- THE SECOND FORM's CARD OF 'laws.FnNormalSplit'. -/
def fnNormalSplitUptoCard : Claim7 := { stood := { row := fnNormalSplitUptoRow, standIns := [], harness := (true, "65d65d38bc18fd423d4d61da384c20077dae13bde8fcd7435005a46bca1e8a78"), looks := false }, kinds := [], alts := [], laidByText := true, laidKinds := [.data, .pinned], laidTests := true, laidLooks := .later }
def FnNormalSplitUptoCardSaid : Prop := Claim7.holds Tryd.pinned (.plain (OpenSpec.upto fnNormalSplitSpec)) fnNormalSplitUptoCard

/-- THE SECOND FORM's CARD OF 'laws.FnSplitMail'. -/
def fnSplitMailUptoCard : Claim7 := { stood := { row := fnSplitMailUptoRow, standIns := [], harness := (true, "65d65d38bc18fd423d4d61da384c20077dae13bde8fcd7435005a46bca1e8a78"), looks := false }, kinds := [], alts := [], laidByText := true, laidKinds := [.data, .pinned], laidTests := true, laidLooks := .later }
def FnSplitMailUptoCardSaid : Prop := Claim7.holds Tryd.pinned (.plain (OpenSpec.upto fnSplitMailSpec)) fnSplitMailUptoCard
end Rows
end Go.Proofs.YtjobinbeggkliaaDoor
