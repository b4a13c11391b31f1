/-
  DERIVED. GIVEN WITH THE SEED: THE CARDS: each row of YtpbgpeojlfdpoaaDoorRows.lean that lists a variable, with what it lists TIED to the program's text (the seventh form; the later family's looks); each row that meets fmt, with fmt's text TOLD by the authors' own Lean function (tested against real Go, not proved from fmt's source: count such statements apart). THE CARD IS WHAT COUNTS. Prove the row's statement (the work); the ties are given (YtpbgpeojlfdpoaaDoorTie.lean); close each card by the builder's one call (the guide's Derived/Test/ToyasCard.lean, 'card_holds'). Laid BY PROGRAM, IN A SANDBOX (cutbox-door.mjs). By AI agents, Wed Nov 11 2026. No macro, syntax, notation, axiom, sorry.
-/
import Derived.Test.YtpbgpeojlfdpoaaDoorRows
import GoSem.ClaimSeven
namespace Go.Proofs.YtpbgpeojlfdpoaaDoor
namespace Rows

/-- THE TIED CARD OF 'laws.FnExactSplitMail'. -/
def fnExactSplitMailCard : Claim7 := { stood := { row := fnExactSplitMailRow, standIns := [], harness := (true, "92d3dd1d5283e6803f822a030bd1d96115c287442605f8d7bf599df64a5b1035"), looks := false }, kinds := [], alts := [], laidByText := true, laidKinds := [.data, .pinned], laidTests := true, laidLooks := .later }
def FnExactSplitMailCardSaid : Prop := Claim7.holds Tryd.pinned (.plain (OpenSpec.ofChange fnExactSplitMailSpec)) fnExactSplitMailCard

/-- THE SECOND FORM's CARD OF 'laws.FnExactSplitMail'. -/
def fnExactSplitMailUptoCard : Claim7 := { stood := { row := fnExactSplitMailUptoRow, standIns := [], harness := (true, "92d3dd1d5283e6803f822a030bd1d96115c287442605f8d7bf599df64a5b1035"), looks := false }, kinds := [], alts := [], laidByText := true, laidKinds := [.data, .pinned], laidTests := true, laidLooks := .later }
def FnExactSplitMailUptoCardSaid : Prop := Claim7.holds Tryd.pinned (.plain (OpenSpec.upto fnExactSplitMailSpec)) fnExactSplitMailUptoCard
end Rows
end Go.Proofs.YtpbgpeojlfdpoaaDoor
