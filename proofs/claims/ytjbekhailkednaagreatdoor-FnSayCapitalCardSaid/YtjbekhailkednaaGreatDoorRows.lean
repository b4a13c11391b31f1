/-
  NARROWER THAN 'FOR EVERY INPUT', by the rows' own cells (each row's printed sentence says how): FnSessionReset: laid · FnSayCapital: laid · FnSayData: laid · FnSayNoop: laid.
  DERIVED. THE GIVEN ROWS OF THIS SEAT. 4 by the template 'for every input the law returns true; each argument reads behind the call as it read before'; 0 by the template 'total and deterministic' (their statements: YtjbekhailkednaaGreatDoorTotals.lean).
  GIVEN WITH THE SEED: the statements are not yours to turn. If you find one false, say at which input.
  Laid BY PROGRAM, IN A SANDBOX (cutbox-rows.mjs): the forced cells as the released guide's own fill.sh prints them over the translation b8d006e4f7f0d6a4… (all of the seat's roots in one cut). By AI agents, Wed Nov 11 2026. No macro, syntax, notation, axiom, sorry.
-/
import Derived.Test.YtjbekhailkednaaGreatDoorChecked
import GoSem.PinnedTables
import GoSem.Claim
import GoSem.ClaimJoined
import GoSem.ClaimMapViews
import Derived.JoinedTies
import Derived.KernelRfl
namespace Go.Proofs.YtjbekhailkednaaGreatDoor
/- THE CELL 'sum', in the pinned program and in every row, IS THE sha256 OF THE DUMP (.gsa) THAT YtjbekhailkednaaGreatDoorProg.lean LOADS. Nothing in Lean hashes anything: it is a label: what it is worth is what the hold of that sum in a sandbox is worth. -/
noncomputable def Tryz.pinned : Pinned := { name := "ytjbekhailkednaagreatdoor", sum := "b8d006e4f7f0d6a4b6281a52dde2416aa5b44e50f28f63ce2b203852025b8949", checked := Tryz.checked }
namespace Rows
def none {H : Type} : Left H := { results := [], args := [] }

/- WHAT THE LISTED PACKAGE-LEVEL VARIABLES READ AS WHEN THE CALL BEGINS. Each datum BY PROGRAM (the guide's laid-datum.mjs) off the statement by which the dump's own 'gosem.cut.vars' lays the variable. In a bare row this is a premise. The card (YtjbekhailkednaaGreatDoorCards.lean) ties it to the program's text. -/
def laid_unicode_utf8_acceptRanges {H : Type} : DataW H := .agg [.agg [.lit (.int .u8 128), .lit (.int .u8 191)], .agg [.lit (.int .u8 160), .lit (.int .u8 191)], .agg [.lit (.int .u8 128), .lit (.int .u8 159)], .agg [.lit (.int .u8 144), .lit (.int .u8 191)], .agg [.lit (.int .u8 128), .lit (.int .u8 143)], .agg [.lit (.int .u8 0), .lit (.int .u8 0)], .agg [.lit (.int .u8 0), .lit (.int .u8 0)], .agg [.lit (.int .u8 0), .lit (.int .u8 0)], .agg [.lit (.int .u8 0), .lit (.int .u8 0)], .agg [.lit (.int .u8 0), .lit (.int .u8 0)], .agg [.lit (.int .u8 0), .lit (.int .u8 0)], .agg [.lit (.int .u8 0), .lit (.int .u8 0)], .agg [.lit (.int .u8 0), .lit (.int .u8 0)], .agg [.lit (.int .u8 0), .lit (.int .u8 0)], .agg [.lit (.int .u8 0), .lit (.int .u8 0)], .agg [.lit (.int .u8 0), .lit (.int .u8 0)]]
/-- One of Go's own tables, pinned by name: the form's constant. -/
def laid_unicode_utf8_first : DataW Unit := Go.Pinned.utf8First

/-- 'laws.FnSessionReset': WHATEVER THE INPUT: true; the input reads as it did. -/
def fnSessionResetSpec : ChangeSpec := { name := "fnSessionReset", fn := fun _ => fun
  | [d] => { results := [.lit (.bool true)], args := [d] }
  | _ => none }
def fnSessionResetRow : OpenClaim := { program := "ytjbekhailkednaagreatdoor", sum := "b8d006e4f7f0d6a4b6281a52dde2416aa5b44e50f28f63ce2b203852025b8949", func := "loop.example/mailwire/laws.FnSessionReset", spec := "fnSessionReset", inPlace := ["internal/bytealg.IndexByteString", "internal/bytealg.IndexString", "internal/bytealg.CountString"], unfollowed := true, recurses := true, named := ["internal/bytealg.MaxLen", "unicode/utf8.first", "unicode/utf8.acceptRanges"], apart := false, laid := [("unicode/utf8.acceptRanges", laid_unicode_utf8_acceptRanges), ("unicode/utf8.first", laid_unicode_utf8_first)] }
def FnSessionResetSaid : Prop := fnSessionResetRow.holds Tryz.pinned (OpenSpec.ofChange fnSessionResetSpec)

/-- ITS FALSE NEIGHBOUR: 'it returns false'. Refute it at one input. -/
def fnSessionResetWrong : ChangeSpec := { name := "fnSessionReset", fn := fun _ => fun
  | [d] => { results := [.lit (.bool false)], args := [d] }
  | _ => none }
def FnSessionResetWrongFalsely : Prop := fnSessionResetRow.holds Tryz.pinned (OpenSpec.ofChange fnSessionResetWrong)

/-- 'laws.FnSayCapital': WHATEVER THE INPUT: true; the input reads as it did. -/
def fnSayCapitalSpec : ChangeSpec := { name := "fnSayCapital", fn := fun _ => fun
  | [d] => { results := [.lit (.bool true)], args := [d] }
  | _ => none }
def fnSayCapitalRow : OpenClaim := { program := "ytjbekhailkednaagreatdoor", sum := "b8d006e4f7f0d6a4b6281a52dde2416aa5b44e50f28f63ce2b203852025b8949", func := "loop.example/mailwire/laws.FnSayCapital", spec := "fnSayCapital", inPlace := ["internal/bytealg.IndexByteString", "internal/bytealg.IndexString", "internal/bytealg.CountString"], unfollowed := true, recurses := true, named := ["internal/bytealg.MaxLen", "unicode/utf8.first", "unicode/utf8.acceptRanges"], apart := false, laid := [("unicode/utf8.acceptRanges", laid_unicode_utf8_acceptRanges), ("unicode/utf8.first", laid_unicode_utf8_first)] }
def FnSayCapitalSaid : Prop := fnSayCapitalRow.holds Tryz.pinned (OpenSpec.ofChange fnSayCapitalSpec)

/-- ITS FALSE NEIGHBOUR: 'it returns false'. Refute it at one input. -/
def fnSayCapitalWrong : ChangeSpec := { name := "fnSayCapital", fn := fun _ => fun
  | [d] => { results := [.lit (.bool false)], args := [d] }
  | _ => none }
def FnSayCapitalWrongFalsely : Prop := fnSayCapitalRow.holds Tryz.pinned (OpenSpec.ofChange fnSayCapitalWrong)

/-- 'laws.FnSayData': WHATEVER THE INPUT: true; the input reads as it did. -/
def fnSayDataSpec : ChangeSpec := { name := "fnSayData", fn := fun _ => fun
  | [d] => { results := [.lit (.bool true)], args := [d] }
  | _ => none }
def fnSayDataRow : OpenClaim := { program := "ytjbekhailkednaagreatdoor", sum := "b8d006e4f7f0d6a4b6281a52dde2416aa5b44e50f28f63ce2b203852025b8949", func := "loop.example/mailwire/laws.FnSayData", spec := "fnSayData", inPlace := ["internal/bytealg.IndexByteString", "internal/bytealg.IndexString", "internal/bytealg.CountString"], unfollowed := true, recurses := true, named := ["internal/bytealg.MaxLen", "unicode/utf8.first", "unicode/utf8.acceptRanges"], apart := false, laid := [("unicode/utf8.acceptRanges", laid_unicode_utf8_acceptRanges), ("unicode/utf8.first", laid_unicode_utf8_first)] }
def FnSayDataSaid : Prop := fnSayDataRow.holds Tryz.pinned (OpenSpec.ofChange fnSayDataSpec)

/-- ITS FALSE NEIGHBOUR: 'it returns false'. Refute it at one input. -/
def fnSayDataWrong : ChangeSpec := { name := "fnSayData", fn := fun _ => fun
  | [d] => { results := [.lit (.bool false)], args := [d] }
  | _ => none }
def FnSayDataWrongFalsely : Prop := fnSayDataRow.holds Tryz.pinned (OpenSpec.ofChange fnSayDataWrong)

/-- 'laws.FnSayNoop': WHATEVER THE INPUT: true; the input reads as it did. -/
def fnSayNoopSpec : ChangeSpec := { name := "fnSayNoop", fn := fun _ => fun
  | [d] => { results := [.lit (.bool true)], args := [d] }
  | _ => none }
def fnSayNoopRow : OpenClaim := { program := "ytjbekhailkednaagreatdoor", sum := "b8d006e4f7f0d6a4b6281a52dde2416aa5b44e50f28f63ce2b203852025b8949", func := "loop.example/mailwire/laws.FnSayNoop", spec := "fnSayNoop", inPlace := ["internal/bytealg.IndexByteString", "internal/bytealg.IndexString", "internal/bytealg.CountString"], unfollowed := true, recurses := true, named := ["internal/bytealg.MaxLen", "unicode/utf8.first", "unicode/utf8.acceptRanges"], apart := false, laid := [("unicode/utf8.acceptRanges", laid_unicode_utf8_acceptRanges), ("unicode/utf8.first", laid_unicode_utf8_first)] }
def FnSayNoopSaid : Prop := fnSayNoopRow.holds Tryz.pinned (OpenSpec.ofChange fnSayNoopSpec)

/-- ITS FALSE NEIGHBOUR: 'it returns false'. Refute it at one input. -/
def fnSayNoopWrong : ChangeSpec := { name := "fnSayNoop", fn := fun _ => fun
  | [d] => { results := [.lit (.bool false)], args := [d] }
  | _ => none }
def FnSayNoopWrongFalsely : Prop := fnSayNoopRow.holds Tryz.pinned (OpenSpec.ofChange fnSayNoopWrong)

/- THE SECOND FORM. 'bulk': how many values and letters a reading holds, each counted each time it is reached (what is shared counts as often as it is met; a slice's spare places count too). A statement '..UptoSaid' is the law's where the arguments, and the package variables that the reading takes, are together of bulk at most 1048576: NARROWER than '..Said'. Prove '..Said' where nothing that the law and all that it calls make is longer than what came in: it says more and counts as full. Else prove '..UptoSaid'. A law counts once. -/
mutual
def uptoBulk {H : Type} : DataW H → Nat
  | .lit (.string bytes) => bytes.length + 1
  | .lit _ => 1
  | .nil => 1
  | .ptr d => uptoBulk d + 1
  | .slice elems spare => uptoBulkAll elems + uptoBulkAll spare + 1
  | .agg parts => uptoBulkAll parts + 1
  | .iface _ d => uptoBulk d + 1
  | .map entries => uptoBulkEntries entries + 1
  | .held _ => 1
def uptoBulkAll {H : Type} : List (DataW H) → Nat
  | [] => 0
  | d :: r => uptoBulk d + uptoBulkAll r
def uptoBulkEntries {H : Type} : List (Lit × DataW H) → Nat
  | [] => 0
  | x :: r => uptoBulkEntry x + uptoBulkEntries r
def uptoBulkEntry {H : Type} : Lit × DataW H → Nat
  | (.string bytes, d) => bytes.length + uptoBulk d + 1
  | (_, d) => uptoBulk d + 1
 end
def uptoSmall : (H : Type) → List (DataW H) → Bool := fun _ ds => decide (uptoBulkAll ds ≤ 1048576)
def OpenSpec.upto (s : _root_.Go.ChangeSpec) : _root_.Go.OpenSpec := { _root_.Go.OpenSpec.ofChange s with cond := some uptoSmall }

/-- 'laws.FnSessionReset', WHERE WHAT IT READS IS OF BULK AT MOST 1048576: true; the input reads as it did. -/
def fnSessionResetUptoRow : OpenClaim := { program := "ytjbekhailkednaagreatdoor", sum := "b8d006e4f7f0d6a4b6281a52dde2416aa5b44e50f28f63ce2b203852025b8949", func := "loop.example/mailwire/laws.FnSessionReset", spec := "fnSessionReset", inPlace := ["internal/bytealg.IndexByteString", "internal/bytealg.IndexString", "internal/bytealg.CountString"], unfollowed := true, recurses := true, named := ["internal/bytealg.MaxLen", "unicode/utf8.first", "unicode/utf8.acceptRanges"], apart := false, laid := [("unicode/utf8.acceptRanges", laid_unicode_utf8_acceptRanges), ("unicode/utf8.first", laid_unicode_utf8_first)], narrowed := true }
def FnSessionResetUptoSaid : Prop := fnSessionResetUptoRow.holds Tryz.pinned (OpenSpec.upto fnSessionResetSpec)

/-- 'laws.FnSayCapital', WHERE WHAT IT READS IS OF BULK AT MOST 1048576: true; the input reads as it did. -/
def fnSayCapitalUptoRow : OpenClaim := { program := "ytjbekhailkednaagreatdoor", sum := "b8d006e4f7f0d6a4b6281a52dde2416aa5b44e50f28f63ce2b203852025b8949", func := "loop.example/mailwire/laws.FnSayCapital", spec := "fnSayCapital", inPlace := ["internal/bytealg.IndexByteString", "internal/bytealg.IndexString", "internal/bytealg.CountString"], unfollowed := true, recurses := true, named := ["internal/bytealg.MaxLen", "unicode/utf8.first", "unicode/utf8.acceptRanges"], apart := false, laid := [("unicode/utf8.acceptRanges", laid_unicode_utf8_acceptRanges), ("unicode/utf8.first", laid_unicode_utf8_first)], narrowed := true }
def FnSayCapitalUptoSaid : Prop := fnSayCapitalUptoRow.holds Tryz.pinned (OpenSpec.upto fnSayCapitalSpec)

/-- 'laws.FnSayData', WHERE WHAT IT READS IS OF BULK AT MOST 1048576: true; the input reads as it did. -/
def fnSayDataUptoRow : OpenClaim := { program := "ytjbekhailkednaagreatdoor", sum := "b8d006e4f7f0d6a4b6281a52dde2416aa5b44e50f28f63ce2b203852025b8949", func := "loop.example/mailwire/laws.FnSayData", spec := "fnSayData", inPlace := ["internal/bytealg.IndexByteString", "internal/bytealg.IndexString", "internal/bytealg.CountString"], unfollowed := true, recurses := true, named := ["internal/bytealg.MaxLen", "unicode/utf8.first", "unicode/utf8.acceptRanges"], apart := false, laid := [("unicode/utf8.acceptRanges", laid_unicode_utf8_acceptRanges), ("unicode/utf8.first", laid_unicode_utf8_first)], narrowed := true }
def FnSayDataUptoSaid : Prop := fnSayDataUptoRow.holds Tryz.pinned (OpenSpec.upto fnSayDataSpec)

/-- 'laws.FnSayNoop', WHERE WHAT IT READS IS OF BULK AT MOST 1048576: true; the input reads as it did. -/
def fnSayNoopUptoRow : OpenClaim := { program := "ytjbekhailkednaagreatdoor", sum := "b8d006e4f7f0d6a4b6281a52dde2416aa5b44e50f28f63ce2b203852025b8949", func := "loop.example/mailwire/laws.FnSayNoop", spec := "fnSayNoop", inPlace := ["internal/bytealg.IndexByteString", "internal/bytealg.IndexString", "internal/bytealg.CountString"], unfollowed := true, recurses := true, named := ["internal/bytealg.MaxLen", "unicode/utf8.first", "unicode/utf8.acceptRanges"], apart := false, laid := [("unicode/utf8.acceptRanges", laid_unicode_utf8_acceptRanges), ("unicode/utf8.first", laid_unicode_utf8_first)], narrowed := true }
def FnSayNoopUptoSaid : Prop := fnSayNoopUptoRow.holds Tryz.pinned (OpenSpec.upto fnSayNoopSpec)

end Rows
end Go.Proofs.YtjbekhailkednaaGreatDoor
