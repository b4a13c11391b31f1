/-
  NARROWER THAN 'FOR EVERY INPUT', by the rows' own cells (each row's printed sentence says how): FnTraceMail: laid · FnExactTakeMail: laid · FnExactTraceMail: laid · FnExactDeliverMail: laid · FnExactAddBox: laid.
  DERIVED. THE GIVEN ROWS OF THIS SEAT. 5 by the template 'for every input the law returns true; each argument reads behind the call as it read before'; 0 by the template 'total and deterministic' (their statements: YtikpckcdpmjpgabGreatDoorTotals.lean).
  GIVEN WITH THE SEED: the statements are not yours to turn. If you find one false, say at which input.
  Laid BY PROGRAM, IN A SANDBOX (cutbox-rows.mjs): the forced cells as the released guide's own fill.sh prints them over the translation 103cb6fc3daff20b… (all of the seat's roots in one cut). By AI agents, Wed Nov 11 2026. No macro, syntax, notation, axiom, sorry.
-/
import Derived.Test.YtikpckcdpmjpgabGreatDoorChecked
import GoSem.PinnedTables
import GoSem.Claim
import GoSem.ClaimJoined
import GoSem.ClaimMapViews
import Derived.JoinedTies
import Derived.KernelRfl
namespace Go.Proofs.YtikpckcdpmjpgabGreatDoor
/- THE CELL 'sum', in the pinned program and in every row, IS THE sha256 OF THE DUMP (.gsa) THAT YtikpckcdpmjpgabGreatDoorProg.lean LOADS. Nothing in Lean hashes anything: it is a label: what it is worth is what the hold of that sum in a sandbox is worth. -/
noncomputable def Tryz.pinned : Pinned := { name := "ytikpckcdpmjpgabgreatdoor", sum := "103cb6fc3daff20b0eb656130b7b3646d3eb6adaf94345b862f28676f2782515", checked := Tryz.checked }
namespace Rows
def none {H : Type} : Left H := { results := [], args := [] }

/- WHAT THE LISTED PACKAGE-LEVEL VARIABLES READ AS WHEN THE CALL BEGINS. Each datum BY PROGRAM (the guide's laid-datum.mjs) off the statement by which the dump's own 'gosem.cut.vars' lays the variable. In a bare row this is a premise. The card (YtikpckcdpmjpgabGreatDoorCards.lean) ties it to the program's text. -/
def laid_unicode_utf8_acceptRanges {H : Type} : DataW H := .agg [.agg [.lit (.int .u8 128), .lit (.int .u8 191)], .agg [.lit (.int .u8 160), .lit (.int .u8 191)], .agg [.lit (.int .u8 128), .lit (.int .u8 159)], .agg [.lit (.int .u8 144), .lit (.int .u8 191)], .agg [.lit (.int .u8 128), .lit (.int .u8 143)], .agg [.lit (.int .u8 0), .lit (.int .u8 0)], .agg [.lit (.int .u8 0), .lit (.int .u8 0)], .agg [.lit (.int .u8 0), .lit (.int .u8 0)], .agg [.lit (.int .u8 0), .lit (.int .u8 0)], .agg [.lit (.int .u8 0), .lit (.int .u8 0)], .agg [.lit (.int .u8 0), .lit (.int .u8 0)], .agg [.lit (.int .u8 0), .lit (.int .u8 0)], .agg [.lit (.int .u8 0), .lit (.int .u8 0)], .agg [.lit (.int .u8 0), .lit (.int .u8 0)], .agg [.lit (.int .u8 0), .lit (.int .u8 0)], .agg [.lit (.int .u8 0), .lit (.int .u8 0)]]
def laid_loop_example_mailwire_impl_monthNames {H : Type} : DataW H := .agg [.lit (.string [74, 97, 110]), .lit (.string [70, 101, 98]), .lit (.string [77, 97, 114]), .lit (.string [65, 112, 114]), .lit (.string [77, 97, 121]), .lit (.string [74, 117, 110]), .lit (.string [74, 117, 108]), .lit (.string [65, 117, 103]), .lit (.string [83, 101, 112]), .lit (.string [79, 99, 116]), .lit (.string [78, 111, 118]), .lit (.string [68, 101, 99])]
/-- One of Go's own tables, pinned by name: the form's constant. -/
def laid_unicode_utf8_first : DataW Unit := Go.Pinned.utf8First

/-- 'laws.FnTraceMail': WHATEVER THE INPUT: true; the input reads as it did. -/
def fnTraceMailSpec : ChangeSpec := { name := "fnTraceMail", vars := ["loop.example/mailwire/impl.monthNames"], fn := fun _ => fun
  | [d, g1] => { results := [.lit (.bool true)], args := [d], vars := [g1] }
  | _ => none }
def fnTraceMailRow : OpenClaim := { program := "ytikpckcdpmjpgabgreatdoor", sum := "103cb6fc3daff20b0eb656130b7b3646d3eb6adaf94345b862f28676f2782515", func := "loop.example/mailwire/laws.FnTraceMail", spec := "fnTraceMail", inPlace := ["internal/bytealg.IndexByteString", "internal/bytealg.IndexString", "internal/bytealg.CountString", "slices.overlaps[string]"], unfollowed := true, recurses := true, named := ["internal/bytealg.MaxLen", "unicode/utf8.first", "unicode/utf8.acceptRanges", "loop.example/mailwire/impl.monthNames"], apart := false, laid := [("unicode/utf8.acceptRanges", laid_unicode_utf8_acceptRanges), ("loop.example/mailwire/impl.monthNames", laid_loop_example_mailwire_impl_monthNames), ("unicode/utf8.first", laid_unicode_utf8_first)] }
def FnTraceMailSaid : Prop := fnTraceMailRow.holds Tryz.pinned (OpenSpec.ofChange fnTraceMailSpec)

/-- ITS FALSE NEIGHBOUR: 'it returns false'. Refute it at one input. -/
def fnTraceMailWrong : ChangeSpec := { name := "fnTraceMail", vars := ["loop.example/mailwire/impl.monthNames"], fn := fun _ => fun
  | [d, g1] => { results := [.lit (.bool false)], args := [d], vars := [g1] }
  | _ => none }
def FnTraceMailWrongFalsely : Prop := fnTraceMailRow.holds Tryz.pinned (OpenSpec.ofChange fnTraceMailWrong)

/-- 'laws.FnExactTakeMail': WHATEVER THE INPUT: true; the input reads as it did. -/
def fnExactTakeMailSpec : ChangeSpec := { name := "fnExactTakeMail", fn := fun _ => fun
  | [d1, d2] => { results := [.lit (.bool true)], args := [d1, d2] }
  | _ => none }
def fnExactTakeMailRow : OpenClaim := { program := "ytikpckcdpmjpgabgreatdoor", sum := "103cb6fc3daff20b0eb656130b7b3646d3eb6adaf94345b862f28676f2782515", func := "loop.example/mailwire/laws.FnExactTakeMail", spec := "fnExactTakeMail", inPlace := ["internal/bytealg.IndexByteString", "internal/bytealg.IndexString", "internal/bytealg.CountString"], unfollowed := true, recurses := true, named := ["internal/bytealg.MaxLen", "unicode/utf8.first", "unicode/utf8.acceptRanges"], apart := false, laid := [("unicode/utf8.acceptRanges", laid_unicode_utf8_acceptRanges), ("unicode/utf8.first", laid_unicode_utf8_first)] }
def FnExactTakeMailSaid : Prop := fnExactTakeMailRow.holds Tryz.pinned (OpenSpec.ofChange fnExactTakeMailSpec)

/-- ITS FALSE NEIGHBOUR: 'it returns false'. Refute it at one input. -/
def fnExactTakeMailWrong : ChangeSpec := { name := "fnExactTakeMail", fn := fun _ => fun
  | [d1, d2] => { results := [.lit (.bool false)], args := [d1, d2] }
  | _ => none }
def FnExactTakeMailWrongFalsely : Prop := fnExactTakeMailRow.holds Tryz.pinned (OpenSpec.ofChange fnExactTakeMailWrong)

/-- 'laws.FnExactTraceMail': WHATEVER THE INPUT: true; the input reads as it did. -/
def fnExactTraceMailSpec : ChangeSpec := { name := "fnExactTraceMail", vars := ["loop.example/mailwire/impl.monthNames"], fn := fun _ => fun
  | [d1, d2, d3, g1] => { results := [.lit (.bool true)], args := [d1, d2, d3], vars := [g1] }
  | _ => none }
def fnExactTraceMailRow : OpenClaim := { program := "ytikpckcdpmjpgabgreatdoor", sum := "103cb6fc3daff20b0eb656130b7b3646d3eb6adaf94345b862f28676f2782515", func := "loop.example/mailwire/laws.FnExactTraceMail", spec := "fnExactTraceMail", inPlace := ["internal/bytealg.IndexByteString", "internal/bytealg.IndexString", "internal/bytealg.CountString", "slices.overlaps[string]"], unfollowed := true, recurses := true, named := ["internal/bytealg.MaxLen", "unicode/utf8.first", "unicode/utf8.acceptRanges", "loop.example/mailwire/impl.monthNames"], apart := false, laid := [("unicode/utf8.acceptRanges", laid_unicode_utf8_acceptRanges), ("loop.example/mailwire/impl.monthNames", laid_loop_example_mailwire_impl_monthNames), ("unicode/utf8.first", laid_unicode_utf8_first)] }
def FnExactTraceMailSaid : Prop := fnExactTraceMailRow.holds Tryz.pinned (OpenSpec.ofChange fnExactTraceMailSpec)

/-- ITS FALSE NEIGHBOUR: 'it returns false'. Refute it at one input. -/
def fnExactTraceMailWrong : ChangeSpec := { name := "fnExactTraceMail", vars := ["loop.example/mailwire/impl.monthNames"], fn := fun _ => fun
  | [d1, d2, d3, g1] => { results := [.lit (.bool false)], args := [d1, d2, d3], vars := [g1] }
  | _ => none }
def FnExactTraceMailWrongFalsely : Prop := fnExactTraceMailRow.holds Tryz.pinned (OpenSpec.ofChange fnExactTraceMailWrong)

/-- 'laws.FnExactDeliverMail': WHATEVER THE INPUT: true; the input reads as it did. -/
def fnExactDeliverMailSpec : ChangeSpec := { name := "fnExactDeliverMail", fn := fun _ => fun
  | [d1, d2] => { results := [.lit (.bool true)], args := [d1, d2] }
  | _ => none }
def fnExactDeliverMailRow : OpenClaim := { program := "ytikpckcdpmjpgabgreatdoor", sum := "103cb6fc3daff20b0eb656130b7b3646d3eb6adaf94345b862f28676f2782515", func := "loop.example/mailwire/laws.FnExactDeliverMail", spec := "fnExactDeliverMail", inPlace := ["internal/bytealg.IndexByteString", "internal/bytealg.IndexString", "internal/bytealg.CountString"], unfollowed := true, recurses := true, named := ["internal/bytealg.MaxLen", "unicode/utf8.first", "unicode/utf8.acceptRanges"], apart := false, laid := [("unicode/utf8.acceptRanges", laid_unicode_utf8_acceptRanges), ("unicode/utf8.first", laid_unicode_utf8_first)] }
def FnExactDeliverMailSaid : Prop := fnExactDeliverMailRow.holds Tryz.pinned (OpenSpec.ofChange fnExactDeliverMailSpec)

/-- ITS FALSE NEIGHBOUR: 'it returns false'. Refute it at one input. -/
def fnExactDeliverMailWrong : ChangeSpec := { name := "fnExactDeliverMail", fn := fun _ => fun
  | [d1, d2] => { results := [.lit (.bool false)], args := [d1, d2] }
  | _ => none }
def FnExactDeliverMailWrongFalsely : Prop := fnExactDeliverMailRow.holds Tryz.pinned (OpenSpec.ofChange fnExactDeliverMailWrong)

/-- 'laws.FnExactAddBox': WHATEVER THE INPUT: true; the input reads as it did. -/
def fnExactAddBoxSpec : ChangeSpec := { name := "fnExactAddBox", fn := fun _ => fun
  | [d1, d2] => { results := [.lit (.bool true)], args := [d1, d2] }
  | _ => none }
def fnExactAddBoxRow : OpenClaim := { program := "ytikpckcdpmjpgabgreatdoor", sum := "103cb6fc3daff20b0eb656130b7b3646d3eb6adaf94345b862f28676f2782515", func := "loop.example/mailwire/laws.FnExactAddBox", spec := "fnExactAddBox", inPlace := ["internal/bytealg.IndexByteString", "internal/bytealg.IndexString", "internal/bytealg.CountString", "slices.overlaps[loop.example/mailwire/impl.Box]"], unfollowed := true, recurses := true, named := ["internal/bytealg.MaxLen", "unicode/utf8.first", "unicode/utf8.acceptRanges"], apart := false, laid := [("unicode/utf8.acceptRanges", laid_unicode_utf8_acceptRanges), ("unicode/utf8.first", laid_unicode_utf8_first)] }
def FnExactAddBoxSaid : Prop := fnExactAddBoxRow.holds Tryz.pinned (OpenSpec.ofChange fnExactAddBoxSpec)

/-- ITS FALSE NEIGHBOUR: 'it returns false'. Refute it at one input. -/
def fnExactAddBoxWrong : ChangeSpec := { name := "fnExactAddBox", fn := fun _ => fun
  | [d1, d2] => { results := [.lit (.bool false)], args := [d1, d2] }
  | _ => none }
def FnExactAddBoxWrongFalsely : Prop := fnExactAddBoxRow.holds Tryz.pinned (OpenSpec.ofChange fnExactAddBoxWrong)

/- THE SECOND FORM. 'bulk': how many values and letters a reading holds, each counted each time it is reached (what is shared counts as often as it is met; a slice's spare places count too). A statement '..UptoSaid' is the law's where the arguments, and the package variables that the reading takes, are together of bulk at most 1048576: NARROWER than '..Said'. Prove '..Said' where nothing that the law and all that it calls make is longer than what came in: it says more and counts as full. Else prove '..UptoSaid'. A law counts once. -/
mutual
def uptoBulk {H : Type} : DataW H → Nat
  | .lit (.string bytes) => bytes.length + 1
  | .lit _ => 1
  | .nil => 1
  | .ptr d => uptoBulk d + 1
  | .slice elems spare => uptoBulkAll elems + uptoBulkAll spare + 1
  | .agg parts => uptoBulkAll parts + 1
  | .iface _ d => uptoBulk d + 1
  | .map entries => uptoBulkEntries entries + 1
  | .held _ => 1
def uptoBulkAll {H : Type} : List (DataW H) → Nat
  | [] => 0
  | d :: r => uptoBulk d + uptoBulkAll r
def uptoBulkEntries {H : Type} : List (Lit × DataW H) → Nat
  | [] => 0
  | x :: r => uptoBulkEntry x + uptoBulkEntries r
def uptoBulkEntry {H : Type} : Lit × DataW H → Nat
  | (.string bytes, d) => bytes.length + uptoBulk d + 1
  | (_, d) => uptoBulk d + 1
 end
def uptoSmall : (H : Type) → List (DataW H) → Bool := fun _ ds => decide (uptoBulkAll ds ≤ 1048576)
def OpenSpec.upto (s : _root_.Go.ChangeSpec) : _root_.Go.OpenSpec := { _root_.Go.OpenSpec.ofChange s with cond := some uptoSmall }

/-- 'laws.FnTraceMail', WHERE WHAT IT READS IS OF BULK AT MOST 1048576: true; the input reads as it did. -/
def fnTraceMailUptoRow : OpenClaim := { program := "ytikpckcdpmjpgabgreatdoor", sum := "103cb6fc3daff20b0eb656130b7b3646d3eb6adaf94345b862f28676f2782515", func := "loop.example/mailwire/laws.FnTraceMail", spec := "fnTraceMail", inPlace := ["internal/bytealg.IndexByteString", "internal/bytealg.IndexString", "internal/bytealg.CountString", "slices.overlaps[string]"], unfollowed := true, recurses := true, named := ["internal/bytealg.MaxLen", "unicode/utf8.first", "unicode/utf8.acceptRanges", "loop.example/mailwire/impl.monthNames"], apart := false, laid := [("unicode/utf8.acceptRanges", laid_unicode_utf8_acceptRanges), ("loop.example/mailwire/impl.monthNames", laid_loop_example_mailwire_impl_monthNames), ("unicode/utf8.first", laid_unicode_utf8_first)], narrowed := true }
def FnTraceMailUptoSaid : Prop := fnTraceMailUptoRow.holds Tryz.pinned (OpenSpec.upto fnTraceMailSpec)

/-- 'laws.FnExactTakeMail', WHERE WHAT IT READS IS OF BULK AT MOST 1048576: true; the input reads as it did. -/
def fnExactTakeMailUptoRow : OpenClaim := { program := "ytikpckcdpmjpgabgreatdoor", sum := "103cb6fc3daff20b0eb656130b7b3646d3eb6adaf94345b862f28676f2782515", func := "loop.example/mailwire/laws.FnExactTakeMail", spec := "fnExactTakeMail", inPlace := ["internal/bytealg.IndexByteString", "internal/bytealg.IndexString", "internal/bytealg.CountString"], unfollowed := true, recurses := true, named := ["internal/bytealg.MaxLen", "unicode/utf8.first", "unicode/utf8.acceptRanges"], apart := false, laid := [("unicode/utf8.acceptRanges", laid_unicode_utf8_acceptRanges), ("unicode/utf8.first", laid_unicode_utf8_first)], narrowed := true }
def FnExactTakeMailUptoSaid : Prop := fnExactTakeMailUptoRow.holds Tryz.pinned (OpenSpec.upto fnExactTakeMailSpec)

/-- 'laws.FnExactTraceMail', WHERE WHAT IT READS IS OF BULK AT MOST 1048576: true; the input reads as it did. -/
def fnExactTraceMailUptoRow : OpenClaim := { program := "ytikpckcdpmjpgabgreatdoor", sum := "103cb6fc3daff20b0eb656130b7b3646d3eb6adaf94345b862f28676f2782515", func := "loop.example/mailwire/laws.FnExactTraceMail", spec := "fnExactTraceMail", inPlace := ["internal/bytealg.IndexByteString", "internal/bytealg.IndexString", "internal/bytealg.CountString", "slices.overlaps[string]"], unfollowed := true, recurses := true, named := ["internal/bytealg.MaxLen", "unicode/utf8.first", "unicode/utf8.acceptRanges", "loop.example/mailwire/impl.monthNames"], apart := false, laid := [("unicode/utf8.acceptRanges", laid_unicode_utf8_acceptRanges), ("loop.example/mailwire/impl.monthNames", laid_loop_example_mailwire_impl_monthNames), ("unicode/utf8.first", laid_unicode_utf8_first)], narrowed := true }
def FnExactTraceMailUptoSaid : Prop := fnExactTraceMailUptoRow.holds Tryz.pinned (OpenSpec.upto fnExactTraceMailSpec)

/-- 'laws.FnExactDeliverMail', WHERE WHAT IT READS IS OF BULK AT MOST 1048576: true; the input reads as it did. -/
def fnExactDeliverMailUptoRow : OpenClaim := { program := "ytikpckcdpmjpgabgreatdoor", sum := "103cb6fc3daff20b0eb656130b7b3646d3eb6adaf94345b862f28676f2782515", func := "loop.example/mailwire/laws.FnExactDeliverMail", spec := "fnExactDeliverMail", inPlace := ["internal/bytealg.IndexByteString", "internal/bytealg.IndexString", "internal/bytealg.CountString"], unfollowed := true, recurses := true, named := ["internal/bytealg.MaxLen", "unicode/utf8.first", "unicode/utf8.acceptRanges"], apart := false, laid := [("unicode/utf8.acceptRanges", laid_unicode_utf8_acceptRanges), ("unicode/utf8.first", laid_unicode_utf8_first)], narrowed := true }
def FnExactDeliverMailUptoSaid : Prop := fnExactDeliverMailUptoRow.holds Tryz.pinned (OpenSpec.upto fnExactDeliverMailSpec)

/-- 'laws.FnExactAddBox', WHERE WHAT IT READS IS OF BULK AT MOST 1048576: true; the input reads as it did. -/
def fnExactAddBoxUptoRow : OpenClaim := { program := "ytikpckcdpmjpgabgreatdoor", sum := "103cb6fc3daff20b0eb656130b7b3646d3eb6adaf94345b862f28676f2782515", func := "loop.example/mailwire/laws.FnExactAddBox", spec := "fnExactAddBox", inPlace := ["internal/bytealg.IndexByteString", "internal/bytealg.IndexString", "internal/bytealg.CountString", "slices.overlaps[loop.example/mailwire/impl.Box]"], unfollowed := true, recurses := true, named := ["internal/bytealg.MaxLen", "unicode/utf8.first", "unicode/utf8.acceptRanges"], apart := false, laid := [("unicode/utf8.acceptRanges", laid_unicode_utf8_acceptRanges), ("unicode/utf8.first", laid_unicode_utf8_first)], narrowed := true }
def FnExactAddBoxUptoSaid : Prop := fnExactAddBoxUptoRow.holds Tryz.pinned (OpenSpec.upto fnExactAddBoxSpec)

end Rows
end Go.Proofs.YtikpckcdpmjpgabGreatDoor
