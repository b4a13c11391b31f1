/-
  NARROWER THAN 'FOR EVERY INPUT', by the rows' own cells (each row's printed sentence says how): FnScriptTrace: laid · FnScriptMail: laid.
  DERIVED. THE GIVEN ROWS OF THIS SEAT. 2 by the template 'for every input the law returns true; each argument reads behind the call as it read before'; 0 by the template 'total and deterministic' (their statements: YtaapfgpeeghmeaaGreatDoorTotals.lean).
  GIVEN WITH THE SEED: the statements are not yours to turn. If you find one false, say at which input.
  Laid BY PROGRAM, IN A SANDBOX (cutbox-rows.mjs): the forced cells as the released guide's own fill.sh prints them over the translation 7d2c5c95147f7b52… (all of the seat's roots in one cut). By AI agents, Wed Nov 11 2026. No macro, syntax, notation, axiom, sorry.
-/
import Derived.Test.YtaapfgpeeghmeaaGreatDoorChecked
import GoSem.PinnedTables
import GoSem.Claim
import GoSem.ClaimJoined
import GoSem.ClaimMapViews
import Derived.JoinedTies
import Derived.KernelRfl
namespace Go.Proofs.YtaapfgpeeghmeaaGreatDoor
/- THE CELL 'sum', in the pinned program and in every row, IS THE sha256 OF THE DUMP (.gsa) THAT YtaapfgpeeghmeaaGreatDoorProg.lean LOADS. Nothing in Lean hashes anything: it is a label: what it is worth is what the hold of that sum in a sandbox is worth. -/
noncomputable def Tryz.pinned : Pinned := { name := "ytaapfgpeeghmeaagreatdoor", sum := "7d2c5c95147f7b52c52b2d5b976e619de6cad29acbf7c6d45cd74375c5adae03", checked := Tryz.checked }
namespace Rows
def none {H : Type} : Left H := { results := [], args := [] }

/- WHAT THE LISTED PACKAGE-LEVEL VARIABLES READ AS WHEN THE CALL BEGINS. Each datum BY PROGRAM (the guide's laid-datum.mjs) off the statement by which the dump's own 'gosem.cut.vars' lays the variable. In a bare row this is a premise. The card (YtaapfgpeeghmeaaGreatDoorCards.lean) ties it to the program's text. -/
def laid_unicode_utf8_acceptRanges {H : Type} : DataW H := .agg [.agg [.lit (.int .u8 128), .lit (.int .u8 191)], .agg [.lit (.int .u8 160), .lit (.int .u8 191)], .agg [.lit (.int .u8 128), .lit (.int .u8 159)], .agg [.lit (.int .u8 144), .lit (.int .u8 191)], .agg [.lit (.int .u8 128), .lit (.int .u8 143)], .agg [.lit (.int .u8 0), .lit (.int .u8 0)], .agg [.lit (.int .u8 0), .lit (.int .u8 0)], .agg [.lit (.int .u8 0), .lit (.int .u8 0)], .agg [.lit (.int .u8 0), .lit (.int .u8 0)], .agg [.lit (.int .u8 0), .lit (.int .u8 0)], .agg [.lit (.int .u8 0), .lit (.int .u8 0)], .agg [.lit (.int .u8 0), .lit (.int .u8 0)], .agg [.lit (.int .u8 0), .lit (.int .u8 0)], .agg [.lit (.int .u8 0), .lit (.int .u8 0)], .agg [.lit (.int .u8 0), .lit (.int .u8 0)], .agg [.lit (.int .u8 0), .lit (.int .u8 0)]]
def laid_loop_example_mailwire_impl_monthNames {H : Type} : DataW H := .agg [.lit (.string [74, 97, 110]), .lit (.string [70, 101, 98]), .lit (.string [77, 97, 114]), .lit (.string [65, 112, 114]), .lit (.string [77, 97, 121]), .lit (.string [74, 117, 110]), .lit (.string [74, 117, 108]), .lit (.string [65, 117, 103]), .lit (.string [83, 101, 112]), .lit (.string [79, 99, 116]), .lit (.string [78, 111, 118]), .lit (.string [68, 101, 99])]
/-- One of Go's own tables, pinned by name: the form's constant. -/
def laid_unicode_utf8_first : DataW Unit := Go.Pinned.utf8First

/-- 'laws.FnScriptTrace': WHATEVER THE INPUT: true; the input reads as it did. -/
def fnScriptTraceSpec : ChangeSpec := { name := "fnScriptTrace", vars := ["loop.example/mailwire/impl.monthNames"], fn := fun _ => fun
  | [d, g1] => { results := [.lit (.bool true)], args := [d], vars := [g1] }
  | _ => none }
def fnScriptTraceRow : OpenClaim := { program := "ytaapfgpeeghmeaagreatdoor", sum := "7d2c5c95147f7b52c52b2d5b976e619de6cad29acbf7c6d45cd74375c5adae03", func := "loop.example/mailwire/laws.FnScriptTrace", spec := "fnScriptTrace", inPlace := ["internal/bytealg.CountString", "internal/bytealg.IndexByteString", "internal/bytealg.IndexString", "slices.overlaps[string]", "slices.overlaps[loop.example/mailwire/impl.Box]", "internal/abi.NoEscape", "internal/bytealg.MakeNoZero"], unfollowed := true, recurses := true, named := ["loop.example/mailwire/impl.monthNames", "unicode/utf8.first", "unicode/utf8.acceptRanges", "internal/bytealg.MaxLen"], apart := false, laid := [("unicode/utf8.acceptRanges", laid_unicode_utf8_acceptRanges), ("loop.example/mailwire/impl.monthNames", laid_loop_example_mailwire_impl_monthNames), ("unicode/utf8.first", laid_unicode_utf8_first)] }
def FnScriptTraceSaid : Prop := fnScriptTraceRow.holds Tryz.pinned (OpenSpec.ofChange fnScriptTraceSpec)

/-- ITS FALSE NEIGHBOUR: 'it returns false'. Refute it at one input. -/
def fnScriptTraceWrong : ChangeSpec := { name := "fnScriptTrace", vars := ["loop.example/mailwire/impl.monthNames"], fn := fun _ => fun
  | [d, g1] => { results := [.lit (.bool false)], args := [d], vars := [g1] }
  | _ => none }
def FnScriptTraceWrongFalsely : Prop := fnScriptTraceRow.holds Tryz.pinned (OpenSpec.ofChange fnScriptTraceWrong)

/-- 'laws.FnScriptMail': WHATEVER THE INPUT: true; the input reads as it did. -/
def fnScriptMailSpec : ChangeSpec := { name := "fnScriptMail", vars := ["loop.example/mailwire/impl.monthNames"], fn := fun _ => fun
  | [d, g1] => { results := [.lit (.bool true)], args := [d], vars := [g1] }
  | _ => none }
def fnScriptMailRow : OpenClaim := { program := "ytaapfgpeeghmeaagreatdoor", sum := "7d2c5c95147f7b52c52b2d5b976e619de6cad29acbf7c6d45cd74375c5adae03", func := "loop.example/mailwire/laws.FnScriptMail", spec := "fnScriptMail", inPlace := ["internal/bytealg.IndexByteString", "internal/bytealg.IndexString", "internal/bytealg.CountString", "slices.overlaps[string]", "slices.overlaps[loop.example/mailwire/impl.Box]", "internal/abi.NoEscape", "internal/bytealg.MakeNoZero"], unfollowed := true, recurses := true, named := ["internal/bytealg.MaxLen", "unicode/utf8.first", "unicode/utf8.acceptRanges", "loop.example/mailwire/impl.monthNames"], apart := false, laid := [("unicode/utf8.acceptRanges", laid_unicode_utf8_acceptRanges), ("loop.example/mailwire/impl.monthNames", laid_loop_example_mailwire_impl_monthNames), ("unicode/utf8.first", laid_unicode_utf8_first)] }
def FnScriptMailSaid : Prop := fnScriptMailRow.holds Tryz.pinned (OpenSpec.ofChange fnScriptMailSpec)

/-- ITS FALSE NEIGHBOUR: 'it returns false'. Refute it at one input. -/
def fnScriptMailWrong : ChangeSpec := { name := "fnScriptMail", vars := ["loop.example/mailwire/impl.monthNames"], fn := fun _ => fun
  | [d, g1] => { results := [.lit (.bool false)], args := [d], vars := [g1] }
  | _ => none }
def FnScriptMailWrongFalsely : Prop := fnScriptMailRow.holds Tryz.pinned (OpenSpec.ofChange fnScriptMailWrong)

/- THE SECOND FORM. 'bulk': how many values and letters a reading holds, each counted each time it is reached (what is shared counts as often as it is met; a slice's spare places count too). A statement '..UptoSaid' is the law's where the arguments, and the package variables that the reading takes, are together of bulk at most 1048576: NARROWER than '..Said'. Prove '..Said' where nothing that the law and all that it calls make is longer than what came in: it says more and counts as full. Else prove '..UptoSaid'. A law counts once. -/
mutual
def uptoBulk {H : Type} : DataW H → Nat
  | .lit (.string bytes) => bytes.length + 1
  | .lit _ => 1
  | .nil => 1
  | .ptr d => uptoBulk d + 1
  | .slice elems spare => uptoBulkAll elems + uptoBulkAll spare + 1
  | .agg parts => uptoBulkAll parts + 1
  | .iface _ d => uptoBulk d + 1
  | .map entries => uptoBulkEntries entries + 1
  | .held _ => 1
def uptoBulkAll {H : Type} : List (DataW H) → Nat
  | [] => 0
  | d :: r => uptoBulk d + uptoBulkAll r
def uptoBulkEntries {H : Type} : List (Lit × DataW H) → Nat
  | [] => 0
  | x :: r => uptoBulkEntry x + uptoBulkEntries r
def uptoBulkEntry {H : Type} : Lit × DataW H → Nat
  | (.string bytes, d) => bytes.length + uptoBulk d + 1
  | (_, d) => uptoBulk d + 1
 end
def uptoSmall : (H : Type) → List (DataW H) → Bool := fun _ ds => decide (uptoBulkAll ds ≤ 1048576)
def OpenSpec.upto (s : _root_.Go.ChangeSpec) : _root_.Go.OpenSpec := { _root_.Go.OpenSpec.ofChange s with cond := some uptoSmall }

/-- 'laws.FnScriptTrace', WHERE WHAT IT READS IS OF BULK AT MOST 1048576: true; the input reads as it did. -/
def fnScriptTraceUptoRow : OpenClaim := { program := "ytaapfgpeeghmeaagreatdoor", sum := "7d2c5c95147f7b52c52b2d5b976e619de6cad29acbf7c6d45cd74375c5adae03", func := "loop.example/mailwire/laws.FnScriptTrace", spec := "fnScriptTrace", inPlace := ["internal/bytealg.CountString", "internal/bytealg.IndexByteString", "internal/bytealg.IndexString", "slices.overlaps[string]", "slices.overlaps[loop.example/mailwire/impl.Box]", "internal/abi.NoEscape", "internal/bytealg.MakeNoZero"], unfollowed := true, recurses := true, named := ["loop.example/mailwire/impl.monthNames", "unicode/utf8.first", "unicode/utf8.acceptRanges", "internal/bytealg.MaxLen"], apart := false, laid := [("unicode/utf8.acceptRanges", laid_unicode_utf8_acceptRanges), ("loop.example/mailwire/impl.monthNames", laid_loop_example_mailwire_impl_monthNames), ("unicode/utf8.first", laid_unicode_utf8_first)], narrowed := true }
def FnScriptTraceUptoSaid : Prop := fnScriptTraceUptoRow.holds Tryz.pinned (OpenSpec.upto fnScriptTraceSpec)

/-- 'laws.FnScriptMail', WHERE WHAT IT READS IS OF BULK AT MOST 1048576: true; the input reads as it did. -/
def fnScriptMailUptoRow : OpenClaim := { program := "ytaapfgpeeghmeaagreatdoor", sum := "7d2c5c95147f7b52c52b2d5b976e619de6cad29acbf7c6d45cd74375c5adae03", func := "loop.example/mailwire/laws.FnScriptMail", spec := "fnScriptMail", inPlace := ["internal/bytealg.IndexByteString", "internal/bytealg.IndexString", "internal/bytealg.CountString", "slices.overlaps[string]", "slices.overlaps[loop.example/mailwire/impl.Box]", "internal/abi.NoEscape", "internal/bytealg.MakeNoZero"], unfollowed := true, recurses := true, named := ["internal/bytealg.MaxLen", "unicode/utf8.first", "unicode/utf8.acceptRanges", "loop.example/mailwire/impl.monthNames"], apart := false, laid := [("unicode/utf8.acceptRanges", laid_unicode_utf8_acceptRanges), ("loop.example/mailwire/impl.monthNames", laid_loop_example_mailwire_impl_monthNames), ("unicode/utf8.first", laid_unicode_utf8_first)], narrowed := true }
def FnScriptMailUptoSaid : Prop := fnScriptMailUptoRow.holds Tryz.pinned (OpenSpec.upto fnScriptMailSpec)

end Rows
end Go.Proofs.YtaapfgpeeghmeaaGreatDoor
