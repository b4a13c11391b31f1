/-
  NARROWER THAN 'FOR EVERY INPUT', by the rows' own cells (each row's printed sentence says how): FnTakeMail: laid · FnTakeOrder: laid · FnAddBox: laid · FnTraceDate: laid · FnHopsTrace: laid.
  DERIVED. THE GIVEN ROWS OF THIS SEAT. 5 by the template 'for every input the law returns true; each argument reads behind the call as it read before'; 0 by the template 'total and deterministic' (their statements: YtikpckcdpmjpgaaGreatDoorTotals.lean).
  GIVEN WITH THE SEED: the statements are not yours to turn. If you find one false, say at which input.
  Laid BY PROGRAM, IN A SANDBOX (cutbox-rows.mjs): the forced cells as the released guide's own fill.sh prints them over the translation ff533872e6071901… (all of the seat's roots in one cut). By AI agents, Wed Nov 11 2026. No macro, syntax, notation, axiom, sorry.
-/
import Derived.Test.YtikpckcdpmjpgaaGreatDoorChecked
import GoSem.PinnedTables
import GoSem.Claim
import GoSem.ClaimJoined
import GoSem.ClaimMapViews
import Derived.JoinedTies
import Derived.KernelRfl
namespace Go.Proofs.YtikpckcdpmjpgaaGreatDoor
/- THE CELL 'sum', in the pinned program and in every row, IS THE sha256 OF THE DUMP (.gsa) THAT YtikpckcdpmjpgaaGreatDoorProg.lean LOADS. Nothing in Lean hashes anything: it is a label: what it is worth is what the hold of that sum in a sandbox is worth. -/
noncomputable def Tryz.pinned : Pinned := { name := "ytikpckcdpmjpgaagreatdoor", sum := "ff533872e607190161b6bb3e4ace323353a610c0c471671ec254ca14c793cb5c", checked := Tryz.checked }
namespace Rows
def none {H : Type} : Left H := { results := [], args := [] }

/- WHAT THE LISTED PACKAGE-LEVEL VARIABLES READ AS WHEN THE CALL BEGINS. Each datum BY PROGRAM (the guide's laid-datum.mjs) off the statement by which the dump's own 'gosem.cut.vars' lays the variable. In a bare row this is a premise. The card (YtikpckcdpmjpgaaGreatDoorCards.lean) ties it to the program's text. -/
def laid_unicode_utf8_acceptRanges {H : Type} : DataW H := .agg [.agg [.lit (.int .u8 128), .lit (.int .u8 191)], .agg [.lit (.int .u8 160), .lit (.int .u8 191)], .agg [.lit (.int .u8 128), .lit (.int .u8 159)], .agg [.lit (.int .u8 144), .lit (.int .u8 191)], .agg [.lit (.int .u8 128), .lit (.int .u8 143)], .agg [.lit (.int .u8 0), .lit (.int .u8 0)], .agg [.lit (.int .u8 0), .lit (.int .u8 0)], .agg [.lit (.int .u8 0), .lit (.int .u8 0)], .agg [.lit (.int .u8 0), .lit (.int .u8 0)], .agg [.lit (.int .u8 0), .lit (.int .u8 0)], .agg [.lit (.int .u8 0), .lit (.int .u8 0)], .agg [.lit (.int .u8 0), .lit (.int .u8 0)], .agg [.lit (.int .u8 0), .lit (.int .u8 0)], .agg [.lit (.int .u8 0), .lit (.int .u8 0)], .agg [.lit (.int .u8 0), .lit (.int .u8 0)], .agg [.lit (.int .u8 0), .lit (.int .u8 0)]]
/-- One of Go's own tables, pinned by name: the form's constant. -/
def laid_unicode_utf8_first : DataW Unit := Go.Pinned.utf8First
def laid_loop_example_mailwire_impl_monthNames {H : Type} : DataW H := .agg [.lit (.string [74, 97, 110]), .lit (.string [70, 101, 98]), .lit (.string [77, 97, 114]), .lit (.string [65, 112, 114]), .lit (.string [77, 97, 121]), .lit (.string [74, 117, 110]), .lit (.string [74, 117, 108]), .lit (.string [65, 117, 103]), .lit (.string [83, 101, 112]), .lit (.string [79, 99, 116]), .lit (.string [78, 111, 118]), .lit (.string [68, 101, 99])]

/-- 'laws.FnTakeMail': WHATEVER THE INPUT: true; the input reads as it did. -/
def fnTakeMailSpec : ChangeSpec := { name := "fnTakeMail", fn := fun _ => fun
  | [d] => { results := [.lit (.bool true)], args := [d] }
  | _ => none }
def fnTakeMailRow : OpenClaim := { program := "ytikpckcdpmjpgaagreatdoor", sum := "ff533872e607190161b6bb3e4ace323353a610c0c471671ec254ca14c793cb5c", func := "loop.example/mailwire/laws.FnTakeMail", spec := "fnTakeMail", inPlace := ["internal/bytealg.IndexByteString", "internal/bytealg.IndexString", "internal/bytealg.CountString"], unfollowed := true, recurses := true, named := ["internal/bytealg.MaxLen", "unicode/utf8.first", "unicode/utf8.acceptRanges"], apart := false, laid := [("unicode/utf8.acceptRanges", laid_unicode_utf8_acceptRanges), ("unicode/utf8.first", laid_unicode_utf8_first)] }
def FnTakeMailSaid : Prop := fnTakeMailRow.holds Tryz.pinned (OpenSpec.ofChange fnTakeMailSpec)

/-- ITS FALSE NEIGHBOUR: 'it returns false'. Refute it at one input. -/
def fnTakeMailWrong : ChangeSpec := { name := "fnTakeMail", fn := fun _ => fun
  | [d] => { results := [.lit (.bool false)], args := [d] }
  | _ => none }
def FnTakeMailWrongFalsely : Prop := fnTakeMailRow.holds Tryz.pinned (OpenSpec.ofChange fnTakeMailWrong)

/-- 'laws.FnTakeOrder': WHATEVER THE INPUT: true; the input reads as it did. -/
def fnTakeOrderSpec : ChangeSpec := { name := "fnTakeOrder", fn := fun _ => fun
  | [d] => { results := [.lit (.bool true)], args := [d] }
  | _ => none }
def fnTakeOrderRow : OpenClaim := { program := "ytikpckcdpmjpgaagreatdoor", sum := "ff533872e607190161b6bb3e4ace323353a610c0c471671ec254ca14c793cb5c", func := "loop.example/mailwire/laws.FnTakeOrder", spec := "fnTakeOrder", inPlace := ["internal/bytealg.IndexByteString", "internal/bytealg.IndexString", "internal/bytealg.CountString"], unfollowed := true, recurses := true, named := ["internal/bytealg.MaxLen", "unicode/utf8.first", "unicode/utf8.acceptRanges"], apart := false, laid := [("unicode/utf8.acceptRanges", laid_unicode_utf8_acceptRanges), ("unicode/utf8.first", laid_unicode_utf8_first)] }
def FnTakeOrderSaid : Prop := fnTakeOrderRow.holds Tryz.pinned (OpenSpec.ofChange fnTakeOrderSpec)

/-- ITS FALSE NEIGHBOUR: 'it returns false'. Refute it at one input. -/
def fnTakeOrderWrong : ChangeSpec := { name := "fnTakeOrder", fn := fun _ => fun
  | [d] => { results := [.lit (.bool false)], args := [d] }
  | _ => none }
def FnTakeOrderWrongFalsely : Prop := fnTakeOrderRow.holds Tryz.pinned (OpenSpec.ofChange fnTakeOrderWrong)

/-- 'laws.FnAddBox': WHATEVER THE INPUT: true; the input reads as it did. -/
def fnAddBoxSpec : ChangeSpec := { name := "fnAddBox", fn := fun _ => fun
  | [d] => { results := [.lit (.bool true)], args := [d] }
  | _ => none }
def fnAddBoxRow : OpenClaim := { program := "ytikpckcdpmjpgaagreatdoor", sum := "ff533872e607190161b6bb3e4ace323353a610c0c471671ec254ca14c793cb5c", func := "loop.example/mailwire/laws.FnAddBox", spec := "fnAddBox", inPlace := ["internal/bytealg.IndexByteString", "internal/bytealg.IndexString", "internal/bytealg.CountString", "slices.overlaps[loop.example/mailwire/impl.Box]"], unfollowed := true, recurses := true, named := ["internal/bytealg.MaxLen", "unicode/utf8.first", "unicode/utf8.acceptRanges"], apart := false, laid := [("unicode/utf8.acceptRanges", laid_unicode_utf8_acceptRanges), ("unicode/utf8.first", laid_unicode_utf8_first)] }
def FnAddBoxSaid : Prop := fnAddBoxRow.holds Tryz.pinned (OpenSpec.ofChange fnAddBoxSpec)

/-- ITS FALSE NEIGHBOUR: 'it returns false'. Refute it at one input. -/
def fnAddBoxWrong : ChangeSpec := { name := "fnAddBox", fn := fun _ => fun
  | [d] => { results := [.lit (.bool false)], args := [d] }
  | _ => none }
def FnAddBoxWrongFalsely : Prop := fnAddBoxRow.holds Tryz.pinned (OpenSpec.ofChange fnAddBoxWrong)

/-- 'laws.FnTraceDate': WHATEVER THE INPUT: true; the input reads as it did. -/
def fnTraceDateSpec : ChangeSpec := { name := "fnTraceDate", vars := ["loop.example/mailwire/impl.monthNames"], fn := fun _ => fun
  | [d, g1] => { results := [.lit (.bool true)], args := [d], vars := [g1] }
  | _ => none }
def fnTraceDateRow : OpenClaim := { program := "ytikpckcdpmjpgaagreatdoor", sum := "ff533872e607190161b6bb3e4ace323353a610c0c471671ec254ca14c793cb5c", func := "loop.example/mailwire/laws.FnTraceDate", spec := "fnTraceDate", inPlace := ["internal/bytealg.IndexByteString", "internal/bytealg.IndexString", "internal/bytealg.CountString", "slices.overlaps[string]"], unfollowed := true, recurses := true, named := ["internal/bytealg.MaxLen", "unicode/utf8.first", "unicode/utf8.acceptRanges", "loop.example/mailwire/impl.monthNames"], apart := false, laid := [("unicode/utf8.acceptRanges", laid_unicode_utf8_acceptRanges), ("loop.example/mailwire/impl.monthNames", laid_loop_example_mailwire_impl_monthNames), ("unicode/utf8.first", laid_unicode_utf8_first)] }
def FnTraceDateSaid : Prop := fnTraceDateRow.holds Tryz.pinned (OpenSpec.ofChange fnTraceDateSpec)

/-- ITS FALSE NEIGHBOUR: 'it returns false'. Refute it at one input. -/
def fnTraceDateWrong : ChangeSpec := { name := "fnTraceDate", vars := ["loop.example/mailwire/impl.monthNames"], fn := fun _ => fun
  | [d, g1] => { results := [.lit (.bool false)], args := [d], vars := [g1] }
  | _ => none }
def FnTraceDateWrongFalsely : Prop := fnTraceDateRow.holds Tryz.pinned (OpenSpec.ofChange fnTraceDateWrong)

/-- 'laws.FnHopsTrace': WHATEVER THE INPUT: true; the input reads as it did. -/
def fnHopsTraceSpec : ChangeSpec := { name := "fnHopsTrace", vars := ["loop.example/mailwire/impl.monthNames"], fn := fun _ => fun
  | [d, g1] => { results := [.lit (.bool true)], args := [d], vars := [g1] }
  | _ => none }
def fnHopsTraceRow : OpenClaim := { program := "ytikpckcdpmjpgaagreatdoor", sum := "ff533872e607190161b6bb3e4ace323353a610c0c471671ec254ca14c793cb5c", func := "loop.example/mailwire/laws.FnHopsTrace", spec := "fnHopsTrace", inPlace := ["internal/bytealg.IndexByteString", "internal/bytealg.IndexString", "internal/bytealg.CountString", "slices.overlaps[string]"], unfollowed := true, recurses := true, named := ["internal/bytealg.MaxLen", "unicode/utf8.first", "unicode/utf8.acceptRanges", "loop.example/mailwire/impl.monthNames"], apart := false, laid := [("unicode/utf8.acceptRanges", laid_unicode_utf8_acceptRanges), ("loop.example/mailwire/impl.monthNames", laid_loop_example_mailwire_impl_monthNames), ("unicode/utf8.first", laid_unicode_utf8_first)] }
def FnHopsTraceSaid : Prop := fnHopsTraceRow.holds Tryz.pinned (OpenSpec.ofChange fnHopsTraceSpec)

/-- ITS FALSE NEIGHBOUR: 'it returns false'. Refute it at one input. -/
def fnHopsTraceWrong : ChangeSpec := { name := "fnHopsTrace", vars := ["loop.example/mailwire/impl.monthNames"], fn := fun _ => fun
  | [d, g1] => { results := [.lit (.bool false)], args := [d], vars := [g1] }
  | _ => none }
def FnHopsTraceWrongFalsely : Prop := fnHopsTraceRow.holds Tryz.pinned (OpenSpec.ofChange fnHopsTraceWrong)

/- THE SECOND FORM. 'bulk': how many values and letters a reading holds, each counted each time it is reached (what is shared counts as often as it is met; a slice's spare places count too). A statement '..UptoSaid' is the law's where the arguments, and the package variables that the reading takes, are together of bulk at most 1048576: NARROWER than '..Said'. Prove '..Said' where nothing that the law and all that it calls make is longer than what came in: it says more and counts as full. Else prove '..UptoSaid'. A law counts once. -/
mutual
def uptoBulk {H : Type} : DataW H → Nat
  | .lit (.string bytes) => bytes.length + 1
  | .lit _ => 1
  | .nil => 1
  | .ptr d => uptoBulk d + 1
  | .slice elems spare => uptoBulkAll elems + uptoBulkAll spare + 1
  | .agg parts => uptoBulkAll parts + 1
  | .iface _ d => uptoBulk d + 1
  | .map entries => uptoBulkEntries entries + 1
  | .held _ => 1
def uptoBulkAll {H : Type} : List (DataW H) → Nat
  | [] => 0
  | d :: r => uptoBulk d + uptoBulkAll r
def uptoBulkEntries {H : Type} : List (Lit × DataW H) → Nat
  | [] => 0
  | x :: r => uptoBulkEntry x + uptoBulkEntries r
def uptoBulkEntry {H : Type} : Lit × DataW H → Nat
  | (.string bytes, d) => bytes.length + uptoBulk d + 1
  | (_, d) => uptoBulk d + 1
 end
def uptoSmall : (H : Type) → List (DataW H) → Bool := fun _ ds => decide (uptoBulkAll ds ≤ 1048576)
def OpenSpec.upto (s : _root_.Go.ChangeSpec) : _root_.Go.OpenSpec := { _root_.Go.OpenSpec.ofChange s with cond := some uptoSmall }

/-- 'laws.FnTakeMail', WHERE WHAT IT READS IS OF BULK AT MOST 1048576: true; the input reads as it did. -/
def fnTakeMailUptoRow : OpenClaim := { program := "ytikpckcdpmjpgaagreatdoor", sum := "ff533872e607190161b6bb3e4ace323353a610c0c471671ec254ca14c793cb5c", func := "loop.example/mailwire/laws.FnTakeMail", spec := "fnTakeMail", inPlace := ["internal/bytealg.IndexByteString", "internal/bytealg.IndexString", "internal/bytealg.CountString"], unfollowed := true, recurses := true, named := ["internal/bytealg.MaxLen", "unicode/utf8.first", "unicode/utf8.acceptRanges"], apart := false, laid := [("unicode/utf8.acceptRanges", laid_unicode_utf8_acceptRanges), ("unicode/utf8.first", laid_unicode_utf8_first)], narrowed := true }
def FnTakeMailUptoSaid : Prop := fnTakeMailUptoRow.holds Tryz.pinned (OpenSpec.upto fnTakeMailSpec)

/-- 'laws.FnTakeOrder', WHERE WHAT IT READS IS OF BULK AT MOST 1048576: true; the input reads as it did. -/
def fnTakeOrderUptoRow : OpenClaim := { program := "ytikpckcdpmjpgaagreatdoor", sum := "ff533872e607190161b6bb3e4ace323353a610c0c471671ec254ca14c793cb5c", func := "loop.example/mailwire/laws.FnTakeOrder", spec := "fnTakeOrder", inPlace := ["internal/bytealg.IndexByteString", "internal/bytealg.IndexString", "internal/bytealg.CountString"], unfollowed := true, recurses := true, named := ["internal/bytealg.MaxLen", "unicode/utf8.first", "unicode/utf8.acceptRanges"], apart := false, laid := [("unicode/utf8.acceptRanges", laid_unicode_utf8_acceptRanges), ("unicode/utf8.first", laid_unicode_utf8_first)], narrowed := true }
def FnTakeOrderUptoSaid : Prop := fnTakeOrderUptoRow.holds Tryz.pinned (OpenSpec.upto fnTakeOrderSpec)

/-- 'laws.FnAddBox', WHERE WHAT IT READS IS OF BULK AT MOST 1048576: true; the input reads as it did. -/
def fnAddBoxUptoRow : OpenClaim := { program := "ytikpckcdpmjpgaagreatdoor", sum := "ff533872e607190161b6bb3e4ace323353a610c0c471671ec254ca14c793cb5c", func := "loop.example/mailwire/laws.FnAddBox", spec := "fnAddBox", inPlace := ["internal/bytealg.IndexByteString", "internal/bytealg.IndexString", "internal/bytealg.CountString", "slices.overlaps[loop.example/mailwire/impl.Box]"], unfollowed := true, recurses := true, named := ["internal/bytealg.MaxLen", "unicode/utf8.first", "unicode/utf8.acceptRanges"], apart := false, laid := [("unicode/utf8.acceptRanges", laid_unicode_utf8_acceptRanges), ("unicode/utf8.first", laid_unicode_utf8_first)], narrowed := true }
def FnAddBoxUptoSaid : Prop := fnAddBoxUptoRow.holds Tryz.pinned (OpenSpec.upto fnAddBoxSpec)

/-- 'laws.FnTraceDate', WHERE WHAT IT READS IS OF BULK AT MOST 1048576: true; the input reads as it did. -/
def fnTraceDateUptoRow : OpenClaim := { program := "ytikpckcdpmjpgaagreatdoor", sum := "ff533872e607190161b6bb3e4ace323353a610c0c471671ec254ca14c793cb5c", func := "loop.example/mailwire/laws.FnTraceDate", spec := "fnTraceDate", inPlace := ["internal/bytealg.IndexByteString", "internal/bytealg.IndexString", "internal/bytealg.CountString", "slices.overlaps[string]"], unfollowed := true, recurses := true, named := ["internal/bytealg.MaxLen", "unicode/utf8.first", "unicode/utf8.acceptRanges", "loop.example/mailwire/impl.monthNames"], apart := false, laid := [("unicode/utf8.acceptRanges", laid_unicode_utf8_acceptRanges), ("loop.example/mailwire/impl.monthNames", laid_loop_example_mailwire_impl_monthNames), ("unicode/utf8.first", laid_unicode_utf8_first)], narrowed := true }
def FnTraceDateUptoSaid : Prop := fnTraceDateUptoRow.holds Tryz.pinned (OpenSpec.upto fnTraceDateSpec)

/-- 'laws.FnHopsTrace', WHERE WHAT IT READS IS OF BULK AT MOST 1048576: true; the input reads as it did. -/
def fnHopsTraceUptoRow : OpenClaim := { program := "ytikpckcdpmjpgaagreatdoor", sum := "ff533872e607190161b6bb3e4ace323353a610c0c471671ec254ca14c793cb5c", func := "loop.example/mailwire/laws.FnHopsTrace", spec := "fnHopsTrace", inPlace := ["internal/bytealg.IndexByteString", "internal/bytealg.IndexString", "internal/bytealg.CountString", "slices.overlaps[string]"], unfollowed := true, recurses := true, named := ["internal/bytealg.MaxLen", "unicode/utf8.first", "unicode/utf8.acceptRanges", "loop.example/mailwire/impl.monthNames"], apart := false, laid := [("unicode/utf8.acceptRanges", laid_unicode_utf8_acceptRanges), ("loop.example/mailwire/impl.monthNames", laid_loop_example_mailwire_impl_monthNames), ("unicode/utf8.first", laid_unicode_utf8_first)], narrowed := true }
def FnHopsTraceUptoSaid : Prop := fnHopsTraceUptoRow.holds Tryz.pinned (OpenSpec.upto fnHopsTraceSpec)

end Rows
end Go.Proofs.YtikpckcdpmjpgaaGreatDoor
