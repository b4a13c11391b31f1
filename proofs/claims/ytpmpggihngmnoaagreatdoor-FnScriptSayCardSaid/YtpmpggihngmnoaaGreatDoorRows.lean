/-
  NARROWER THAN 'FOR EVERY INPUT', by the rows' own cells (each row's printed sentence says how): FnTraceDate: laid · FnHopsTrace: laid · FnTraceMail: laid · FnScriptBox: laid · FnScriptReturn: laid · FnScriptSay: laid.
  DERIVED. THE GIVEN ROWS OF THIS SEAT. 6 by the template 'for every input the law returns true; each argument reads behind the call as it read before'; 0 by the template 'total and deterministic' (their statements: YtpmpggihngmnoaaGreatDoorTotals.lean).
  GIVEN WITH THE SEED: the statements are not yours to turn. If you find one false, say at which input.
  Laid BY PROGRAM, IN A SANDBOX (cutbox-rows.mjs): the forced cells as the released guide's own fill.sh prints them over the translation b35e15140e0a0644… (all of the seat's roots in one cut). By AI agents, Wed Nov 11 2026. No macro, syntax, notation, axiom, sorry.
-/
import Derived.Test.YtpmpggihngmnoaaGreatDoorChecked
import GoSem.PinnedTables
import GoSem.Claim
import GoSem.ClaimJoined
import GoSem.ClaimMapViews
import Derived.JoinedTies
import Derived.KernelRfl
namespace Go.Proofs.YtpmpggihngmnoaaGreatDoor
/- THE CELL 'sum', in the pinned program and in every row, IS THE sha256 OF THE DUMP (.gsa) THAT YtpmpggihngmnoaaGreatDoorProg.lean LOADS. Nothing in Lean hashes anything: it is a label: what it is worth is what the hold of that sum in a sandbox is worth. -/
noncomputable def Tryz.pinned : Pinned := { name := "ytpmpggihngmnoaagreatdoor", sum := "b35e15140e0a0644ddce16d70f9b0defab183e8f3d977b171185b62064234023", checked := Tryz.checked }
namespace Rows
def none {H : Type} : Left H := { results := [], args := [] }

/- WHAT THE LISTED PACKAGE-LEVEL VARIABLES READ AS WHEN THE CALL BEGINS. Each datum BY PROGRAM (the guide's laid-datum.mjs) off the statement by which the dump's own 'gosem.cut.vars' lays the variable. In a bare row this is a premise. The card (YtpmpggihngmnoaaGreatDoorCards.lean) ties it to the program's text. -/
def laid_unicode_utf8_acceptRanges {H : Type} : DataW H := .agg [.agg [.lit (.int .u8 128), .lit (.int .u8 191)], .agg [.lit (.int .u8 160), .lit (.int .u8 191)], .agg [.lit (.int .u8 128), .lit (.int .u8 159)], .agg [.lit (.int .u8 144), .lit (.int .u8 191)], .agg [.lit (.int .u8 128), .lit (.int .u8 143)], .agg [.lit (.int .u8 0), .lit (.int .u8 0)], .agg [.lit (.int .u8 0), .lit (.int .u8 0)], .agg [.lit (.int .u8 0), .lit (.int .u8 0)], .agg [.lit (.int .u8 0), .lit (.int .u8 0)], .agg [.lit (.int .u8 0), .lit (.int .u8 0)], .agg [.lit (.int .u8 0), .lit (.int .u8 0)], .agg [.lit (.int .u8 0), .lit (.int .u8 0)], .agg [.lit (.int .u8 0), .lit (.int .u8 0)], .agg [.lit (.int .u8 0), .lit (.int .u8 0)], .agg [.lit (.int .u8 0), .lit (.int .u8 0)], .agg [.lit (.int .u8 0), .lit (.int .u8 0)]]
def laid_loop_example_mailwire_impl_monthNames {H : Type} : DataW H := .agg [.lit (.string [74, 97, 110]), .lit (.string [70, 101, 98]), .lit (.string [77, 97, 114]), .lit (.string [65, 112, 114]), .lit (.string [77, 97, 121]), .lit (.string [74, 117, 110]), .lit (.string [74, 117, 108]), .lit (.string [65, 117, 103]), .lit (.string [83, 101, 112]), .lit (.string [79, 99, 116]), .lit (.string [78, 111, 118]), .lit (.string [68, 101, 99])]
/-- One of Go's own tables, pinned by name: the form's constant. -/
def laid_unicode_utf8_first : DataW Unit := Go.Pinned.utf8First

/-- 'laws.FnTraceDate': WHATEVER THE INPUT: true; the input reads as it did. -/
def fnTraceDateSpec : ChangeSpec := { name := "fnTraceDate", vars := ["loop.example/mailwire/impl.monthNames"], fn := fun _ => fun
  | [d, g1] => { results := [.lit (.bool true)], args := [d], vars := [g1] }
  | _ => none }
def fnTraceDateRow : OpenClaim := { program := "ytpmpggihngmnoaagreatdoor", sum := "b35e15140e0a0644ddce16d70f9b0defab183e8f3d977b171185b62064234023", func := "loop.example/mailwire/laws.FnTraceDate", spec := "fnTraceDate", inPlace := ["internal/bytealg.IndexByteString", "internal/bytealg.IndexString", "internal/bytealg.CountString", "slices.overlaps[string]"], unfollowed := true, recurses := true, named := ["internal/bytealg.MaxLen", "unicode/utf8.first", "unicode/utf8.acceptRanges", "loop.example/mailwire/impl.monthNames"], apart := false, laid := [("unicode/utf8.acceptRanges", laid_unicode_utf8_acceptRanges), ("loop.example/mailwire/impl.monthNames", laid_loop_example_mailwire_impl_monthNames), ("unicode/utf8.first", laid_unicode_utf8_first)] }
def FnTraceDateSaid : Prop := fnTraceDateRow.holds Tryz.pinned (OpenSpec.ofChange fnTraceDateSpec)

/-- ITS FALSE NEIGHBOUR: 'it returns false'. Refute it at one input. -/
def fnTraceDateWrong : ChangeSpec := { name := "fnTraceDate", vars := ["loop.example/mailwire/impl.monthNames"], fn := fun _ => fun
  | [d, g1] => { results := [.lit (.bool false)], args := [d], vars := [g1] }
  | _ => none }
def FnTraceDateWrongFalsely : Prop := fnTraceDateRow.holds Tryz.pinned (OpenSpec.ofChange fnTraceDateWrong)

/-- 'laws.FnHopsTrace': WHATEVER THE INPUT: true; the input reads as it did. -/
def fnHopsTraceSpec : ChangeSpec := { name := "fnHopsTrace", vars := ["loop.example/mailwire/impl.monthNames"], fn := fun _ => fun
  | [d, g1] => { results := [.lit (.bool true)], args := [d], vars := [g1] }
  | _ => none }
def fnHopsTraceRow : OpenClaim := { program := "ytpmpggihngmnoaagreatdoor", sum := "b35e15140e0a0644ddce16d70f9b0defab183e8f3d977b171185b62064234023", func := "loop.example/mailwire/laws.FnHopsTrace", spec := "fnHopsTrace", inPlace := ["internal/bytealg.IndexByteString", "internal/bytealg.IndexString", "internal/bytealg.CountString", "slices.overlaps[string]"], unfollowed := true, recurses := true, named := ["internal/bytealg.MaxLen", "unicode/utf8.first", "unicode/utf8.acceptRanges", "loop.example/mailwire/impl.monthNames"], apart := false, laid := [("unicode/utf8.acceptRanges", laid_unicode_utf8_acceptRanges), ("loop.example/mailwire/impl.monthNames", laid_loop_example_mailwire_impl_monthNames), ("unicode/utf8.first", laid_unicode_utf8_first)] }
def FnHopsTraceSaid : Prop := fnHopsTraceRow.holds Tryz.pinned (OpenSpec.ofChange fnHopsTraceSpec)

/-- ITS FALSE NEIGHBOUR: 'it returns false'. Refute it at one input. -/
def fnHopsTraceWrong : ChangeSpec := { name := "fnHopsTrace", vars := ["loop.example/mailwire/impl.monthNames"], fn := fun _ => fun
  | [d, g1] => { results := [.lit (.bool false)], args := [d], vars := [g1] }
  | _ => none }
def FnHopsTraceWrongFalsely : Prop := fnHopsTraceRow.holds Tryz.pinned (OpenSpec.ofChange fnHopsTraceWrong)

/-- 'laws.FnTraceMail': WHATEVER THE INPUT: true; the input reads as it did. -/
def fnTraceMailSpec : ChangeSpec := { name := "fnTraceMail", vars := ["loop.example/mailwire/impl.monthNames"], fn := fun _ => fun
  | [d, g1] => { results := [.lit (.bool true)], args := [d], vars := [g1] }
  | _ => none }
def fnTraceMailRow : OpenClaim := { program := "ytpmpggihngmnoaagreatdoor", sum := "b35e15140e0a0644ddce16d70f9b0defab183e8f3d977b171185b62064234023", func := "loop.example/mailwire/laws.FnTraceMail", spec := "fnTraceMail", inPlace := ["internal/bytealg.IndexByteString", "internal/bytealg.IndexString", "internal/bytealg.CountString", "slices.overlaps[string]"], unfollowed := true, recurses := true, named := ["internal/bytealg.MaxLen", "unicode/utf8.first", "unicode/utf8.acceptRanges", "loop.example/mailwire/impl.monthNames"], apart := false, laid := [("unicode/utf8.acceptRanges", laid_unicode_utf8_acceptRanges), ("loop.example/mailwire/impl.monthNames", laid_loop_example_mailwire_impl_monthNames), ("unicode/utf8.first", laid_unicode_utf8_first)] }
def FnTraceMailSaid : Prop := fnTraceMailRow.holds Tryz.pinned (OpenSpec.ofChange fnTraceMailSpec)

/-- ITS FALSE NEIGHBOUR: 'it returns false'. Refute it at one input. -/
def fnTraceMailWrong : ChangeSpec := { name := "fnTraceMail", vars := ["loop.example/mailwire/impl.monthNames"], fn := fun _ => fun
  | [d, g1] => { results := [.lit (.bool false)], args := [d], vars := [g1] }
  | _ => none }
def FnTraceMailWrongFalsely : Prop := fnTraceMailRow.holds Tryz.pinned (OpenSpec.ofChange fnTraceMailWrong)

/-- 'laws.FnScriptBox': WHATEVER THE INPUT: true; the input reads as it did. -/
def fnScriptBoxSpec : ChangeSpec := { name := "fnScriptBox", vars := ["loop.example/mailwire/impl.monthNames"], fn := fun _ => fun
  | [d, g1] => { results := [.lit (.bool true)], args := [d], vars := [g1] }
  | _ => none }
def fnScriptBoxRow : OpenClaim := { program := "ytpmpggihngmnoaagreatdoor", sum := "b35e15140e0a0644ddce16d70f9b0defab183e8f3d977b171185b62064234023", func := "loop.example/mailwire/laws.FnScriptBox", spec := "fnScriptBox", inPlace := ["internal/bytealg.IndexByteString", "internal/bytealg.IndexString", "internal/bytealg.CountString", "slices.overlaps[loop.example/mailwire/impl.Box]", "slices.overlaps[string]", "internal/abi.NoEscape", "internal/bytealg.MakeNoZero"], unfollowed := true, recurses := true, named := ["internal/bytealg.MaxLen", "unicode/utf8.first", "unicode/utf8.acceptRanges", "loop.example/mailwire/impl.monthNames"], apart := false, laid := [("unicode/utf8.acceptRanges", laid_unicode_utf8_acceptRanges), ("loop.example/mailwire/impl.monthNames", laid_loop_example_mailwire_impl_monthNames), ("unicode/utf8.first", laid_unicode_utf8_first)] }
def FnScriptBoxSaid : Prop := fnScriptBoxRow.holds Tryz.pinned (OpenSpec.ofChange fnScriptBoxSpec)

/-- ITS FALSE NEIGHBOUR: 'it returns false'. Refute it at one input. -/
def fnScriptBoxWrong : ChangeSpec := { name := "fnScriptBox", vars := ["loop.example/mailwire/impl.monthNames"], fn := fun _ => fun
  | [d, g1] => { results := [.lit (.bool false)], args := [d], vars := [g1] }
  | _ => none }
def FnScriptBoxWrongFalsely : Prop := fnScriptBoxRow.holds Tryz.pinned (OpenSpec.ofChange fnScriptBoxWrong)

/-- 'laws.FnScriptReturn': WHATEVER THE INPUT: true; the input reads as it did. -/
def fnScriptReturnSpec : ChangeSpec := { name := "fnScriptReturn", vars := ["loop.example/mailwire/impl.monthNames"], fn := fun _ => fun
  | [d1, d2, g1] => { results := [.lit (.bool true)], args := [d1, d2], vars := [g1] }
  | _ => none }
def fnScriptReturnRow : OpenClaim := { program := "ytpmpggihngmnoaagreatdoor", sum := "b35e15140e0a0644ddce16d70f9b0defab183e8f3d977b171185b62064234023", func := "loop.example/mailwire/laws.FnScriptReturn", spec := "fnScriptReturn", inPlace := ["internal/bytealg.IndexByteString", "internal/bytealg.IndexString", "internal/bytealg.CountString", "slices.overlaps[string]", "slices.overlaps[loop.example/mailwire/impl.Box]", "internal/abi.NoEscape", "internal/bytealg.MakeNoZero"], unfollowed := true, recurses := true, named := ["internal/bytealg.MaxLen", "unicode/utf8.first", "unicode/utf8.acceptRanges", "loop.example/mailwire/impl.monthNames"], apart := false, laid := [("unicode/utf8.acceptRanges", laid_unicode_utf8_acceptRanges), ("loop.example/mailwire/impl.monthNames", laid_loop_example_mailwire_impl_monthNames), ("unicode/utf8.first", laid_unicode_utf8_first)] }
def FnScriptReturnSaid : Prop := fnScriptReturnRow.holds Tryz.pinned (OpenSpec.ofChange fnScriptReturnSpec)

/-- ITS FALSE NEIGHBOUR: 'it returns false'. Refute it at one input. -/
def fnScriptReturnWrong : ChangeSpec := { name := "fnScriptReturn", vars := ["loop.example/mailwire/impl.monthNames"], fn := fun _ => fun
  | [d1, d2, g1] => { results := [.lit (.bool false)], args := [d1, d2], vars := [g1] }
  | _ => none }
def FnScriptReturnWrongFalsely : Prop := fnScriptReturnRow.holds Tryz.pinned (OpenSpec.ofChange fnScriptReturnWrong)

/-- 'laws.FnScriptSay': WHATEVER THE INPUT: true; the input reads as it did. -/
def fnScriptSaySpec : ChangeSpec := { name := "fnScriptSay", vars := ["loop.example/mailwire/impl.monthNames"], fn := fun _ => fun
  | [d, g1] => { results := [.lit (.bool true)], args := [d], vars := [g1] }
  | _ => none }
def fnScriptSayRow : OpenClaim := { program := "ytpmpggihngmnoaagreatdoor", sum := "b35e15140e0a0644ddce16d70f9b0defab183e8f3d977b171185b62064234023", func := "loop.example/mailwire/laws.FnScriptSay", spec := "fnScriptSay", inPlace := ["internal/bytealg.IndexByteString", "internal/bytealg.IndexString", "internal/bytealg.CountString", "slices.overlaps[string]", "slices.overlaps[loop.example/mailwire/impl.Box]", "internal/abi.NoEscape", "internal/bytealg.MakeNoZero"], unfollowed := true, recurses := true, named := ["internal/bytealg.MaxLen", "unicode/utf8.first", "unicode/utf8.acceptRanges", "loop.example/mailwire/impl.monthNames"], apart := false, laid := [("unicode/utf8.acceptRanges", laid_unicode_utf8_acceptRanges), ("loop.example/mailwire/impl.monthNames", laid_loop_example_mailwire_impl_monthNames), ("unicode/utf8.first", laid_unicode_utf8_first)] }
def FnScriptSaySaid : Prop := fnScriptSayRow.holds Tryz.pinned (OpenSpec.ofChange fnScriptSaySpec)

/-- ITS FALSE NEIGHBOUR: 'it returns false'. Refute it at one input. -/
def fnScriptSayWrong : ChangeSpec := { name := "fnScriptSay", vars := ["loop.example/mailwire/impl.monthNames"], fn := fun _ => fun
  | [d, g1] => { results := [.lit (.bool false)], args := [d], vars := [g1] }
  | _ => none }
def FnScriptSayWrongFalsely : Prop := fnScriptSayRow.holds Tryz.pinned (OpenSpec.ofChange fnScriptSayWrong)

/- THE SECOND FORM. 'bulk': how many values and letters a reading holds, each counted each time it is reached (what is shared counts as often as it is met; a slice's spare places count too). A statement '..UptoSaid' is the law's where the arguments, and the package variables that the reading takes, are together of bulk at most 1048576: NARROWER than '..Said'. Prove '..Said' where nothing that the law and all that it calls make is longer than what came in: it says more and counts as full. Else prove '..UptoSaid'. A law counts once. -/
mutual
def uptoBulk {H : Type} : DataW H → Nat
  | .lit (.string bytes) => bytes.length + 1
  | .lit _ => 1
  | .nil => 1
  | .ptr d => uptoBulk d + 1
  | .slice elems spare => uptoBulkAll elems + uptoBulkAll spare + 1
  | .agg parts => uptoBulkAll parts + 1
  | .iface _ d => uptoBulk d + 1
  | .map entries => uptoBulkEntries entries + 1
  | .held _ => 1
def uptoBulkAll {H : Type} : List (DataW H) → Nat
  | [] => 0
  | d :: r => uptoBulk d + uptoBulkAll r
def uptoBulkEntries {H : Type} : List (Lit × DataW H) → Nat
  | [] => 0
  | x :: r => uptoBulkEntry x + uptoBulkEntries r
def uptoBulkEntry {H : Type} : Lit × DataW H → Nat
  | (.string bytes, d) => bytes.length + uptoBulk d + 1
  | (_, d) => uptoBulk d + 1
 end
def uptoSmall : (H : Type) → List (DataW H) → Bool := fun _ ds => decide (uptoBulkAll ds ≤ 1048576)
def OpenSpec.upto (s : _root_.Go.ChangeSpec) : _root_.Go.OpenSpec := { _root_.Go.OpenSpec.ofChange s with cond := some uptoSmall }

/-- 'laws.FnTraceDate', WHERE WHAT IT READS IS OF BULK AT MOST 1048576: true; the input reads as it did. -/
def fnTraceDateUptoRow : OpenClaim := { program := "ytpmpggihngmnoaagreatdoor", sum := "b35e15140e0a0644ddce16d70f9b0defab183e8f3d977b171185b62064234023", func := "loop.example/mailwire/laws.FnTraceDate", spec := "fnTraceDate", inPlace := ["internal/bytealg.IndexByteString", "internal/bytealg.IndexString", "internal/bytealg.CountString", "slices.overlaps[string]"], unfollowed := true, recurses := true, named := ["internal/bytealg.MaxLen", "unicode/utf8.first", "unicode/utf8.acceptRanges", "loop.example/mailwire/impl.monthNames"], apart := false, laid := [("unicode/utf8.acceptRanges", laid_unicode_utf8_acceptRanges), ("loop.example/mailwire/impl.monthNames", laid_loop_example_mailwire_impl_monthNames), ("unicode/utf8.first", laid_unicode_utf8_first)], narrowed := true }
def FnTraceDateUptoSaid : Prop := fnTraceDateUptoRow.holds Tryz.pinned (OpenSpec.upto fnTraceDateSpec)

/-- 'laws.FnHopsTrace', WHERE WHAT IT READS IS OF BULK AT MOST 1048576: true; the input reads as it did. -/
def fnHopsTraceUptoRow : OpenClaim := { program := "ytpmpggihngmnoaagreatdoor", sum := "b35e15140e0a0644ddce16d70f9b0defab183e8f3d977b171185b62064234023", func := "loop.example/mailwire/laws.FnHopsTrace", spec := "fnHopsTrace", inPlace := ["internal/bytealg.IndexByteString", "internal/bytealg.IndexString", "internal/bytealg.CountString", "slices.overlaps[string]"], unfollowed := true, recurses := true, named := ["internal/bytealg.MaxLen", "unicode/utf8.first", "unicode/utf8.acceptRanges", "loop.example/mailwire/impl.monthNames"], apart := false, laid := [("unicode/utf8.acceptRanges", laid_unicode_utf8_acceptRanges), ("loop.example/mailwire/impl.monthNames", laid_loop_example_mailwire_impl_monthNames), ("unicode/utf8.first", laid_unicode_utf8_first)], narrowed := true }
def FnHopsTraceUptoSaid : Prop := fnHopsTraceUptoRow.holds Tryz.pinned (OpenSpec.upto fnHopsTraceSpec)

/-- 'laws.FnTraceMail', WHERE WHAT IT READS IS OF BULK AT MOST 1048576: true; the input reads as it did. -/
def fnTraceMailUptoRow : OpenClaim := { program := "ytpmpggihngmnoaagreatdoor", sum := "b35e15140e0a0644ddce16d70f9b0defab183e8f3d977b171185b62064234023", func := "loop.example/mailwire/laws.FnTraceMail", spec := "fnTraceMail", inPlace := ["internal/bytealg.IndexByteString", "internal/bytealg.IndexString", "internal/bytealg.CountString", "slices.overlaps[string]"], unfollowed := true, recurses := true, named := ["internal/bytealg.MaxLen", "unicode/utf8.first", "unicode/utf8.acceptRanges", "loop.example/mailwire/impl.monthNames"], apart := false, laid := [("unicode/utf8.acceptRanges", laid_unicode_utf8_acceptRanges), ("loop.example/mailwire/impl.monthNames", laid_loop_example_mailwire_impl_monthNames), ("unicode/utf8.first", laid_unicode_utf8_first)], narrowed := true }
def FnTraceMailUptoSaid : Prop := fnTraceMailUptoRow.holds Tryz.pinned (OpenSpec.upto fnTraceMailSpec)

/-- 'laws.FnScriptBox', WHERE WHAT IT READS IS OF BULK AT MOST 1048576: true; the input reads as it did. -/
def fnScriptBoxUptoRow : OpenClaim := { program := "ytpmpggihngmnoaagreatdoor", sum := "b35e15140e0a0644ddce16d70f9b0defab183e8f3d977b171185b62064234023", func := "loop.example/mailwire/laws.FnScriptBox", spec := "fnScriptBox", inPlace := ["internal/bytealg.IndexByteString", "internal/bytealg.IndexString", "internal/bytealg.CountString", "slices.overlaps[loop.example/mailwire/impl.Box]", "slices.overlaps[string]", "internal/abi.NoEscape", "internal/bytealg.MakeNoZero"], unfollowed := true, recurses := true, named := ["internal/bytealg.MaxLen", "unicode/utf8.first", "unicode/utf8.acceptRanges", "loop.example/mailwire/impl.monthNames"], apart := false, laid := [("unicode/utf8.acceptRanges", laid_unicode_utf8_acceptRanges), ("loop.example/mailwire/impl.monthNames", laid_loop_example_mailwire_impl_monthNames), ("unicode/utf8.first", laid_unicode_utf8_first)], narrowed := true }
def FnScriptBoxUptoSaid : Prop := fnScriptBoxUptoRow.holds Tryz.pinned (OpenSpec.upto fnScriptBoxSpec)

/-- 'laws.FnScriptReturn', WHERE WHAT IT READS IS OF BULK AT MOST 1048576: true; the input reads as it did. -/
def fnScriptReturnUptoRow : OpenClaim := { program := "ytpmpggihngmnoaagreatdoor", sum := "b35e15140e0a0644ddce16d70f9b0defab183e8f3d977b171185b62064234023", func := "loop.example/mailwire/laws.FnScriptReturn", spec := "fnScriptReturn", inPlace := ["internal/bytealg.IndexByteString", "internal/bytealg.IndexString", "internal/bytealg.CountString", "slices.overlaps[string]", "slices.overlaps[loop.example/mailwire/impl.Box]", "internal/abi.NoEscape", "internal/bytealg.MakeNoZero"], unfollowed := true, recurses := true, named := ["internal/bytealg.MaxLen", "unicode/utf8.first", "unicode/utf8.acceptRanges", "loop.example/mailwire/impl.monthNames"], apart := false, laid := [("unicode/utf8.acceptRanges", laid_unicode_utf8_acceptRanges), ("loop.example/mailwire/impl.monthNames", laid_loop_example_mailwire_impl_monthNames), ("unicode/utf8.first", laid_unicode_utf8_first)], narrowed := true }
def FnScriptReturnUptoSaid : Prop := fnScriptReturnUptoRow.holds Tryz.pinned (OpenSpec.upto fnScriptReturnSpec)

/-- 'laws.FnScriptSay', WHERE WHAT IT READS IS OF BULK AT MOST 1048576: true; the input reads as it did. -/
def fnScriptSayUptoRow : OpenClaim := { program := "ytpmpggihngmnoaagreatdoor", sum := "b35e15140e0a0644ddce16d70f9b0defab183e8f3d977b171185b62064234023", func := "loop.example/mailwire/laws.FnScriptSay", spec := "fnScriptSay", inPlace := ["internal/bytealg.IndexByteString", "internal/bytealg.IndexString", "internal/bytealg.CountString", "slices.overlaps[string]", "slices.overlaps[loop.example/mailwire/impl.Box]", "internal/abi.NoEscape", "internal/bytealg.MakeNoZero"], unfollowed := true, recurses := true, named := ["internal/bytealg.MaxLen", "unicode/utf8.first", "unicode/utf8.acceptRanges", "loop.example/mailwire/impl.monthNames"], apart := false, laid := [("unicode/utf8.acceptRanges", laid_unicode_utf8_acceptRanges), ("loop.example/mailwire/impl.monthNames", laid_loop_example_mailwire_impl_monthNames), ("unicode/utf8.first", laid_unicode_utf8_first)], narrowed := true }
def FnScriptSayUptoSaid : Prop := fnScriptSayUptoRow.holds Tryz.pinned (OpenSpec.upto fnScriptSaySpec)

end Rows
end Go.Proofs.YtpmpggihngmnoaaGreatDoor
