/-
  NARROWER THAN 'FOR EVERY INPUT', by the rows' own cells (each row's printed sentence says how): FnExactSessionValid: laid · FnSpeakSize: laid · FnNormalMail: laid · FnExactBoxesValid: laid · FnExactCountHeld: laid · FnSessionSame: laid.
  DERIVED. THE GIVEN ROWS OF THIS SEAT. 6 by the template 'for every input the law returns true; each argument reads behind the call as it read before'; 0 by the template 'total and deterministic' (their statements: YtdhgaimdhkojbaaDoorTotals.lean).
  GIVEN WITH THE SEED: the statements are not yours to turn. If you find one false, say at which input.
  Laid BY PROGRAM, IN A SANDBOX (cutbox-rows.mjs): the forced cells as the released guide's own fill.sh prints them over the translation 1d8177b461e04351… (all of the seat's roots in one cut). By AI agents, Wed Nov 11 2026. No macro, syntax, notation, axiom, sorry.
-/
import Derived.Test.YtdhgaimdhkojbaaDoorChecked
import GoSem.PinnedTables
import GoSem.Claim
import GoSem.ClaimJoined
import GoSem.ClaimMapViews
import Derived.JoinedTies
import Derived.KernelRfl
namespace Go.Proofs.YtdhgaimdhkojbaaDoor
/- THE CELL 'sum', in the pinned program and in every row, IS THE sha256 OF THE DUMP (.gsa) THAT YtdhgaimdhkojbaaDoorProg.lean LOADS. Nothing in Lean hashes anything: it is a label: what it is worth is what the hold of that sum in a sandbox is worth. -/
noncomputable def Tryd.pinned : Pinned := { name := "ytdhgaimdhkojbaadoor", sum := "1d8177b461e04351e7cd78066b71c3b7f7e6b742e94f6e206561aa5c1262fb00", checked := Tryd.checked }
namespace Rows
def none {H : Type} : Left H := { results := [], args := [] }

/- WHAT THE LISTED PACKAGE-LEVEL VARIABLES READ AS WHEN THE CALL BEGINS. Each datum BY PROGRAM (the guide's laid-datum.mjs) off the statement by which the dump's own 'gosem.cut.vars' lays the variable. In a bare row this is a premise. The card (YtdhgaimdhkojbaaDoorCards.lean) ties it to the program's text. -/
def laid_unicode_utf8_acceptRanges {H : Type} : DataW H := .agg [.agg [.lit (.int .u8 128), .lit (.int .u8 191)], .agg [.lit (.int .u8 160), .lit (.int .u8 191)], .agg [.lit (.int .u8 128), .lit (.int .u8 159)], .agg [.lit (.int .u8 144), .lit (.int .u8 191)], .agg [.lit (.int .u8 128), .lit (.int .u8 143)], .agg [.lit (.int .u8 0), .lit (.int .u8 0)], .agg [.lit (.int .u8 0), .lit (.int .u8 0)], .agg [.lit (.int .u8 0), .lit (.int .u8 0)], .agg [.lit (.int .u8 0), .lit (.int .u8 0)], .agg [.lit (.int .u8 0), .lit (.int .u8 0)], .agg [.lit (.int .u8 0), .lit (.int .u8 0)], .agg [.lit (.int .u8 0), .lit (.int .u8 0)], .agg [.lit (.int .u8 0), .lit (.int .u8 0)], .agg [.lit (.int .u8 0), .lit (.int .u8 0)], .agg [.lit (.int .u8 0), .lit (.int .u8 0)], .agg [.lit (.int .u8 0), .lit (.int .u8 0)]]
/-- One of Go's own tables, pinned by name: the form's constant. -/
def laid_unicode_utf8_first : DataW Unit := Go.Pinned.utf8First

/-- 'laws.FnExactSessionValid': WHATEVER THE INPUT: true; the input reads as it did. -/
def fnExactSessionValidSpec : ChangeSpec := { name := "fnExactSessionValid", fn := fun _ => fun
  | [d] => { results := [.lit (.bool true)], args := [d] }
  | _ => none }
def fnExactSessionValidRow : OpenClaim := { program := "ytdhgaimdhkojbaadoor", sum := "1d8177b461e04351e7cd78066b71c3b7f7e6b742e94f6e206561aa5c1262fb00", func := "loop.example/mailwire/laws.FnExactSessionValid", spec := "fnExactSessionValid", inPlace := ["internal/bytealg.IndexByteString", "internal/bytealg.IndexString", "internal/bytealg.CountString"], unfollowed := true, recurses := true, named := ["internal/bytealg.MaxLen", "unicode/utf8.first", "unicode/utf8.acceptRanges"], apart := false, laid := [("unicode/utf8.acceptRanges", laid_unicode_utf8_acceptRanges), ("unicode/utf8.first", laid_unicode_utf8_first)] }
def FnExactSessionValidSaid : Prop := fnExactSessionValidRow.holds Tryd.pinned (OpenSpec.ofChange fnExactSessionValidSpec)

/-- ITS FALSE NEIGHBOUR: 'it returns false'. Refute it at one input. -/
def fnExactSessionValidWrong : ChangeSpec := { name := "fnExactSessionValid", fn := fun _ => fun
  | [d] => { results := [.lit (.bool false)], args := [d] }
  | _ => none }
def FnExactSessionValidWrongFalsely : Prop := fnExactSessionValidRow.holds Tryd.pinned (OpenSpec.ofChange fnExactSessionValidWrong)

/-- 'laws.FnSpeakSize': WHATEVER THE INPUT: true; the input reads as it did. -/
def fnSpeakSizeSpec : ChangeSpec := { name := "fnSpeakSize", fn := fun _ => fun
  | [d] => { results := [.lit (.bool true)], args := [d] }
  | _ => none }
def fnSpeakSizeRow : OpenClaim := { program := "ytdhgaimdhkojbaadoor", sum := "1d8177b461e04351e7cd78066b71c3b7f7e6b742e94f6e206561aa5c1262fb00", func := "loop.example/mailwire/laws.FnSpeakSize", spec := "fnSpeakSize", inPlace := ["internal/bytealg.IndexByteString", "internal/bytealg.IndexString", "internal/bytealg.CountString"], unfollowed := true, recurses := true, named := ["internal/bytealg.MaxLen", "unicode/utf8.first", "unicode/utf8.acceptRanges"], apart := false, laid := [("unicode/utf8.acceptRanges", laid_unicode_utf8_acceptRanges), ("unicode/utf8.first", laid_unicode_utf8_first)] }
def FnSpeakSizeSaid : Prop := fnSpeakSizeRow.holds Tryd.pinned (OpenSpec.ofChange fnSpeakSizeSpec)

/-- ITS FALSE NEIGHBOUR: 'it returns false'. Refute it at one input. -/
def fnSpeakSizeWrong : ChangeSpec := { name := "fnSpeakSize", fn := fun _ => fun
  | [d] => { results := [.lit (.bool false)], args := [d] }
  | _ => none }
def FnSpeakSizeWrongFalsely : Prop := fnSpeakSizeRow.holds Tryd.pinned (OpenSpec.ofChange fnSpeakSizeWrong)

/-- 'laws.FnNormalMail': WHATEVER THE INPUT: true; the input reads as it did. -/
def fnNormalMailSpec : ChangeSpec := { name := "fnNormalMail", fn := fun _ => fun
  | [d] => { results := [.lit (.bool true)], args := [d] }
  | _ => none }
def fnNormalMailRow : OpenClaim := { program := "ytdhgaimdhkojbaadoor", sum := "1d8177b461e04351e7cd78066b71c3b7f7e6b742e94f6e206561aa5c1262fb00", func := "loop.example/mailwire/laws.FnNormalMail", spec := "fnNormalMail", inPlace := ["internal/bytealg.IndexByteString", "internal/bytealg.IndexString", "internal/bytealg.CountString"], unfollowed := true, recurses := true, named := ["internal/bytealg.MaxLen", "unicode/utf8.first", "unicode/utf8.acceptRanges"], apart := false, laid := [("unicode/utf8.acceptRanges", laid_unicode_utf8_acceptRanges), ("unicode/utf8.first", laid_unicode_utf8_first)] }
def FnNormalMailSaid : Prop := fnNormalMailRow.holds Tryd.pinned (OpenSpec.ofChange fnNormalMailSpec)

/-- ITS FALSE NEIGHBOUR: 'it returns false'. Refute it at one input. -/
def fnNormalMailWrong : ChangeSpec := { name := "fnNormalMail", fn := fun _ => fun
  | [d] => { results := [.lit (.bool false)], args := [d] }
  | _ => none }
def FnNormalMailWrongFalsely : Prop := fnNormalMailRow.holds Tryd.pinned (OpenSpec.ofChange fnNormalMailWrong)

/-- 'laws.FnExactBoxesValid': WHATEVER THE INPUT: true; the input reads as it did. -/
def fnExactBoxesValidSpec : ChangeSpec := { name := "fnExactBoxesValid", fn := fun _ => fun
  | [d] => { results := [.lit (.bool true)], args := [d] }
  | _ => none }
def fnExactBoxesValidRow : OpenClaim := { program := "ytdhgaimdhkojbaadoor", sum := "1d8177b461e04351e7cd78066b71c3b7f7e6b742e94f6e206561aa5c1262fb00", func := "loop.example/mailwire/laws.FnExactBoxesValid", spec := "fnExactBoxesValid", inPlace := ["internal/bytealg.IndexByteString", "internal/bytealg.IndexString", "internal/bytealg.CountString"], unfollowed := true, recurses := true, named := ["internal/bytealg.MaxLen", "unicode/utf8.first", "unicode/utf8.acceptRanges"], apart := false, laid := [("unicode/utf8.acceptRanges", laid_unicode_utf8_acceptRanges), ("unicode/utf8.first", laid_unicode_utf8_first)] }
def FnExactBoxesValidSaid : Prop := fnExactBoxesValidRow.holds Tryd.pinned (OpenSpec.ofChange fnExactBoxesValidSpec)

/-- ITS FALSE NEIGHBOUR: 'it returns false'. Refute it at one input. -/
def fnExactBoxesValidWrong : ChangeSpec := { name := "fnExactBoxesValid", fn := fun _ => fun
  | [d] => { results := [.lit (.bool false)], args := [d] }
  | _ => none }
def FnExactBoxesValidWrongFalsely : Prop := fnExactBoxesValidRow.holds Tryd.pinned (OpenSpec.ofChange fnExactBoxesValidWrong)

/-- 'laws.FnExactCountHeld': WHATEVER THE INPUT: true; the input reads as it did. -/
def fnExactCountHeldSpec : ChangeSpec := { name := "fnExactCountHeld", fn := fun _ => fun
  | [d] => { results := [.lit (.bool true)], args := [d] }
  | _ => none }
def fnExactCountHeldRow : OpenClaim := { program := "ytdhgaimdhkojbaadoor", sum := "1d8177b461e04351e7cd78066b71c3b7f7e6b742e94f6e206561aa5c1262fb00", func := "loop.example/mailwire/laws.FnExactCountHeld", spec := "fnExactCountHeld", inPlace := ["internal/bytealg.IndexByteString", "internal/bytealg.IndexString", "internal/bytealg.CountString"], unfollowed := true, recurses := true, named := ["internal/bytealg.MaxLen", "unicode/utf8.first", "unicode/utf8.acceptRanges"], apart := false, laid := [("unicode/utf8.acceptRanges", laid_unicode_utf8_acceptRanges), ("unicode/utf8.first", laid_unicode_utf8_first)] }
def FnExactCountHeldSaid : Prop := fnExactCountHeldRow.holds Tryd.pinned (OpenSpec.ofChange fnExactCountHeldSpec)

/-- ITS FALSE NEIGHBOUR: 'it returns false'. Refute it at one input. -/
def fnExactCountHeldWrong : ChangeSpec := { name := "fnExactCountHeld", fn := fun _ => fun
  | [d] => { results := [.lit (.bool false)], args := [d] }
  | _ => none }
def FnExactCountHeldWrongFalsely : Prop := fnExactCountHeldRow.holds Tryd.pinned (OpenSpec.ofChange fnExactCountHeldWrong)

/-- 'laws.FnSessionSame': WHATEVER THE INPUT: true; the input reads as it did. -/
def fnSessionSameSpec : ChangeSpec := { name := "fnSessionSame", fn := fun _ => fun
  | [d] => { results := [.lit (.bool true)], args := [d] }
  | _ => none }
def fnSessionSameRow : OpenClaim := { program := "ytdhgaimdhkojbaadoor", sum := "1d8177b461e04351e7cd78066b71c3b7f7e6b742e94f6e206561aa5c1262fb00", func := "loop.example/mailwire/laws.FnSessionSame", spec := "fnSessionSame", inPlace := ["internal/bytealg.IndexByteString", "internal/bytealg.IndexString", "internal/bytealg.CountString"], unfollowed := true, recurses := true, named := ["internal/bytealg.MaxLen", "unicode/utf8.first", "unicode/utf8.acceptRanges"], apart := false, laid := [("unicode/utf8.acceptRanges", laid_unicode_utf8_acceptRanges), ("unicode/utf8.first", laid_unicode_utf8_first)] }
def FnSessionSameSaid : Prop := fnSessionSameRow.holds Tryd.pinned (OpenSpec.ofChange fnSessionSameSpec)

/-- ITS FALSE NEIGHBOUR: 'it returns false'. Refute it at one input. -/
def fnSessionSameWrong : ChangeSpec := { name := "fnSessionSame", fn := fun _ => fun
  | [d] => { results := [.lit (.bool false)], args := [d] }
  | _ => none }
def FnSessionSameWrongFalsely : Prop := fnSessionSameRow.holds Tryd.pinned (OpenSpec.ofChange fnSessionSameWrong)

/- THE SECOND FORM. 'bulk': how many values and letters a reading holds, each counted each time it is reached (what is shared counts as often as it is met; a slice's spare places count too). A statement '..UptoSaid' is the law's where the arguments, and the package variables that the reading takes, are together of bulk at most 1048576: NARROWER than '..Said'. Prove '..Said' where nothing that the law and all that it calls make is longer than what came in: it says more and counts as full. Else prove '..UptoSaid'. A law counts once. -/
mutual
def uptoBulk {H : Type} : DataW H → Nat
  | .lit (.string bytes) => bytes.length + 1
  | .lit _ => 1
  | .nil => 1
  | .ptr d => uptoBulk d + 1
  | .slice elems spare => uptoBulkAll elems + uptoBulkAll spare + 1
  | .agg parts => uptoBulkAll parts + 1
  | .iface _ d => uptoBulk d + 1
  | .map entries => uptoBulkEntries entries + 1
  | .held _ => 1
def uptoBulkAll {H : Type} : List (DataW H) → Nat
  | [] => 0
  | d :: r => uptoBulk d + uptoBulkAll r
def uptoBulkEntries {H : Type} : List (Lit × DataW H) → Nat
  | [] => 0
  | x :: r => uptoBulkEntry x + uptoBulkEntries r
def uptoBulkEntry {H : Type} : Lit × DataW H → Nat
  | (.string bytes, d) => bytes.length + uptoBulk d + 1
  | (_, d) => uptoBulk d + 1
 end
def uptoSmall : (H : Type) → List (DataW H) → Bool := fun _ ds => decide (uptoBulkAll ds ≤ 1048576)
def OpenSpec.upto (s : _root_.Go.ChangeSpec) : _root_.Go.OpenSpec := { _root_.Go.OpenSpec.ofChange s with cond := some uptoSmall }

/-- 'laws.FnExactSessionValid', WHERE WHAT IT READS IS OF BULK AT MOST 1048576: true; the input reads as it did. -/
def fnExactSessionValidUptoRow : OpenClaim := { program := "ytdhgaimdhkojbaadoor", sum := "1d8177b461e04351e7cd78066b71c3b7f7e6b742e94f6e206561aa5c1262fb00", func := "loop.example/mailwire/laws.FnExactSessionValid", spec := "fnExactSessionValid", inPlace := ["internal/bytealg.IndexByteString", "internal/bytealg.IndexString", "internal/bytealg.CountString"], unfollowed := true, recurses := true, named := ["internal/bytealg.MaxLen", "unicode/utf8.first", "unicode/utf8.acceptRanges"], apart := false, laid := [("unicode/utf8.acceptRanges", laid_unicode_utf8_acceptRanges), ("unicode/utf8.first", laid_unicode_utf8_first)], narrowed := true }
def FnExactSessionValidUptoSaid : Prop := fnExactSessionValidUptoRow.holds Tryd.pinned (OpenSpec.upto fnExactSessionValidSpec)

/-- 'laws.FnSpeakSize', WHERE WHAT IT READS IS OF BULK AT MOST 1048576: true; the input reads as it did. -/
def fnSpeakSizeUptoRow : OpenClaim := { program := "ytdhgaimdhkojbaadoor", sum := "1d8177b461e04351e7cd78066b71c3b7f7e6b742e94f6e206561aa5c1262fb00", func := "loop.example/mailwire/laws.FnSpeakSize", spec := "fnSpeakSize", inPlace := ["internal/bytealg.IndexByteString", "internal/bytealg.IndexString", "internal/bytealg.CountString"], unfollowed := true, recurses := true, named := ["internal/bytealg.MaxLen", "unicode/utf8.first", "unicode/utf8.acceptRanges"], apart := false, laid := [("unicode/utf8.acceptRanges", laid_unicode_utf8_acceptRanges), ("unicode/utf8.first", laid_unicode_utf8_first)], narrowed := true }
def FnSpeakSizeUptoSaid : Prop := fnSpeakSizeUptoRow.holds Tryd.pinned (OpenSpec.upto fnSpeakSizeSpec)

/-- 'laws.FnNormalMail', WHERE WHAT IT READS IS OF BULK AT MOST 1048576: true; the input reads as it did. -/
def fnNormalMailUptoRow : OpenClaim := { program := "ytdhgaimdhkojbaadoor", sum := "1d8177b461e04351e7cd78066b71c3b7f7e6b742e94f6e206561aa5c1262fb00", func := "loop.example/mailwire/laws.FnNormalMail", spec := "fnNormalMail", inPlace := ["internal/bytealg.IndexByteString", "internal/bytealg.IndexString", "internal/bytealg.CountString"], unfollowed := true, recurses := true, named := ["internal/bytealg.MaxLen", "unicode/utf8.first", "unicode/utf8.acceptRanges"], apart := false, laid := [("unicode/utf8.acceptRanges", laid_unicode_utf8_acceptRanges), ("unicode/utf8.first", laid_unicode_utf8_first)], narrowed := true }
def FnNormalMailUptoSaid : Prop := fnNormalMailUptoRow.holds Tryd.pinned (OpenSpec.upto fnNormalMailSpec)

/-- 'laws.FnExactBoxesValid', WHERE WHAT IT READS IS OF BULK AT MOST 1048576: true; the input reads as it did. -/
def fnExactBoxesValidUptoRow : OpenClaim := { program := "ytdhgaimdhkojbaadoor", sum := "1d8177b461e04351e7cd78066b71c3b7f7e6b742e94f6e206561aa5c1262fb00", func := "loop.example/mailwire/laws.FnExactBoxesValid", spec := "fnExactBoxesValid", inPlace := ["internal/bytealg.IndexByteString", "internal/bytealg.IndexString", "internal/bytealg.CountString"], unfollowed := true, recurses := true, named := ["internal/bytealg.MaxLen", "unicode/utf8.first", "unicode/utf8.acceptRanges"], apart := false, laid := [("unicode/utf8.acceptRanges", laid_unicode_utf8_acceptRanges), ("unicode/utf8.first", laid_unicode_utf8_first)], narrowed := true }
def FnExactBoxesValidUptoSaid : Prop := fnExactBoxesValidUptoRow.holds Tryd.pinned (OpenSpec.upto fnExactBoxesValidSpec)

/-- 'laws.FnExactCountHeld', WHERE WHAT IT READS IS OF BULK AT MOST 1048576: true; the input reads as it did. -/
def fnExactCountHeldUptoRow : OpenClaim := { program := "ytdhgaimdhkojbaadoor", sum := "1d8177b461e04351e7cd78066b71c3b7f7e6b742e94f6e206561aa5c1262fb00", func := "loop.example/mailwire/laws.FnExactCountHeld", spec := "fnExactCountHeld", inPlace := ["internal/bytealg.IndexByteString", "internal/bytealg.IndexString", "internal/bytealg.CountString"], unfollowed := true, recurses := true, named := ["internal/bytealg.MaxLen", "unicode/utf8.first", "unicode/utf8.acceptRanges"], apart := false, laid := [("unicode/utf8.acceptRanges", laid_unicode_utf8_acceptRanges), ("unicode/utf8.first", laid_unicode_utf8_first)], narrowed := true }
def FnExactCountHeldUptoSaid : Prop := fnExactCountHeldUptoRow.holds Tryd.pinned (OpenSpec.upto fnExactCountHeldSpec)

/-- 'laws.FnSessionSame', WHERE WHAT IT READS IS OF BULK AT MOST 1048576: true; the input reads as it did. -/
def fnSessionSameUptoRow : OpenClaim := { program := "ytdhgaimdhkojbaadoor", sum := "1d8177b461e04351e7cd78066b71c3b7f7e6b742e94f6e206561aa5c1262fb00", func := "loop.example/mailwire/laws.FnSessionSame", spec := "fnSessionSame", inPlace := ["internal/bytealg.IndexByteString", "internal/bytealg.IndexString", "internal/bytealg.CountString"], unfollowed := true, recurses := true, named := ["internal/bytealg.MaxLen", "unicode/utf8.first", "unicode/utf8.acceptRanges"], apart := false, laid := [("unicode/utf8.acceptRanges", laid_unicode_utf8_acceptRanges), ("unicode/utf8.first", laid_unicode_utf8_first)], narrowed := true }
def FnSessionSameUptoSaid : Prop := fnSessionSameUptoRow.holds Tryd.pinned (OpenSpec.upto fnSessionSameSpec)

end Rows
end Go.Proofs.YtdhgaimdhkojbaaDoor
