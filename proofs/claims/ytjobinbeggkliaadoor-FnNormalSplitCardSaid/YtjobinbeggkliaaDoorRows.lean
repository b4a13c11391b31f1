/-
  NARROWER THAN 'FOR EVERY INPUT', by the rows' own cells (each row's printed sentence says how): FnBoxesPart: laid · FnBoxesSame: laid · FnDeliverTwice: laid · FnNormalSplit: laid · FnSplitMail: laid.
  DERIVED. THE GIVEN ROWS OF THIS SEAT. 5 by the template 'for every input the law returns true; each argument reads behind the call as it read before'; 0 by the template 'total and deterministic' (their statements: YtjobinbeggkliaaDoorTotals.lean).
  GIVEN WITH THE SEED: the statements are not yours to turn. If you find one false, say at which input.
  Laid BY PROGRAM, IN A SANDBOX (cutbox-rows.mjs): the forced cells as the released guide's own fill.sh prints them over the translation b8484c8212b0afcd… (all of the seat's roots in one cut). By AI agents, Wed Nov 11 2026. No macro, syntax, notation, axiom, sorry.
-/
import Derived.Test.YtjobinbeggkliaaDoorChecked
import GoSem.PinnedTables
import GoSem.Claim
import GoSem.ClaimJoined
import GoSem.ClaimMapViews
import Derived.JoinedTies
import Derived.KernelRfl
namespace Go.Proofs.YtjobinbeggkliaaDoor
/- THE CELL 'sum', in the pinned program and in every row, IS THE sha256 OF THE DUMP (.gsa) THAT YtjobinbeggkliaaDoorProg.lean LOADS. Nothing in Lean hashes anything: it is a label: what it is worth is what the hold of that sum in a sandbox is worth. -/
noncomputable def Tryd.pinned : Pinned := { name := "ytjobinbeggkliaadoor", sum := "b8484c8212b0afcd74ee7128b3cd018d0e119b90cc8c5f0ffbd8a1381b355f06", checked := Tryd.checked }
namespace Rows
def none {H : Type} : Left H := { results := [], args := [] }

/- WHAT THE LISTED PACKAGE-LEVEL VARIABLES READ AS WHEN THE CALL BEGINS. Each datum BY PROGRAM (the guide's laid-datum.mjs) off the statement by which the dump's own 'gosem.cut.vars' lays the variable. In a bare row this is a premise. The card (YtjobinbeggkliaaDoorCards.lean) ties it to the program's text. -/
def laid_unicode_utf8_acceptRanges {H : Type} : DataW H := .agg [.agg [.lit (.int .u8 128), .lit (.int .u8 191)], .agg [.lit (.int .u8 160), .lit (.int .u8 191)], .agg [.lit (.int .u8 128), .lit (.int .u8 159)], .agg [.lit (.int .u8 144), .lit (.int .u8 191)], .agg [.lit (.int .u8 128), .lit (.int .u8 143)], .agg [.lit (.int .u8 0), .lit (.int .u8 0)], .agg [.lit (.int .u8 0), .lit (.int .u8 0)], .agg [.lit (.int .u8 0), .lit (.int .u8 0)], .agg [.lit (.int .u8 0), .lit (.int .u8 0)], .agg [.lit (.int .u8 0), .lit (.int .u8 0)], .agg [.lit (.int .u8 0), .lit (.int .u8 0)], .agg [.lit (.int .u8 0), .lit (.int .u8 0)], .agg [.lit (.int .u8 0), .lit (.int .u8 0)], .agg [.lit (.int .u8 0), .lit (.int .u8 0)], .agg [.lit (.int .u8 0), .lit (.int .u8 0)], .agg [.lit (.int .u8 0), .lit (.int .u8 0)]]
/-- One of Go's own tables, pinned by name: the form's constant. -/
def laid_unicode_utf8_first : DataW Unit := Go.Pinned.utf8First

/-- 'laws.FnBoxesPart': WHATEVER THE INPUT: true; the input reads as it did. -/
def fnBoxesPartSpec : ChangeSpec := { name := "fnBoxesPart", fn := fun _ => fun
  | [d] => { results := [.lit (.bool true)], args := [d] }
  | _ => none }
def fnBoxesPartRow : OpenClaim := { program := "ytjobinbeggkliaadoor", sum := "b8484c8212b0afcd74ee7128b3cd018d0e119b90cc8c5f0ffbd8a1381b355f06", func := "loop.example/mailwire/laws.FnBoxesPart", spec := "fnBoxesPart", inPlace := ["internal/bytealg.IndexByteString", "internal/bytealg.IndexString", "internal/bytealg.CountString"], unfollowed := true, recurses := true, named := ["internal/bytealg.MaxLen", "unicode/utf8.first", "unicode/utf8.acceptRanges"], apart := false, laid := [("unicode/utf8.acceptRanges", laid_unicode_utf8_acceptRanges), ("unicode/utf8.first", laid_unicode_utf8_first)] }
def FnBoxesPartSaid : Prop := fnBoxesPartRow.holds Tryd.pinned (OpenSpec.ofChange fnBoxesPartSpec)

/-- ITS FALSE NEIGHBOUR: 'it returns false'. Refute it at one input. -/
def fnBoxesPartWrong : ChangeSpec := { name := "fnBoxesPart", fn := fun _ => fun
  | [d] => { results := [.lit (.bool false)], args := [d] }
  | _ => none }
def FnBoxesPartWrongFalsely : Prop := fnBoxesPartRow.holds Tryd.pinned (OpenSpec.ofChange fnBoxesPartWrong)

/-- 'laws.FnBoxesSame': WHATEVER THE INPUT: true; the input reads as it did. -/
def fnBoxesSameSpec : ChangeSpec := { name := "fnBoxesSame", fn := fun _ => fun
  | [d] => { results := [.lit (.bool true)], args := [d] }
  | _ => none }
def fnBoxesSameRow : OpenClaim := { program := "ytjobinbeggkliaadoor", sum := "b8484c8212b0afcd74ee7128b3cd018d0e119b90cc8c5f0ffbd8a1381b355f06", func := "loop.example/mailwire/laws.FnBoxesSame", spec := "fnBoxesSame", inPlace := ["internal/bytealg.IndexByteString", "internal/bytealg.IndexString", "internal/bytealg.CountString"], unfollowed := true, recurses := true, named := ["internal/bytealg.MaxLen", "unicode/utf8.first", "unicode/utf8.acceptRanges"], apart := false, laid := [("unicode/utf8.acceptRanges", laid_unicode_utf8_acceptRanges), ("unicode/utf8.first", laid_unicode_utf8_first)] }
def FnBoxesSameSaid : Prop := fnBoxesSameRow.holds Tryd.pinned (OpenSpec.ofChange fnBoxesSameSpec)

/-- ITS FALSE NEIGHBOUR: 'it returns false'. Refute it at one input. -/
def fnBoxesSameWrong : ChangeSpec := { name := "fnBoxesSame", fn := fun _ => fun
  | [d] => { results := [.lit (.bool false)], args := [d] }
  | _ => none }
def FnBoxesSameWrongFalsely : Prop := fnBoxesSameRow.holds Tryd.pinned (OpenSpec.ofChange fnBoxesSameWrong)

/-- 'laws.FnDeliverTwice': WHATEVER THE INPUT: true; the input reads as it did. -/
def fnDeliverTwiceSpec : ChangeSpec := { name := "fnDeliverTwice", fn := fun _ => fun
  | [d] => { results := [.lit (.bool true)], args := [d] }
  | _ => none }
def fnDeliverTwiceRow : OpenClaim := { program := "ytjobinbeggkliaadoor", sum := "b8484c8212b0afcd74ee7128b3cd018d0e119b90cc8c5f0ffbd8a1381b355f06", func := "loop.example/mailwire/laws.FnDeliverTwice", spec := "fnDeliverTwice", inPlace := ["internal/bytealg.IndexByteString", "internal/bytealg.IndexString", "internal/bytealg.CountString"], unfollowed := true, recurses := true, named := ["internal/bytealg.MaxLen", "unicode/utf8.first", "unicode/utf8.acceptRanges"], apart := false, laid := [("unicode/utf8.acceptRanges", laid_unicode_utf8_acceptRanges), ("unicode/utf8.first", laid_unicode_utf8_first)] }
def FnDeliverTwiceSaid : Prop := fnDeliverTwiceRow.holds Tryd.pinned (OpenSpec.ofChange fnDeliverTwiceSpec)

/-- ITS FALSE NEIGHBOUR: 'it returns false'. Refute it at one input. -/
def fnDeliverTwiceWrong : ChangeSpec := { name := "fnDeliverTwice", fn := fun _ => fun
  | [d] => { results := [.lit (.bool false)], args := [d] }
  | _ => none }
def FnDeliverTwiceWrongFalsely : Prop := fnDeliverTwiceRow.holds Tryd.pinned (OpenSpec.ofChange fnDeliverTwiceWrong)

/-- 'laws.FnNormalSplit': WHATEVER THE INPUT: true; the input reads as it did. -/
def fnNormalSplitSpec : ChangeSpec := { name := "fnNormalSplit", fn := fun _ => fun
  | [d] => { results := [.lit (.bool true)], args := [d] }
  | _ => none }
def fnNormalSplitRow : OpenClaim := { program := "ytjobinbeggkliaadoor", sum := "b8484c8212b0afcd74ee7128b3cd018d0e119b90cc8c5f0ffbd8a1381b355f06", func := "loop.example/mailwire/laws.FnNormalSplit", spec := "fnNormalSplit", inPlace := ["internal/bytealg.IndexByteString", "internal/bytealg.IndexString", "internal/bytealg.CountString"], unfollowed := true, recurses := true, named := ["internal/bytealg.MaxLen", "unicode/utf8.first", "unicode/utf8.acceptRanges"], apart := false, laid := [("unicode/utf8.acceptRanges", laid_unicode_utf8_acceptRanges), ("unicode/utf8.first", laid_unicode_utf8_first)] }
def FnNormalSplitSaid : Prop := fnNormalSplitRow.holds Tryd.pinned (OpenSpec.ofChange fnNormalSplitSpec)

/-- ITS FALSE NEIGHBOUR: 'it returns false'. Refute it at one input. -/
def fnNormalSplitWrong : ChangeSpec := { name := "fnNormalSplit", fn := fun _ => fun
  | [d] => { results := [.lit (.bool false)], args := [d] }
  | _ => none }
def FnNormalSplitWrongFalsely : Prop := fnNormalSplitRow.holds Tryd.pinned (OpenSpec.ofChange fnNormalSplitWrong)

/-- 'laws.FnSplitMail': WHATEVER THE INPUT: true; the input reads as it did. -/
def fnSplitMailSpec : ChangeSpec := { name := "fnSplitMail", fn := fun _ => fun
  | [d] => { results := [.lit (.bool true)], args := [d] }
  | _ => none }
def fnSplitMailRow : OpenClaim := { program := "ytjobinbeggkliaadoor", sum := "b8484c8212b0afcd74ee7128b3cd018d0e119b90cc8c5f0ffbd8a1381b355f06", func := "loop.example/mailwire/laws.FnSplitMail", spec := "fnSplitMail", inPlace := ["internal/bytealg.IndexByteString", "internal/bytealg.IndexString", "internal/bytealg.CountString"], unfollowed := true, recurses := true, named := ["internal/bytealg.MaxLen", "unicode/utf8.first", "unicode/utf8.acceptRanges"], apart := false, laid := [("unicode/utf8.acceptRanges", laid_unicode_utf8_acceptRanges), ("unicode/utf8.first", laid_unicode_utf8_first)] }
def FnSplitMailSaid : Prop := fnSplitMailRow.holds Tryd.pinned (OpenSpec.ofChange fnSplitMailSpec)

/-- ITS FALSE NEIGHBOUR: 'it returns false'. Refute it at one input. -/
def fnSplitMailWrong : ChangeSpec := { name := "fnSplitMail", fn := fun _ => fun
  | [d] => { results := [.lit (.bool false)], args := [d] }
  | _ => none }
def FnSplitMailWrongFalsely : Prop := fnSplitMailRow.holds Tryd.pinned (OpenSpec.ofChange fnSplitMailWrong)

/- THE SECOND FORM. 'bulk': how many values and letters a reading holds, each counted each time it is reached (what is shared counts as often as it is met; a slice's spare places count too). A statement '..UptoSaid' is the law's where the arguments, and the package variables that the reading takes, are together of bulk at most 1048576: NARROWER than '..Said'. Prove '..Said' where nothing that the law and all that it calls make is longer than what came in: it says more and counts as full. Else prove '..UptoSaid'. A law counts once. -/
mutual
def uptoBulk {H : Type} : DataW H → Nat
  | .lit (.string bytes) => bytes.length + 1
  | .lit _ => 1
  | .nil => 1
  | .ptr d => uptoBulk d + 1
  | .slice elems spare => uptoBulkAll elems + uptoBulkAll spare + 1
  | .agg parts => uptoBulkAll parts + 1
  | .iface _ d => uptoBulk d + 1
  | .map entries => uptoBulkEntries entries + 1
  | .held _ => 1
def uptoBulkAll {H : Type} : List (DataW H) → Nat
  | [] => 0
  | d :: r => uptoBulk d + uptoBulkAll r
def uptoBulkEntries {H : Type} : List (Lit × DataW H) → Nat
  | [] => 0
  | x :: r => uptoBulkEntry x + uptoBulkEntries r
def uptoBulkEntry {H : Type} : Lit × DataW H → Nat
  | (.string bytes, d) => bytes.length + uptoBulk d + 1
  | (_, d) => uptoBulk d + 1
 end
def uptoSmall : (H : Type) → List (DataW H) → Bool := fun _ ds => decide (uptoBulkAll ds ≤ 1048576)
def OpenSpec.upto (s : _root_.Go.ChangeSpec) : _root_.Go.OpenSpec := { _root_.Go.OpenSpec.ofChange s with cond := some uptoSmall }

/-- 'laws.FnBoxesPart', WHERE WHAT IT READS IS OF BULK AT MOST 1048576: true; the input reads as it did. -/
def fnBoxesPartUptoRow : OpenClaim := { program := "ytjobinbeggkliaadoor", sum := "b8484c8212b0afcd74ee7128b3cd018d0e119b90cc8c5f0ffbd8a1381b355f06", func := "loop.example/mailwire/laws.FnBoxesPart", spec := "fnBoxesPart", inPlace := ["internal/bytealg.IndexByteString", "internal/bytealg.IndexString", "internal/bytealg.CountString"], unfollowed := true, recurses := true, named := ["internal/bytealg.MaxLen", "unicode/utf8.first", "unicode/utf8.acceptRanges"], apart := false, laid := [("unicode/utf8.acceptRanges", laid_unicode_utf8_acceptRanges), ("unicode/utf8.first", laid_unicode_utf8_first)], narrowed := true }
def FnBoxesPartUptoSaid : Prop := fnBoxesPartUptoRow.holds Tryd.pinned (OpenSpec.upto fnBoxesPartSpec)

/-- 'laws.FnBoxesSame', WHERE WHAT IT READS IS OF BULK AT MOST 1048576: true; the input reads as it did. -/
def fnBoxesSameUptoRow : OpenClaim := { program := "ytjobinbeggkliaadoor", sum := "b8484c8212b0afcd74ee7128b3cd018d0e119b90cc8c5f0ffbd8a1381b355f06", func := "loop.example/mailwire/laws.FnBoxesSame", spec := "fnBoxesSame", inPlace := ["internal/bytealg.IndexByteString", "internal/bytealg.IndexString", "internal/bytealg.CountString"], unfollowed := true, recurses := true, named := ["internal/bytealg.MaxLen", "unicode/utf8.first", "unicode/utf8.acceptRanges"], apart := false, laid := [("unicode/utf8.acceptRanges", laid_unicode_utf8_acceptRanges), ("unicode/utf8.first", laid_unicode_utf8_first)], narrowed := true }
def FnBoxesSameUptoSaid : Prop := fnBoxesSameUptoRow.holds Tryd.pinned (OpenSpec.upto fnBoxesSameSpec)

/-- 'laws.FnDeliverTwice', WHERE WHAT IT READS IS OF BULK AT MOST 1048576: true; the input reads as it did. -/
def fnDeliverTwiceUptoRow : OpenClaim := { program := "ytjobinbeggkliaadoor", sum := "b8484c8212b0afcd74ee7128b3cd018d0e119b90cc8c5f0ffbd8a1381b355f06", func := "loop.example/mailwire/laws.FnDeliverTwice", spec := "fnDeliverTwice", inPlace := ["internal/bytealg.IndexByteString", "internal/bytealg.IndexString", "internal/bytealg.CountString"], unfollowed := true, recurses := true, named := ["internal/bytealg.MaxLen", "unicode/utf8.first", "unicode/utf8.acceptRanges"], apart := false, laid := [("unicode/utf8.acceptRanges", laid_unicode_utf8_acceptRanges), ("unicode/utf8.first", laid_unicode_utf8_first)], narrowed := true }
def FnDeliverTwiceUptoSaid : Prop := fnDeliverTwiceUptoRow.holds Tryd.pinned (OpenSpec.upto fnDeliverTwiceSpec)

/-- 'laws.FnNormalSplit', WHERE WHAT IT READS IS OF BULK AT MOST 1048576: true; the input reads as it did. -/
def fnNormalSplitUptoRow : OpenClaim := { program := "ytjobinbeggkliaadoor", sum := "b8484c8212b0afcd74ee7128b3cd018d0e119b90cc8c5f0ffbd8a1381b355f06", func := "loop.example/mailwire/laws.FnNormalSplit", spec := "fnNormalSplit", inPlace := ["internal/bytealg.IndexByteString", "internal/bytealg.IndexString", "internal/bytealg.CountString"], unfollowed := true, recurses := true, named := ["internal/bytealg.MaxLen", "unicode/utf8.first", "unicode/utf8.acceptRanges"], apart := false, laid := [("unicode/utf8.acceptRanges", laid_unicode_utf8_acceptRanges), ("unicode/utf8.first", laid_unicode_utf8_first)], narrowed := true }
def FnNormalSplitUptoSaid : Prop := fnNormalSplitUptoRow.holds Tryd.pinned (OpenSpec.upto fnNormalSplitSpec)

/-- 'laws.FnSplitMail', WHERE WHAT IT READS IS OF BULK AT MOST 1048576: true; the input reads as it did. -/
def fnSplitMailUptoRow : OpenClaim := { program := "ytjobinbeggkliaadoor", sum := "b8484c8212b0afcd74ee7128b3cd018d0e119b90cc8c5f0ffbd8a1381b355f06", func := "loop.example/mailwire/laws.FnSplitMail", spec := "fnSplitMail", inPlace := ["internal/bytealg.IndexByteString", "internal/bytealg.IndexString", "internal/bytealg.CountString"], unfollowed := true, recurses := true, named := ["internal/bytealg.MaxLen", "unicode/utf8.first", "unicode/utf8.acceptRanges"], apart := false, laid := [("unicode/utf8.acceptRanges", laid_unicode_utf8_acceptRanges), ("unicode/utf8.first", laid_unicode_utf8_first)], narrowed := true }
def FnSplitMailUptoSaid : Prop := fnSplitMailUptoRow.holds Tryd.pinned (OpenSpec.upto fnSplitMailSpec)

end Rows
end Go.Proofs.YtjobinbeggkliaaDoor
