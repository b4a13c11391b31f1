/-
  No cell of these rows narrows 'for every input' (looked for: loops, veiled, ifaces, maps, wideKeys, modest, calm, conditions, laid).
  DERIVED. THE GIVEN ROWS OF THIS SEAT. 4 by the template 'for every input the law returns true; each argument reads behind the call as it read before'; 0 by the template 'total and deterministic' (their statements: YtgpfabgnlpdpdaaTotals.lean).
  GIVEN WITH THE SEED: the statements are not yours to turn. If you find one false, say at which input.
  Laid BY PROGRAM, IN A SANDBOX (cutbox-rows.mjs): the forced cells as the released guide's own fill.sh prints them over the translation 037ab73cb7ca2c96… (all of the seat's roots in one cut). By AI agents, Wed Nov 11 2026. No macro, syntax, notation, axiom, sorry.
-/
import Derived.Test.YtgpfabgnlpdpdaaChecked
import GoSem.Claim
import GoSem.ClaimJoined
import GoSem.ClaimMapViews
import Derived.JoinedTies
import Derived.KernelRfl
namespace Go.Proofs.Ytgpfabgnlpdpdaa
/- THE CELL 'sum', in the pinned program and in every row, IS THE sha256 OF THE DUMP (.gsa) THAT YtgpfabgnlpdpdaaProg.lean LOADS. Nothing in Lean hashes anything: it is a label: what it is worth is what the hold of that sum in a sandbox is worth. -/
noncomputable def Try.pinned : Pinned := { name := "ytgpfabgnlpdpdaa", sum := "037ab73cb7ca2c96adc48ce06043b34cdafaab72167000beeb9fa2dd4cb5bfa4", checked := Try.checked }
namespace Rows
def none {H : Type} : Left H := { results := [], args := [] }

/-- 'laws.FnReplyText': WHATEVER THE INPUT: true; the input reads as it did. -/
def fnReplyTextSpec : ChangeSpec := { name := "fnReplyText", fn := fun _ => fun
  | [d] => { results := [.lit (.bool true)], args := [d] }
  | _ => none }
def fnReplyTextRow : OpenClaim := { program := "ytgpfabgnlpdpdaa", sum := "037ab73cb7ca2c96adc48ce06043b34cdafaab72167000beeb9fa2dd4cb5bfa4", func := "loop.example/mailwire/laws.FnReplyText", spec := "fnReplyText", apart := false }
def FnReplyTextSaid : Prop := fnReplyTextRow.holds Try.pinned (OpenSpec.ofChange fnReplyTextSpec)

/-- ITS FALSE NEIGHBOUR: 'it returns false'. Refute it at one input. -/
def fnReplyTextWrong : ChangeSpec := { name := "fnReplyText", fn := fun _ => fun
  | [d] => { results := [.lit (.bool false)], args := [d] }
  | _ => none }
def FnReplyTextWrongFalsely : Prop := fnReplyTextRow.holds Try.pinned (OpenSpec.ofChange fnReplyTextWrong)

/-- 'laws.FnExactMailSame': WHATEVER THE INPUT: true; the input reads as it did. -/
def fnExactMailSameSpec : ChangeSpec := { name := "fnExactMailSame", fn := fun _ => fun
  | [d1, d2] => { results := [.lit (.bool true)], args := [d1, d2] }
  | _ => none }
def fnExactMailSameRow : OpenClaim := { program := "ytgpfabgnlpdpdaa", sum := "037ab73cb7ca2c96adc48ce06043b34cdafaab72167000beeb9fa2dd4cb5bfa4", func := "loop.example/mailwire/laws.FnExactMailSame", spec := "fnExactMailSame", apart := false }
def FnExactMailSameSaid : Prop := fnExactMailSameRow.holds Try.pinned (OpenSpec.ofChange fnExactMailSameSpec)

/-- ITS FALSE NEIGHBOUR: 'it returns false'. Refute it at one input. -/
def fnExactMailSameWrong : ChangeSpec := { name := "fnExactMailSame", fn := fun _ => fun
  | [d1, d2] => { results := [.lit (.bool false)], args := [d1, d2] }
  | _ => none }
def FnExactMailSameWrongFalsely : Prop := fnExactMailSameRow.holds Try.pinned (OpenSpec.ofChange fnExactMailSameWrong)

/-- 'laws.FnExactSessionSame': WHATEVER THE INPUT: true; the input reads as it did. -/
def fnExactSessionSameSpec : ChangeSpec := { name := "fnExactSessionSame", fn := fun _ => fun
  | [d1, d2] => { results := [.lit (.bool true)], args := [d1, d2] }
  | _ => none }
def fnExactSessionSameRow : OpenClaim := { program := "ytgpfabgnlpdpdaa", sum := "037ab73cb7ca2c96adc48ce06043b34cdafaab72167000beeb9fa2dd4cb5bfa4", func := "loop.example/mailwire/laws.FnExactSessionSame", spec := "fnExactSessionSame", unfollowed := true, recurses := true, apart := false }
def FnExactSessionSameSaid : Prop := fnExactSessionSameRow.holds Try.pinned (OpenSpec.ofChange fnExactSessionSameSpec)

/-- ITS FALSE NEIGHBOUR: 'it returns false'. Refute it at one input. -/
def fnExactSessionSameWrong : ChangeSpec := { name := "fnExactSessionSame", fn := fun _ => fun
  | [d1, d2] => { results := [.lit (.bool false)], args := [d1, d2] }
  | _ => none }
def FnExactSessionSameWrongFalsely : Prop := fnExactSessionSameRow.holds Try.pinned (OpenSpec.ofChange fnExactSessionSameWrong)

/-- 'laws.FnExactBoxesSame': WHATEVER THE INPUT: true; the input reads as it did. -/
def fnExactBoxesSameSpec : ChangeSpec := { name := "fnExactBoxesSame", fn := fun _ => fun
  | [d1, d2] => { results := [.lit (.bool true)], args := [d1, d2] }
  | _ => none }
def fnExactBoxesSameRow : OpenClaim := { program := "ytgpfabgnlpdpdaa", sum := "037ab73cb7ca2c96adc48ce06043b34cdafaab72167000beeb9fa2dd4cb5bfa4", func := "loop.example/mailwire/laws.FnExactBoxesSame", spec := "fnExactBoxesSame", unfollowed := true, recurses := true, apart := false }
def FnExactBoxesSameSaid : Prop := fnExactBoxesSameRow.holds Try.pinned (OpenSpec.ofChange fnExactBoxesSameSpec)

/-- ITS FALSE NEIGHBOUR: 'it returns false'. Refute it at one input. -/
def fnExactBoxesSameWrong : ChangeSpec := { name := "fnExactBoxesSame", fn := fun _ => fun
  | [d1, d2] => { results := [.lit (.bool false)], args := [d1, d2] }
  | _ => none }
def FnExactBoxesSameWrongFalsely : Prop := fnExactBoxesSameRow.holds Try.pinned (OpenSpec.ofChange fnExactBoxesSameWrong)

/- THE SECOND FORM. 'bulk': how many values and letters a reading holds, each counted each time it is reached (what is shared counts as often as it is met; a slice's spare places count too). A statement '..UptoSaid' is the law's where the arguments, and the package variables that the reading takes, are together of bulk at most 1048576: NARROWER than '..Said'. Prove '..Said' where nothing that the law and all that it calls make is longer than what came in: it says more and counts as full. Else prove '..UptoSaid'. A law counts once. -/
mutual
def uptoBulk {H : Type} : DataW H → Nat
  | .lit (.string bytes) => bytes.length + 1
  | .lit _ => 1
  | .nil => 1
  | .ptr d => uptoBulk d + 1
  | .slice elems spare => uptoBulkAll elems + uptoBulkAll spare + 1
  | .agg parts => uptoBulkAll parts + 1
  | .iface _ d => uptoBulk d + 1
  | .map entries => uptoBulkEntries entries + 1
  | .held _ => 1
def uptoBulkAll {H : Type} : List (DataW H) → Nat
  | [] => 0
  | d :: r => uptoBulk d + uptoBulkAll r
def uptoBulkEntries {H : Type} : List (Lit × DataW H) → Nat
  | [] => 0
  | x :: r => uptoBulkEntry x + uptoBulkEntries r
def uptoBulkEntry {H : Type} : Lit × DataW H → Nat
  | (.string bytes, d) => bytes.length + uptoBulk d + 1
  | (_, d) => uptoBulk d + 1
 end
def uptoSmall : (H : Type) → List (DataW H) → Bool := fun _ ds => decide (uptoBulkAll ds ≤ 1048576)
def OpenSpec.upto (s : _root_.Go.ChangeSpec) : _root_.Go.OpenSpec := { _root_.Go.OpenSpec.ofChange s with cond := some uptoSmall }

/-- 'laws.FnReplyText', WHERE WHAT IT READS IS OF BULK AT MOST 1048576: true; the input reads as it did. -/
def fnReplyTextUptoRow : OpenClaim := { program := "ytgpfabgnlpdpdaa", sum := "037ab73cb7ca2c96adc48ce06043b34cdafaab72167000beeb9fa2dd4cb5bfa4", func := "loop.example/mailwire/laws.FnReplyText", spec := "fnReplyText", apart := false, narrowed := true }
def FnReplyTextUptoSaid : Prop := fnReplyTextUptoRow.holds Try.pinned (OpenSpec.upto fnReplyTextSpec)

/-- 'laws.FnExactMailSame', WHERE WHAT IT READS IS OF BULK AT MOST 1048576: true; the input reads as it did. -/
def fnExactMailSameUptoRow : OpenClaim := { program := "ytgpfabgnlpdpdaa", sum := "037ab73cb7ca2c96adc48ce06043b34cdafaab72167000beeb9fa2dd4cb5bfa4", func := "loop.example/mailwire/laws.FnExactMailSame", spec := "fnExactMailSame", apart := false, narrowed := true }
def FnExactMailSameUptoSaid : Prop := fnExactMailSameUptoRow.holds Try.pinned (OpenSpec.upto fnExactMailSameSpec)

/-- 'laws.FnExactSessionSame', WHERE WHAT IT READS IS OF BULK AT MOST 1048576: true; the input reads as it did. -/
def fnExactSessionSameUptoRow : OpenClaim := { program := "ytgpfabgnlpdpdaa", sum := "037ab73cb7ca2c96adc48ce06043b34cdafaab72167000beeb9fa2dd4cb5bfa4", func := "loop.example/mailwire/laws.FnExactSessionSame", spec := "fnExactSessionSame", unfollowed := true, recurses := true, apart := false, narrowed := true }
def FnExactSessionSameUptoSaid : Prop := fnExactSessionSameUptoRow.holds Try.pinned (OpenSpec.upto fnExactSessionSameSpec)

/-- 'laws.FnExactBoxesSame', WHERE WHAT IT READS IS OF BULK AT MOST 1048576: true; the input reads as it did. -/
def fnExactBoxesSameUptoRow : OpenClaim := { program := "ytgpfabgnlpdpdaa", sum := "037ab73cb7ca2c96adc48ce06043b34cdafaab72167000beeb9fa2dd4cb5bfa4", func := "loop.example/mailwire/laws.FnExactBoxesSame", spec := "fnExactBoxesSame", unfollowed := true, recurses := true, apart := false, narrowed := true }
def FnExactBoxesSameUptoSaid : Prop := fnExactBoxesSameUptoRow.holds Try.pinned (OpenSpec.upto fnExactBoxesSameSpec)

end Rows
end Go.Proofs.Ytgpfabgnlpdpdaa
