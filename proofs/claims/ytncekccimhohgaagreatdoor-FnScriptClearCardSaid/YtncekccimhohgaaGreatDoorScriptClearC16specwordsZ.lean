/- Contracts: bytes, words, texts cut at a byte, in the reference. -/
import Derived.Test.YtncekccimhohgaaGreatDoorScriptClearC12wordsZ
namespace Go.Proofs.YtncekccimhohgaaGreatDoor.Q
open Go Go.AM
set_option linter.unusedSimpArgs false
set_option linter.unusedVariables false
set_option linter.unusedSectionVars false
def alnB (c : Int) : Bool := decide (97 <= c /\ c <= 122 ∨ 65 <= c /\ c <= 90 ∨ 48 <= c /\ c <= 57)
def signsB : Bs := [33, 35, 36, 37, 38, 39, 42, 43, 45, 47, 61, 63, 94, 95, 96, 123, 124, 125, 126]
def lowB (b : UInt8) : UInt8 := if 65 <= b.toNat /\ b.toNat <= 90 then b + 32 else b
def lowT (s : Bs) : Bs := s.map lowB
def addrT (n l d : Bs) : Bool := (textT n && decide (n.length <= 40)) && (locT l && domT d)
def consH (cur : Bs) : List Bs -> List Bs
 | [] => [cur]
 | x :: r => (cur ++ x) :: r
def lowI (s : Bs) (i : Nat) : Bs := (s.take i).map lowB ++ s.drop i
def CutR (c : UInt8) (s a z : Bs) (ok : Bool) : Prop := ((34 : UInt8) ∉ cutA c s /\ a = cutA c s /\ z = cutZ c s /\ ok = decide (c ∈ s)) ∨ ((34 : UInt8) ∈ cutA c s /\ (34 : UInt8) ∈ a /\ a.length <= s.length /\ z.length <= s.length)
end Go.Proofs.YtncekccimhohgaaGreatDoor.Q
