/- Contracts: hops of a mail. -/
import Derived.Test.YtpmpggihngmnoaaGreatDoorScriptBoxC50mailZ
namespace Go.Proofs.YtpmpggihngmnoaaGreatDoor.Q
open Go Go.AM
set_option linter.unusedSimpArgs false
set_option linter.unusedVariables false
set_option linter.unusedSectionVars false
def preT (s t : Bs) : Bool := decide (s.take t.length = t)
def recB : Bs := [114, 101, 99, 101, 105, 118, 101, 100, 58]
def hopB (l : Bs) : Bool := preT (lowT l) recB
def hopsN : List Bs -> Nat
 | [] => 0
 | l :: r => if l = [] then 0 else (if hopB l = true then 1 else 0) + hopsN r
def chN (m : Mail) : Int := if mailT m 1 30 = true then (hopsN m.lines : Nat) else 0
end Go.Proofs.YtpmpggihngmnoaaGreatDoor.Q
