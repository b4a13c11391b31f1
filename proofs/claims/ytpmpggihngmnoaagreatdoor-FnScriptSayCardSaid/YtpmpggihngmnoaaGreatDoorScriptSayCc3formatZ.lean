/- Contracts: dates as texts. -/
import Derived.Test.YtpmpggihngmnoaaGreatDoorScriptSayCc2validZ
namespace Go.Proofs.YtpmpggihngmnoaaGreatDoor.Q
open Go Go.AM
set_option linter.unusedSimpArgs false
set_option linter.unusedVariables false
set_option linter.unusedSectionVars false
def wdays : List Bs := [[84, 104, 117], [70, 114, 105], [83, 97, 116], [83, 117, 110], [77, 111, 110], [84, 117, 101], [87, 101, 100]]
def monT : List Bs := [[74, 97, 110], [70, 101, 98], [77, 97, 114], [65, 112, 114], [77, 97, 121], [74, 117, 110], [74, 117, 108], [65, 117, 103], [83, 101, 112], [79, 99, 116], [78, 111, 118], [68, 101, 99]]
def wdT (d : Dt) : Bs := wdays.getD ((dbI d.y d.mo d.d).toNat % 7) []
def sgnT (z : Int) : Bs := if z < 0 then [32, 45] else [32, 43]
def fmtD (d : Dt) : Bs := wdT d ++ [44, 32] ++ decT d.d.toNat 1 ++ [32] ++ monT.getD (d.mo - 1).toNat [] ++ [32] ++ decT d.y.toNat 4 ++ [32] ++ decT d.h.toNat 2 ++ [58] ++ decT d.mi.toNat 2 ++ [58] ++ decT d.s.toNat 2 ++ sgnT d.z ++ decT (d.z.natAbs / 60) 2 ++ decT (d.z.natAbs % 60) 2
def fmtT (d : Dt) : Bs := if validT d = true then fmtD d else []
theorem decT_len (n k : Nat) : (decT n k).length <= n + k := by have := decF_len (n + k) n k []; simpa [decT] using this
end Go.Proofs.YtpmpggihngmnoaaGreatDoor.Q
