/- Contracts: numbers as texts, days, dates. -/
import Derived.Test.YtpmpggihngmnoaaGreatDoorScriptBoxCa2takelawsZ
import Derived.Test.YtpmpggihngmnoaaGreatDoorFnScriptBoxK5
namespace Go.Proofs.YtpmpggihngmnoaaGreatDoor.Q
open Go Go.AM
set_option linter.unusedSimpArgs false
set_option linter.unusedVariables false
set_option linter.unusedSectionVars false
def dgB (n : Nat) : UInt8 := UInt8.ofNat (48 + n)
def decF : Nat -> Nat -> Nat -> Bs -> Bs
 | 0, _, _, out => out
 | f + 1, n, k, out => if 0 < n ∨ 0 < k then decF f (n / 10) (k - 1) (dgB (n % 10) :: out) else out
def decT (n k : Nat) : Bs := decF (n + k) n k []
def decH : Nat -> Nat -> Bs -> Bs
 | 0, n, out => dgB n :: out
 | f + 1, n, out => if 9 < n then decH f (n / 10) (dgB (n % 10) :: out) else dgB n :: out
theorem vo_int (k : IntKind) (n : Int) : vOneV (.int k n) = some (.int k n) := by exact id rfl
end Go.Proofs.YtpmpggihngmnoaaGreatDoor.Q
