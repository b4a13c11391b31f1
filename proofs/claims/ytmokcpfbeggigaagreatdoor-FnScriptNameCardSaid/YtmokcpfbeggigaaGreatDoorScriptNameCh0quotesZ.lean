/- Contracts: what stands in quotes, and places outside of quotes, exactly. -/
import Derived.Test.YtmokcpfbeggigaaGreatDoorScriptNameCd0scriptZ
namespace Go.Proofs.YtmokcpfbeggigaaGreatDoor.Q
open Go Go.AM
set_option linter.unusedSimpArgs false
set_option linter.unusedVariables false
set_option linter.unusedSectionVars false
theorem aaW {a:UInt8} {n:Nat} (hn:n<256):((a.toNat:Int)=(n:Int))<->a=UInt8.ofNat n:=by
 constructor
 ·intro h
  apply UInt8.toNat_inj.1
  rw [UInt8.toNat_ofNat']
  omega
 ·intro h
  rw [h,UInt8.toNat_ofNat']
  omega
end Go.Proofs.YtmokcpfbeggigaaGreatDoor.Q
