/- Contracts: mailboxes in new memory, and where a path is. -/
import Derived.Test.YtpbgpeojlfdpoaaGreatDoorExactTraceMailC86fdrawsZ
import Derived.Test.YtpbgpeojlfdpoaaGreatDoorFnExactTraceMailK4
namespace Go.Proofs.YtpbgpeojlfdpoaaGreatDoor.Q
open Go Go.AM
set_option linter.unusedSimpArgs false
set_option linter.unusedVariables false
set_option linter.unusedSectionVars false
def cOx (b:z7):List V:=[.str b.path,.sl true (vO b.D2)]
theorem azh (b:z7):eX.e b=[.str b.path,.sl false (vR eM b.D2)]:=by exact id rfl
def vOX (l:List z7):List (List V):=l.map cOx
theorem aw1 (l:List z7):(vOX l).length=l.length:=by simp [vOX]
theorem atc (b:z7):l8 (cOx b)=eX.e b:=by simp only [cOx,azh,l8,strip,aks]
theorem ahX:∀ l:List z7,n7 (vOX l)=vR eX l
 | []=>rfl
 | m::l=>by
   show l8 (cOx m)::n7 (vOX l)=_
   rw [ahX l,atc]; rfl
theorem aww (l:List z7):D6 2 (vOX l)=true:=by simp [D6,vOX,cOx]
theorem akc:∀ l:List z7,B6 (vOX l)=true
 | []=>rfl
 | m::l=>by
   show (s7 (cOx m)&&B6 (vOX l))=true
   rw [akc l,Bool.and_true]
   simp only [cOx,s7,data,aqR,Bool.and_self]
theorem auf (l:List z7):Go.AM.Rows 2 (vOX l):=fun x hx=>by
 obtain ⟨b,_,rfl⟩:=List.mem_map.1 hx
 rfl
def U4 (p:Bs) (b:z7):Bool:=decide (b.path=p)
end Go.Proofs.YtpbgpeojlfdpoaaGreatDoor.Q
