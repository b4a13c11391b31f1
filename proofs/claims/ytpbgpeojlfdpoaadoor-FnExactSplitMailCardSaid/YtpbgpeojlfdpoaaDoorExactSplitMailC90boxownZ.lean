/- Contracts: mailboxes in new memory, and where a path is. -/
import Derived.Test.YtpbgpeojlfdpoaaDoorExactSplitMailC86fdrawsZ
import Derived.Test.YtpbgpeojlfdpoaaDoorFnExactSplitMailK4
namespace Go.Proofs.YtpbgpeojlfdpoaaDoor.Q
open Go Go.AM
set_option linter.unusedSimpArgs false
set_option linter.unusedVariables false
set_option linter.unusedSectionVars false
def cOx (b:u4):List V:=[.str b.path,.sl true (vO b.y5)]
theorem axO (b:u4):eX.e b=[.str b.path,.sl false (vR eM b.y5)]:=by exact id rfl
def vOX (l:List u4):List (List V):=l.map cOx
theorem au0 (l:List u4):(vOX l).length=l.length:=by simp [vOX]
theorem asf (b:u4):j3 (cOx b)=eX.e b:=by simp only [cOx,axO,j3,strip,acD]
theorem agW:∀ l:List u4,l9 (vOX l)=vR eX l
 | []=>rfl
 | m::l=>by
   show j3 (cOx m)::l9 (vOX l)=_
   rw [agW l,asf]; rfl
theorem avk (l:List u4):A9 2 (vOX l)=true:=by simp [A9,vOX,cOx]
theorem aiN:∀ l:List u4,z8 (vOX l)=true
 | []=>rfl
 | m::l=>by
   show (o8 (cOx m)&&z8 (vOX l))=true
   rw [aiN l,Bool.and_true]
   simp only [cOx,o8,data,afn,Bool.and_self]
theorem as7 (l:List u4):Go.AM.Rows 2 (vOX l):=fun x hx=>by
 obtain ⟨b,_,rfl⟩:=List.mem_map.1 hx
 rfl
def S8 (p:Bs) (b:u4):Bool:=decide (b.path=p)
end Go.Proofs.YtpbgpeojlfdpoaaDoor.Q
