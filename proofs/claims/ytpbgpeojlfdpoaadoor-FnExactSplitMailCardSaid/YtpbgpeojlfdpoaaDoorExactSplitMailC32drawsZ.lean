/- Contracts: draws of mails, of which only the sizes are told. -/
import Derived.Test.YtpbgpeojlfdpoaaDoorExactSplitMailC30exactZ
import Derived.Test.YtpbgpeojlfdpoaaDoorFnExactSplitMailK4
namespace Go.Proofs.YtpbgpeojlfdpoaaDoor.Q
open Go Go.AM
set_option linter.unusedSimpArgs false
set_option linter.unusedVariables false
set_option linter.unusedSectionVars false
def TnT (n:Nat) (l:List Bs):Prop:=l.length<=n/\∀ s ∈ l,s.length<=200
def TnM (m:j0):Prop:=m.from_.length<=200/\TnT 100 m.to/\TnT 100 m.lines
def cO (m:j0):List V:=[.str m.from_,.sl true (vT m.to),.sl true (vT m.lines)]
theorem afe (m:j0):cO m=[.str m.from_,.sl true (vT m.to),.sl true (vT m.lines)]:=by exact id rfl
theorem TnT.add {n:Nat} {l:List Bs} {s:Bs} (h:TnT n l) (hs:s.length<=200):TnT (n+1) (l++[s]):=by
 refine ⟨by simp; exact h.1,fun t ht=>?_⟩
 rcases List.mem_append.1 ht with h1 | h1
 ·exact h.2 t h1
 ·simp at h1; subst h1; exact hs
theorem TnT.le {n m:Nat} {l:List Bs} (h:TnT n l) (hn:n<=m):TnT m l:=⟨by have:=h.1; omega,h.2⟩
theorem TnT.none (n:Nat):TnT n []:=⟨by simp,by simp⟩
theorem TnT.one {n:Nat} {s:Bs} (hn:1<=n) (hs:s.length<=200):TnT n [s]:=⟨by simpa using hn,by simpa using hs⟩
end Go.Proofs.YtpbgpeojlfdpoaaDoor.Q
