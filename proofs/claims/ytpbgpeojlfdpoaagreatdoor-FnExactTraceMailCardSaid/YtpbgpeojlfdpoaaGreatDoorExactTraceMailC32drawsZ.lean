/- Contracts: draws of mails, of which only the sizes are told. -/
import Derived.Test.YtpbgpeojlfdpoaaGreatDoorExactTraceMailC30exactZ
import Derived.Test.YtpbgpeojlfdpoaaGreatDoorFnExactTraceMailK4
namespace Go.Proofs.YtpbgpeojlfdpoaaGreatDoor.Q
open Go Go.AM
set_option linter.unusedSimpArgs false
set_option linter.unusedVariables false
set_option linter.unusedSectionVars false
def TnT (n:Nat) (l:List Bs):Prop:=l.length<=n/\∀ s ∈ l,s.length<=200
def TnM (m:s8):Prop:=m.from_.length<=200/\TnT 100 m.to/\TnT 100 m.lines
def cO (m:s8):List V:=[.str m.from_,.sl true (vT m.to),.sl true (vT m.lines)]
theorem Z0 (m:s8):cO m=[.str m.from_,.sl true (vT m.to),.sl true (vT m.lines)]:=by exact id rfl
theorem TnT.add {n:Nat} {l:List Bs} {s:Bs} (h:TnT n l) (hs:s.length<=200):TnT (n+1) (l++[s]):=by
 refine ⟨by simp; exact h.1,fun t ht=>?_⟩
 rcases List.mem_append.1 ht with h1 | h1
 ·exact h.2 t h1
 ·simp at h1; subst h1; exact hs
theorem TnT.le {n m:Nat} {l:List Bs} (h:TnT n l) (hn:n<=m):TnT m l:=⟨by have:=h.1; omega,h.2⟩
theorem TnT.none (n:Nat):TnT n []:=⟨by simp,by simp⟩
theorem TnT.one {n:Nat} {s:Bs} (hn:1<=n) (hs:s.length<=200):TnT n [s]:=⟨by simpa using hn,by simpa using hs⟩
theorem axI {n m:Nat} {l k:List Bs} {o:Bool} (h:TnT n l) (hk:TnT m k) (hn:n+m<=1000000):Q9 false 1 16 (vT l) (.sl o (vT k))=some (.sl true (vT (l++k))):=by
 have:=akS 1 16 (vT l) o (vT k) (aaY l) (aaY k) (by rw [U9,U9]; have:=h.1; have:=hk.1; omega)
 rw [alQ] at this
 exact this
theorem asS (m:s8) (h:TnM m):pc aaW [.agg (cM m)]=some (.agg (cO m)):=by
 have a1:Q9 false 1 16 [] (.sl false (vT m.to))=some (.sl true (vT ([]++m.to))):=axI (o:=false) (TnT.none 0) h.2.1 (by omega)
 have a2:Q9 false 1 16 [] (.sl false (vT m.lines))=some (.sl true (vT ([]++m.lines))):=axI (o:=false) (TnT.none 0) h.2.2 (by omega)
 rw [List.nil_append] at a1 a2
 refine ahi (H:=[]) ?_ (by simp only [g9]) (by simp only [g9,Z0])
 show cv _ _ _=_
 rw [alU]
 simp only [g9,a1,a2,Z0]
end Go.Proofs.YtpbgpeojlfdpoaaGreatDoor.Q
