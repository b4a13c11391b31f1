/- Contracts: mailboxes in new memory, and where a path is. -/
import Derived.Test.YtaapfgpeeghmeaaGreatDoorScriptMailC86fdrawsZ
import Derived.Test.YtaapfgpeeghmeaaGreatDoorFnScriptMailK5
namespace Go.Proofs.YtaapfgpeeghmeaaGreatDoor.Q
open Go Go.AM
set_option linter.unusedSimpArgs false
set_option linter.unusedVariables false
set_option linter.unusedSectionVars false
def cOx (b:y0):List V:=[.str b.path,.sl true (vO b.o8)]
theorem arf (b:y0):eX.e b=[.str b.path,.sl false (vR eM b.o8)]:=by exact id rfl
def E8 (l:List y0):List (List V):=l.map cOx
theorem acC (l:List y0):(E8 l).length=l.length:=by simp [E8]
theorem ax8 (b:y0):m8 (cOx b)=eX.e b:=by simp only [cOx,arf,m8,strip,aco]
theorem agq:∀ l:List y0,n8 (E8 l)=vR eX l
 | []=>rfl
 | m::l=>by
   show m8 (cOx m)::n8 (E8 l)=_
   rw [agq l,ax8]; rfl
theorem aq3 (l:List y0):F3 2 (E8 l)=true:=by simp [F3,E8,cOx]
theorem av1 (l k:List y0):E8 l++E8 k=E8 (l++k):=by simp [E8]
theorem akb:∀ l:List y0,D8 (E8 l)=true
 | []=>rfl
 | m::l=>by
   show (A7 (cOx m)&&D8 (E8 l))=true
   rw [akb l,Bool.and_true]
   simp only [cOx,A7,data,aje,Bool.and_self]
theorem aca (l:List y0):Go.AM.Rows 2 (E8 l):=fun x hx=>by
 obtain ⟨b,_,rfl⟩:=List.mem_map.1 hx
 rfl
theorem aut:∀ l:List Bs,O2 (vT l)=true
 | []=>rfl
 | m::l=>by
   show (N2 [.str m]&&O2 (vT l))=true
   rw [aut l]; rfl
theorem atp:∀ l:List l9,O2 (vO l)=true
 | []=>rfl
 | m::l=>by
   show (N2 (cO m)&&O2 (vO l))=true
   rw [atp l]
   simp only [cO,N2,I0,aut,Bool.true_or,Bool.and_self]
theorem aiY:∀ l:List y0,O2 (E8 l)=true
 | []=>rfl
 | m::l=>by
   show (N2 (cOx m)&&O2 (E8 l))=true
   rw [aiY l]
   simp only [cOx,N2,I0,atp,Bool.true_or,Bool.and_self]
theorem av6 (l:List y0) (i:Nat) (h:i<l.length):(E8 l)[i]? = some (cOx l[i]):=by simp [E8,List.getElem?_eq_getElem h]
theorem ays {l:List y0} (b:y0) (h:l.length+1<=2000000):F8 false 2 40 (E8 l) (.sl true [[.str b.path,.sl true (vO b.o8)]])=some (.sl true (E8 (l++[b]))):=by
 have:=aeZ 2 40 (E8 l) true (E8 [b]) (aq3 _) (aq3 _) (by rw [acC,acC]; simp; omega)
 rw [av1] at this
 exact this
theorem aiM (l:List y0) (h:adg l):pc T7 [.sl false (vR eX l)]=some (.sl true (E8 l)):=by
 have hl:=h.1
 suffices hg:j8 (cv T7 [.sl false (vR eX l)] []) fun r=>r.1 = .sl true (E8 l) by
  obtain ⟨⟨v,H⟩,e,h⟩:=hg
  have h:v=_:=h
  subst h
  exact Y9 e (by simp only [c9]) (by simp only [c9,akb])
 rw [amW]
 simp only [c9]
 refine j8.N1 (I:=fun n st H=>∃ i:Nat,n=l.length-i/\i<=l.length/\st=[.sl true (E8 (l.take i)),.sl false (vR eX l),.int .i64 (l.length:Nat),.int .i64 (i:Nat)])
  (P:=fun q vs H=>q=0/\vs=[.sl true (E8 l)]) (n:=l.length) ?_ ⟨0,by omega,by omega,rfl⟩ ?_
 ·rintro n st H ⟨i,rfl,hi,rfl⟩
  rw [ajJ]
  by_cases hlt:i<l.length
  ·have i1:=ajj false l .i64 i hlt
   have e1:=anG l[i].o8 (h.2 _ (List.getElem_mem hlt)).2
   have ap:=ays (l:=l.take i) l[i] (by simp; omega)
   rw [<-List.take_succ_eq_append_getElem hlt] at ap
   have e3:b7 (.int .i64) .add (.int .i64 (i:Int)) (.int .i64 1)=some (.int .i64 ((i+1:Nat):Int)):=A0 _ i 1 (by omega)
   simp only [c9,i1,arf,e1,ap,e3,show ((i:Int)<(l.length:Int)) from by omega]
   exact ⟨_,rfl,.inr ⟨rfl,l.length-(i+1),by omega,i+1,rfl,by omega,rfl⟩⟩
  ·have:i=l.length:=by omega
   subst this
   rw [List.take_length]
   simp only [c9,show ¬ ((l.length:Int)<(l.length:Int)) from by omega]
   exact ⟨_,rfl,.inl ⟨0,rfl,rfl,rfl⟩⟩
 rintro _ _ H ⟨rfl,rfl⟩
 simp only [c9]
 exact j8.here rfl
def G4 (p:Bs) (b:y0):Bool:=decide (b.path=p)
end Go.Proofs.YtaapfgpeeghmeaaGreatDoor.Q
