/- Contracts: mailboxes in new memory, and where a path is. -/
import Derived.Test.YtaapfgpeeghmeaaGreatDoorScriptTraceC86fdrawsZ
import Derived.Test.YtaapfgpeeghmeaaGreatDoorFnScriptTraceK5
namespace Go.Proofs.YtaapfgpeeghmeaaGreatDoor.Q
open Go Go.AM
set_option linter.unusedSimpArgs false
set_option linter.unusedVariables false
set_option linter.unusedSectionVars false
def cOx (b:A3):List V:=[.str b.path,.sl true (vO b.y7)]
theorem aok (b:A3):eX.e b=[.str b.path,.sl false (vR eM b.y7)]:=by exact id rfl
def L1 (l:List A3):List (List V):=l.map cOx
theorem aex (l:List A3):(L1 l).length=l.length:=by simp [L1]
theorem avy (b:A3):o9 (cOx b)=eX.e b:=by simp only [cOx,aok,o9,strip,ago]
theorem ag1:∀ l:List A3,n9 (L1 l)=vR eX l
 | []=>rfl
 | m::l=>by
   show o9 (cOx m)::n9 (L1 l)=_
   rw [ag1 l,avy]; rfl
theorem anX (l:List A3):F4 2 (L1 l)=true:=by simp [F4,L1,cOx]
theorem az5 (l k:List A3):L1 l++L1 k=L1 (l++k):=by simp [L1]
theorem ais:∀ l:List A3,D5 (L1 l)=true
 | []=>rfl
 | m::l=>by
   show (B3 (cOx m)&&D5 (L1 l))=true
   rw [ais l,Bool.and_true]
   simp only [cOx,B3,data,aoP,Bool.and_self]
theorem aeO (l:List A3):Go.AM.Rows 2 (L1 l):=fun x hx=>by
 obtain ⟨b,_,rfl⟩:=List.mem_map.1 hx
 rfl
theorem aq2:∀ l:List Bs,N9 (vT l)=true
 | []=>rfl
 | m::l=>by
   show (M9 [.str m]&&N9 (vT l))=true
   rw [aq2 l]; rfl
theorem aqu:∀ l:List z7,N9 (vO l)=true
 | []=>rfl
 | m::l=>by
   show (M9 (cO m)&&N9 (vO l))=true
   rw [aqu l]
   simp only [cO,M9,I0,aq2,Bool.true_or,Bool.and_self]
theorem akG:∀ l:List A3,N9 (L1 l)=true
 | []=>rfl
 | m::l=>by
   show (M9 (cOx m)&&N9 (L1 l))=true
   rw [akG l]
   simp only [cOx,M9,I0,aqu,Bool.true_or,Bool.and_self]
theorem ath (l:List A3) (i:Nat) (h:i<l.length):(L1 l)[i]? = some (cOx l[i]):=by simp [L1,List.getElem?_eq_getElem h]
theorem awr {l:List A3} (b:A3) (h:l.length+1<=2000000):aay false 2 40 (L1 l) (.sl true [[.str b.path,.sl true (vO b.y7)]])=some (.sl true (L1 (l++[b]))):=by
 have:=amL 2 40 (L1 l) true (L1 [b]) (anX _) (anX _) (by rw [aex,aex]; simp; omega)
 rw [az5] at this
 exact this
theorem alq (l:List A3) (h:aeF l):pc X6 [.sl false (vR eX l)]=some (.sl true (L1 l)):=by
 have hl:=h.1
 suffices hg:l7 (cv X6 [.sl false (vR eX l)] []) fun r=>r.1 = .sl true (L1 l) by
  obtain ⟨⟨v,H⟩,e,h⟩:=hg
  have h:v=_:=h
  subst h
  exact abJ e (by simp only [j3]) (by simp only [j3,ais])
 rw [ala]
 simp only [j3]
 refine l7.Y5 (I:=fun n st H=>∃ i:Nat,n=l.length-i/\i<=l.length/\st=[.sl true (L1 (l.take i)),.sl false (vR eX l),.int .i64 (l.length:Nat),.int .i64 (i:Nat)])
  (P:=fun q vs H=>q=0/\vs=[.sl true (L1 l)]) (n:=l.length) ?_ ⟨0,by omega,by omega,rfl⟩ ?_
 ·rintro n st H ⟨i,rfl,hi,rfl⟩
  rw [aiH]
  by_cases hlt:i<l.length
  ·have i1:=ahU false l .i64 i hlt
   have e1:=asd l[i].y7 (h.2 _ (List.getElem_mem hlt)).2
   have ap:=awr (l:=l.take i) l[i] (by simp; omega)
   rw [<-List.take_succ_eq_append_getElem hlt] at ap
   have e3:b7 (.int .i64) .add (.int .i64 (i:Int)) (.int .i64 1)=some (.int .i64 ((i+1:Nat):Int)):=C6 _ i 1 (by omega)
   simp only [j3,i1,aok,e1,ap,e3,show ((i:Int)<(l.length:Int)) from by omega]
   exact ⟨_,rfl,.inr ⟨rfl,l.length-(i+1),by omega,i+1,rfl,by omega,rfl⟩⟩
  ·have:i=l.length:=by omega
   subst this
   rw [List.take_length]
   simp only [j3,show ¬ ((l.length:Int)<(l.length:Int)) from by omega]
   exact ⟨_,rfl,.inl ⟨0,rfl,rfl,rfl⟩⟩
 rintro _ _ H ⟨rfl,rfl⟩
 simp only [j3]
 exact l7.here rfl
def K9 (p:Bs) (b:A3):Bool:=decide (b.path=p)
end Go.Proofs.YtaapfgpeeghmeaaGreatDoor.Q
