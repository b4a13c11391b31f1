/- Contracts: a dialogue, as the program tells it. -/
import Derived.Test.YtaapfgpeeghmeaaGreatDoorScriptTraceC72sayZ
namespace Go.Proofs.YtaapfgpeeghmeaaGreatDoor.Q
open Go Go.AM
set_option linter.unusedSimpArgs false
set_option linter.unusedVariables false
set_option linter.unusedSectionVars false
theorem aiS (l:List Bs) (h:l.length<=2000000):pc E5 [.sl false (vT l)]=some (.sl true (vT l)):=by
 have a1:aay false 1 16 [] (.sl false (vT l))=some (.sl true (vT ([]++l))):=amL 1 16 [] false (vT l) rfl (ahJ _) (by rw [agI]; simp; omega)
 rw [List.nil_append] at a1
 refine abJ (H:=[]) ?_ (by simp only [j3]) (by simp only [j3])
 show cv _ _ _=_
 rw [adF]
 cases l with
 | nil =>
   have e:af8 .eql (.sl false (vT []))=some .ub:=rfl
   have a2:aay false 1 16 [] (.sl false (vT []))=some (.sl true []):=a1
   simp only [j3,e,a2]
   rfl
 | cons a l =>
   have e:af8 .eql (.sl false (vT (a::l)))=some (.bool false):=rfl
   simp only [j3,e,a1]
theorem am6 (m:z7) (h:SmM m):pc abA [.agg (cM m)]=some (.agg (cO m)):=by
 have a1:=aiS m.to (by have:=h.2.1.1; omega)
 have a2:=aiS m.lines (by have:=h.2.2.1; omega)
 refine abJ (H:=[]) ?_ (by simp only [j3]) (by simp only [j3,adq])
 show cv _ _ _=_
 rw [amv]
 simp only [j3,a1,a2,adq]
theorem asd (l:List z7) (h:ajD l):pc aa1 [.sl false (vR eM l)]=some (.sl true (vO l)):=by
 have hl:=h.1
 suffices hg:l7 (cv aa1 [.sl false (vR eM l)] []) fun r=>r.1 = .sl true (vO l) by
  obtain ⟨⟨v,H⟩,e,h⟩:=hg
  have h:v=_:=h
  subst h
  exact abJ e (by simp only [j3]) (by simp only [j3,aoP])
 rw [akZ]
 simp only [j3]
 refine l7.Y5 (I:=fun n st H=>∃ i:Nat,n=l.length-i/\i<=l.length/\st=[.sl true (vO (l.take i)),.sl false (vR eM l),.int .i64 (l.length:Nat),.int .i64 (i:Nat)])
  (P:=fun q vs H=>q=0/\vs=[.sl true (vO l)]) (n:=l.length) ?_ ⟨0,by omega,by omega,rfl⟩ ?_
 ·rintro n st H ⟨i,rfl,hi,rfl⟩
  rw [aiw]
  by_cases hlt:i<l.length
  ·have i1:=avq false l .i64 i hlt
   have e1:=am6 l[i] (h.2 _ (List.getElem_mem hlt))
   simp only [P7,adq] at e1
   have ap:=ao9 (l:=l.take i) l[i] (by simp; omega)
   rw [<-List.take_succ_eq_append_getElem hlt] at ap
   have e3:b7 (.int .i64) .add (.int .i64 (i:Int)) (.int .i64 1)=some (.int .i64 ((i+1:Nat):Int)):=C6 _ i 1 (by omega)
   simp only [j3,i1,e1,ap,e3,show ((i:Int)<(l.length:Int)) from by omega]
   exact ⟨_,rfl,.inr ⟨rfl,l.length-(i+1),by omega,i+1,rfl,by omega,rfl⟩⟩
  ·have:i=l.length:=by omega
   subst this
   rw [List.take_length]
   simp only [j3,show ¬ ((l.length:Int)<(l.length:Int)) from by omega]
   exact ⟨_,rfl,.inl ⟨0,rfl,rfl,rfl⟩⟩
 rintro _ _ H ⟨rfl,rfl⟩
 simp only [j3]
 exact l7.here rfl
def okB (s:E4) (line:Bs):Bool := !decide (s.state=5)&&S5 line
end Go.Proofs.YtaapfgpeeghmeaaGreatDoor.Q
