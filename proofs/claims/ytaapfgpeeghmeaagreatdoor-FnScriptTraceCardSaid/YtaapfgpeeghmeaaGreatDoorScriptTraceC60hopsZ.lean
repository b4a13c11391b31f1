/- Contracts: hops of a mail. -/
import Derived.Test.YtaapfgpeeghmeaaGreatDoorScriptTraceC50mailZ
namespace Go.Proofs.YtaapfgpeeghmeaaGreatDoor.Q
open Go Go.AM
set_option linter.unusedSimpArgs false
set_option linter.unusedVariables false
set_option linter.unusedSectionVars false
def arI (s t:Bs):Bool:=decide (s.take t.length=t)
def aB2:Bs:=[114,101,99,101,105,118,101,100,58]
def axy (l:Bs):Bool:=arI (abX l) aB2
def adn:List Bs->Nat
 | []=>0
 | l::r=>if l=[] then 0 else (if axy l=true then 1 else 0)+adn r
theorem art (s t:Bs) (hs:s.length<=1000000000):qc O9 [.str s,.str t]=some (.bool (arI s t)):=by
 refine B7 (H:=[]) ?_ (by simp only [j3]) rfl
 show cv _ _ _=_
 rw [ac8]
 by_cases h:t.length<=s.length
 ·have p1:=auo s .i64 t.length h
  simp only [j3,p1,arI,show ((s.length:Int)>=(t.length:Int)) from by omega]
 ·have:¬ s.take t.length=t:=fun e=>by
   have:=congrArg List.length e
   simp at this; omega
  simp only [j3,arI,this,show ¬ ((s.length:Int)>=(t.length:Int)) from by omega]
theorem asa (s t:Bs) (hs:s.length<=1000000000):qc Y3 [.str s,.str t]=some (.bool (arI s t)):=by
 have e1:=art s t hs
 refine B7 (H:=[]) ?_ (by simp only [j3]) rfl
 show cv _ _ _=_
 rw [aiz]
 simp only [j3,e1]
theorem alP (s:Bs) (hs:s.length<=1000000000):qc abb [.str s]=some (.str (abX s)):=by
 suffices h:l7 (cv abb [.str s] []) fun r=>r.1 = .str (abX s) by
  obtain ⟨⟨v,H⟩,e,h⟩:=h
  have h:v=_:=h
  subst h
  exact B7 e (by simp only [j3]) rfl
 rw [alb]
 simp only [j3,aCr,amD,List.nil_append]
 refine l7.Y5 (I:=fun n st H=>∃ i:Nat,n=s.length-i/\i<=s.length/\st=[.l8 0 0 s.length 1,.l8 0 0 s.length 1,.int .i64 (s.length:Nat),.int .i64 (i:Nat)]/\H[0]? = some (cB (adv s i)))
  (P:=fun m vs H=>m=0/\vs=[.l8 0 0 s.length 1]/\H[0]? = some (cB (abX s))) (n:=s.length) ?_ ⟨0,by omega,by omega,rfl,by simp [adv]⟩ ?_
 ·rintro n st H ⟨i,rfl,hi,rfl,hk⟩
  rw [aiy]
  by_cases hlt:i<s.length
  ·have ho:=aqs 0 0 s.length 1 .i64 i hlt
   have hl:=aC4 (g:=o6) (i:=i) hk (by rw [alV]; exact hlt)
   rw [ap4 s i hlt] at hl
   have e2:b7 (.int .i64) .add (.int .i64 (i:Int)) (.int .i64 1)=some (.int .i64 ((i+1:Nat):Int)):=C6 _ i 1 (by omega)
   have hst:=aC2 (i:=i) (ahz s[i]) hk (by rw [alV]; exact hlt)
   rw [apg s i hlt] at hst
   simp only [Nat.zero_add,Nat.mul_one] at ho
   have hself:(adv s i).set i s[i]=adv s i:=by
    have h:=ap4 s i hlt
    rw [<-h]
    exact List.set_getElem_self _
   have stay:ahz s[i]=s[i]->H[0]? = some (cB (adv s (i+1))):=fun hb=>by
    rw [hk,<-apg s i hlt,hb,hself]
   by_cases h1:(s[i].toNat:Int)>=65
   ·by_cases h2:(s[i].toNat:Int)<=90
    ·have e3:=aAQ (.int .u8) (s[i].toNat:Int) 32 (by omega) (by omega)
     rw [<-axO h1 h2] at e3
     simp only [j3,ho,hl,h1,h2,e3,hst,e2,show ((i:Int)<(s.length:Int)) from by omega]
     exact ⟨_,rfl,.inr ⟨rfl,s.length-(i+1),by omega,i+1,rfl,by omega,rfl,by rw [List.getElem?_set,if_pos rfl,if_pos (List.getElem?_eq_some_iff.1 hk).1]⟩⟩
    ·simp only [j3,ho,hl,h1,h2,e2,show ((i:Int)<(s.length:Int)) from by omega]
     exact ⟨_,rfl,.inr ⟨rfl,s.length-(i+1),by omega,i+1,rfl,by omega,rfl,stay (atp (by omega))⟩⟩
   ·simp only [j3,ho,hl,h1,e2,show ((i:Int)<(s.length:Int)) from by omega]
    exact ⟨_,rfl,.inr ⟨rfl,s.length-(i+1),by omega,i+1,rfl,by omega,rfl,stay (atp (by omega))⟩⟩
  ·have:i=s.length:=by omega
   subst this
   simp only [j3,show ¬ ((s.length:Int)<(s.length:Int)) from by omega]
   exact ⟨_,rfl,.inl ⟨0,rfl,rfl,rfl,by rw [hk,axK]⟩⟩
 rintro _ _ H ⟨rfl,rfl,hk⟩
 have hb:=aCk hk
 have hl:(abX s).length=s.length:=by simp [abX]
 rw [hl] at hb
 simp only [j3,hb]
 exact l7.here rfl
theorem ar8 (m:z7) (h:SmM m):qc aee [.agg (cM m)]=some (.int .i64 (adn m.lines:Nat)):=by
 have hl:=h.2.2.1
 suffices hg:l7 (cv aee [.agg (cM m)] []) fun r=>r.1 = .int .i64 (adn m.lines:Nat) by
  obtain ⟨⟨v,H⟩,e,h⟩:=hg
  have h:v=_:=h
  subst h
  exact B7 e (by simp only [j3]) rfl
 rw [aq4]
 simp only [j3]
 refine l7.Y5 (I:=fun n st H=>∃ (i k:Nat),n=m.lines.length-i/\i<=m.lines.length/\k<=i/\st=[.int .i64 (k:Nat),.sl false (vT m.lines),.int .i64 (m.lines.length:Nat),.int .i64 (i:Nat)]/\k+adn (m.lines.drop i)=adn m.lines)
  (P:=fun q vs H=>q=0/\vs=[.int .i64 (adn m.lines:Nat)]) (n:=m.lines.length) ?_ ⟨0,0,by omega,by omega,by omega,rfl,by simp⟩ ?_
 ·rintro n st H ⟨i,k,rfl,hi,hk,rfl,inv⟩
  rw [anf]
  by_cases hlt:i<m.lines.length
  ·have i1:=afc false m.lines .i64 i hlt
   have hsm:=h.2.2.2 _ (List.getElem_mem hlt)
   have e1:=alP m.lines[i] (by omega)
   have e3:qc Y3 [.str (abX m.lines[i]),.str [114,101,99,101,105,118,101,100,58]]=some (.bool (axy m.lines[i])):=asa (abX m.lines[i]) aB2 (by simp [abX]; omega)
   have e2:b7 (.int .i64) .add (.int .i64 (i:Int)) (.int .i64 1)=some (.int .i64 ((i+1:Nat):Int)):=C6 _ i 1 (by omega)
   have e4:b7 (.int .i64) .add (.int .i64 (k:Int)) (.int .i64 1)=some (.int .i64 ((k+1:Nat):Int)):=C6 _ k 1 (by omega)
   rw [List.drop_eq_getElem_cons hlt,adn] at inv
   by_cases h0:m.lines[i]=[]
   ·rw [if_pos h0,Nat.add_zero] at inv
    subst inv
    simp only [j3,i1,h0,show ((i:Int)<(m.lines.length:Int)) from by omega]
    exact ⟨_,rfl,.inl ⟨0,rfl,rfl,rfl⟩⟩
   ·rw [if_neg h0] at inv
    by_cases hb:axy m.lines[i]=true
    ·rw [if_pos hb] at inv
     simp only [j3,i1,h0,e1,e3,hb,e2,e4,show ((i:Int)<(m.lines.length:Int)) from by omega]
     exact ⟨_,rfl,.inr ⟨rfl,m.lines.length-(i+1),by omega,i+1,k+1,rfl,by omega,by omega,rfl,by omega⟩⟩
    ·rw [if_neg hb] at inv
     simp only [j3,i1,h0,e1,e3,hb,e2,show ((i:Int)<(m.lines.length:Int)) from by omega]
     exact ⟨_,rfl,.inr ⟨rfl,m.lines.length-(i+1),by omega,i+1,k,rfl,by omega,by omega,rfl,by omega⟩⟩
  ·have:i=m.lines.length:=by omega
   subst this
   rw [List.drop_length,adn,Nat.add_zero] at inv
   subst inv
   simp only [j3,show ¬ ((m.lines.length:Int)<(m.lines.length:Int)) from by omega]
   exact ⟨_,rfl,.inl ⟨0,rfl,rfl,rfl⟩⟩
 rintro _ _ H ⟨rfl,rfl⟩
 simp only [j3]
 exact l7.here rfl
end Go.Proofs.YtaapfgpeeghmeaaGreatDoor.Q
