/- Contracts: hops of a mail. -/
import Derived.Test.YtaapfgpeeghmeaaGreatDoorScriptMailC50mailZ
namespace Go.Proofs.YtaapfgpeeghmeaaGreatDoor.Q
open Go Go.AM
set_option linter.unusedSimpArgs false
set_option linter.unusedVariables false
set_option linter.unusedSectionVars false
def agH (s t:Bs):Bool:=decide (s.take t.length=t)
def aC4:Bs:=[114,101,99,101,105,118,101,100,58]
def azZ (l:Bs):Bool:=agH (B4 l) aC4
def aaj:List Bs->Nat
 | []=>0
 | l::r=>if l=[] then 0 else (if azZ l=true then 1 else 0)+aaj r
theorem ahJ (s t:Bs) (hs:s.length<=1000000000):qc G6 [.str s,.str t]=some (.bool (agH s t)):=by
 refine y4 (H:=[]) ?_ (by simp only [c9]) rfl
 show cv _ _ _=_
 rw [aec]
 by_cases h:t.length<=s.length
 ·have p1:=aij s .i64 t.length h
  simp only [c9,p1,agH,show ((s.length:Int)>=(t.length:Int)) from by omega]
 ·have:¬ s.take t.length=t:=fun e=>by
   have:=congrArg List.length e
   simp at this; omega
  simp only [c9,agH,this,show ¬ ((s.length:Int)>=(t.length:Int)) from by omega]
theorem ans (s t:Bs) (hs:s.length<=1000000000):qc T2 [.str s,.str t]=some (.bool (agH s t)):=by
 have e1:=ahJ s t hs
 refine y4 (H:=[]) ?_ (by simp only [c9]) rfl
 show cv _ _ _=_
 rw [ajN]
 simp only [c9,e1]
theorem Q6 (s:Bs) (hs:s.length<=1000000000):qc J8 [.str s]=some (.str (B4 s)):=by
 suffices h:j8 (cv J8 [.str s] []) fun r=>r.1 = .str (B4 s) by
  obtain ⟨⟨v,H⟩,e,h⟩:=h
  have h:v=_:=h
  subst h
  exact y4 e (by simp only [c9]) rfl
 rw [amU]
 simp only [c9,aBb,al1,List.nil_append]
 refine j8.N1 (I:=fun n st H=>∃ i:Nat,n=s.length-i/\i<=s.length/\st=[.y1 0 0 s.length 1,.y1 0 0 s.length 1,.int .i64 (s.length:Nat),.int .i64 (i:Nat)]/\H[0]? = some (cB (abL s i)))
  (P:=fun m vs H=>m=0/\vs=[.y1 0 0 s.length 1]/\H[0]? = some (cB (B4 s))) (n:=s.length) ?_ ⟨0,by omega,by omega,rfl,by simp [abL]⟩ ?_
 ·rintro n st H ⟨i,rfl,hi,rfl,hk⟩
  rw [ajT]
  by_cases hlt:i<s.length
  ·have ho:=apw 0 0 s.length 1 .i64 i hlt
   have hl:=aCS (g:=l5) (i:=i) hk (by rw [ah2]; exact hlt)
   rw [akh s i hlt] at hl
   have e2:b7 (.int .i64) .add (.int .i64 (i:Int)) (.int .i64 1)=some (.int .i64 ((i+1:Nat):Int)):=A0 _ i 1 (by omega)
   have hst:=aCV (i:=i) (aeq s[i]) hk (by rw [ah2]; exact hlt)
   rw [aic s i hlt] at hst
   simp only [Nat.zero_add,Nat.mul_one] at ho
   have hself:(abL s i).set i s[i]=abL s i:=by
    have h:=akh s i hlt
    rw [<-h]
    exact List.set_getElem_self _
   have stay:aeq s[i]=s[i]->H[0]? = some (cB (abL s (i+1))):=fun hb=>by
    rw [hk,<-aic s i hlt,hb,hself]
   by_cases h1:(s[i].toNat:Int)>=65
   ·by_cases h2:(s[i].toNat:Int)<=90
    ·have e3:=azs (.int .u8) (s[i].toNat:Int) 32 (by omega) (by omega)
     rw [<-at2 h1 h2] at e3
     simp only [c9,ho,hl,h1,h2,e3,hst,e2,show ((i:Int)<(s.length:Int)) from by omega]
     exact ⟨_,rfl,.inr ⟨rfl,s.length-(i+1),by omega,i+1,rfl,by omega,rfl,by rw [List.getElem?_set,if_pos rfl,if_pos (List.getElem?_eq_some_iff.1 hk).1]⟩⟩
    ·simp only [c9,ho,hl,h1,h2,e2,show ((i:Int)<(s.length:Int)) from by omega]
     exact ⟨_,rfl,.inr ⟨rfl,s.length-(i+1),by omega,i+1,rfl,by omega,rfl,stay (amy (by omega))⟩⟩
   ·simp only [c9,ho,hl,h1,e2,show ((i:Int)<(s.length:Int)) from by omega]
    exact ⟨_,rfl,.inr ⟨rfl,s.length-(i+1),by omega,i+1,rfl,by omega,rfl,stay (amy (by omega))⟩⟩
  ·have:i=s.length:=by omega
   subst this
   simp only [c9,show ¬ ((s.length:Int)<(s.length:Int)) from by omega]
   exact ⟨_,rfl,.inl ⟨0,rfl,rfl,rfl,by rw [hk,aub]⟩⟩
 rintro _ _ H ⟨rfl,rfl,hk⟩
 have hb:=aB1 hk
 have hl:(B4 s).length=s.length:=by simp [B4]
 rw [hl] at hb
 simp only [c9,hb]
 exact j8.here rfl
theorem ant (m:l9) (h:Z7 m):qc ac3 [.agg (cM m)]=some (.int .i64 (aaj m.lines:Nat)):=by
 have hl:=h.2.2.1
 suffices hg:j8 (cv ac3 [.agg (cM m)] []) fun r=>r.1 = .int .i64 (aaj m.lines:Nat) by
  obtain ⟨⟨v,H⟩,e,h⟩:=hg
  have h:v=_:=h
  subst h
  exact y4 e (by simp only [c9]) rfl
 rw [atY]
 simp only [c9]
 refine j8.N1 (I:=fun n st H=>∃ (i k:Nat),n=m.lines.length-i/\i<=m.lines.length/\k<=i/\st=[.int .i64 (k:Nat),.sl false (vT m.lines),.int .i64 (m.lines.length:Nat),.int .i64 (i:Nat)]/\k+aaj (m.lines.drop i)=aaj m.lines)
  (P:=fun q vs H=>q=0/\vs=[.int .i64 (aaj m.lines:Nat)]) (n:=m.lines.length) ?_ ⟨0,0,by omega,by omega,by omega,rfl,by simp⟩ ?_
 ·rintro n st H ⟨i,k,rfl,hi,hk,rfl,inv⟩
  rw [apV]
  by_cases hlt:i<m.lines.length
  ·have i1:=P8 false m.lines .i64 i hlt
   have hsm:=h.2.2.2 _ (List.getElem_mem hlt)
   have e1:=Q6 m.lines[i] (by omega)
   have e3:qc T2 [.str (B4 m.lines[i]),.str [114,101,99,101,105,118,101,100,58]]=some (.bool (azZ m.lines[i])):=ans (B4 m.lines[i]) aC4 (by simp [B4]; omega)
   have e2:b7 (.int .i64) .add (.int .i64 (i:Int)) (.int .i64 1)=some (.int .i64 ((i+1:Nat):Int)):=A0 _ i 1 (by omega)
   have e4:b7 (.int .i64) .add (.int .i64 (k:Int)) (.int .i64 1)=some (.int .i64 ((k+1:Nat):Int)):=A0 _ k 1 (by omega)
   rw [List.drop_eq_getElem_cons hlt,aaj] at inv
   by_cases h0:m.lines[i]=[]
   ·rw [if_pos h0,Nat.add_zero] at inv
    subst inv
    simp only [c9,i1,h0,show ((i:Int)<(m.lines.length:Int)) from by omega]
    exact ⟨_,rfl,.inl ⟨0,rfl,rfl,rfl⟩⟩
   ·rw [if_neg h0] at inv
    by_cases hb:azZ m.lines[i]=true
    ·rw [if_pos hb] at inv
     simp only [c9,i1,h0,e1,e3,hb,e2,e4,show ((i:Int)<(m.lines.length:Int)) from by omega]
     exact ⟨_,rfl,.inr ⟨rfl,m.lines.length-(i+1),by omega,i+1,k+1,rfl,by omega,by omega,rfl,by omega⟩⟩
    ·rw [if_neg hb] at inv
     simp only [c9,i1,h0,e1,e3,hb,e2,show ((i:Int)<(m.lines.length:Int)) from by omega]
     exact ⟨_,rfl,.inr ⟨rfl,m.lines.length-(i+1),by omega,i+1,k,rfl,by omega,by omega,rfl,by omega⟩⟩
  ·have:i=m.lines.length:=by omega
   subst this
   rw [List.drop_length,aaj,Nat.add_zero] at inv
   subst inv
   simp only [c9,show ¬ ((m.lines.length:Int)<(m.lines.length:Int)) from by omega]
   exact ⟨_,rfl,.inl ⟨0,rfl,rfl,rfl⟩⟩
 rintro _ _ H ⟨rfl,rfl⟩
 simp only [c9]
 exact j8.here rfl
def chN (m:l9):Int:=if D6 m 1 30=true then (aaj m.lines:Nat) else 0
theorem an7 (m:l9) (h:Z7 m):qc adQ [.agg (cM m)]=some (.n9 [.int .i64 (chN m),.bool (D6 m 1 30)]):=by
 have e1:=aaz m h
 have e2:=ant m h
 simp only [K4] at e1 e2
 refine y4 (H:=[]) ?_ (by simp only [c9]) (by simp only [c9])
 show cv _ _ _=_
 rw [am1]
 unfold chN
 by_cases hv:D6 m 1 30=true
 ·simp only [c9,e1,e2,hv]
 ·simp only [c9,e1,e2,hv]
theorem apB (xs:Bs):Y4 (cv abI [.sl false (vB xs)] []) (fun v H'=>∃ m,v = .agg (cO m)/\TnM m):=by
 refine Y4.of ?_
 rw [ai7]
 refine aDs.bind ?_
 rintro _ H0 ⟨rfl,R0⟩
 simp only [c9]
 refine (awP R0 (by omega)).bind ?_
 rintro _ H1 ⟨a,rfl,ha,hal,R1⟩
 have w1:=avb (m:=a) R1 (by omega) ha (by omega)
 simp only [K4] at w1
 simp only [c9,X8]
 refine w1.bind ?_
 rintro _ H2 ⟨b,rfl,hb,hbl,R2⟩
 simp only [c9,X8]
 exact j8.here ⟨b,rfl,hb⟩
end Go.Proofs.YtaapfgpeeghmeaaGreatDoor.Q
