/- Contracts: hops of a mail. -/
import Derived.Test.YtpbgpeojlfdpoaaGreatDoorExactTraceMailC50mailZ
namespace Go.Proofs.YtpbgpeojlfdpoaaGreatDoor.Q
open Go Go.AM
set_option linter.unusedSimpArgs false
set_option linter.unusedVariables false
set_option linter.unusedSectionVars false
def ake (s t:Bs):Bool:=decide (s.take t.length=t)
def an5:Bs:=[114,101,99,101,105,118,101,100,58]
def agL (l:Bs):Bool:=ake (F2 l) an5
def N4:List Bs->Nat
 | []=>0
 | l::r=>if l=[] then 0 else (if agL l=true then 1 else 0)+N4 r
theorem aop (s t:Bs) (hs:s.length<=1000000000):qc J3 [.str s,.str t]=some (.bool (ake s t)):=by
 refine o7 (H:=[]) ?_ (by simp only [g9]) rfl
 show cv _ _ _=_
 rw [abZ]
 by_cases h:t.length<=s.length
 ·have p1:=alV s .i64 t.length h
  simp only [g9,p1,ake,show ((s.length:Int)>=(t.length:Int)) from by omega]
 ·have:¬ s.take t.length=t:=fun e=>by
   have:=congrArg List.length e
   simp at this; omega
  simp only [g9,ake,this,show ¬ ((s.length:Int)>=(t.length:Int)) from by omega]
theorem apZ (s t:Bs) (hs:s.length<=1000000000):qc R4 [.str s,.str t]=some (.bool (ake s t)):=by
 have e1:=aop s t hs
 refine o7 (H:=[]) ?_ (by simp only [g9]) rfl
 show cv _ _ _=_
 rw [agT]
 simp only [g9,e1]
theorem ako (s:Bs) (hs:s.length<=1000000000):qc Y3 [.str s]=some (.str (F2 s)):=by
 suffices h:p9 (cv Y3 [.str s] []) fun r=>r.1 = .str (F2 s) by
  obtain ⟨⟨v,H⟩,e,h⟩:=h
  have h:v=_:=h
  subst h
  exact o7 e (by simp only [g9]) rfl
 rw [ajf]
 simp only [g9,awl,aid,List.nil_append]
 refine p9.T6 (I:=fun n st H=>∃ i:Nat,n=s.length-i/\i<=s.length/\st=[.o9 0 0 s.length 1,.o9 0 0 s.length 1,.int .i64 (s.length:Nat),.int .i64 (i:Nat)]/\H[0]? = some (cB (Z6 s i)))
  (P:=fun m vs H=>m=0/\vs=[.o9 0 0 s.length 1]/\H[0]? = some (cB (F2 s))) (n:=s.length) ?_ ⟨0,by omega,by omega,rfl,by simp [Z6]⟩ ?_
 ·rintro n st H ⟨i,rfl,hi,rfl,hk⟩
  rw [agS]
  by_cases hlt:i<s.length
  ·have ho:=ak4 0 0 s.length 1 .i64 i hlt
   have hl:=ax0 (g:=I7) (i:=i) hk (by rw [afk]; exact hlt)
   rw [agZ s i hlt] at hl
   have e2:b9 (.int .i64) .add (.int .i64 (i:Int)) (.int .i64 1)=some (.int .i64 ((i+1:Nat):Int)):=A6 _ i 1 (by omega)
   have hst:=axk (i:=i) (acG s[i]) hk (by rw [afk]; exact hlt)
   rw [afE s i hlt] at hst
   simp only [Nat.zero_add,Nat.mul_one] at ho
   have hself:(Z6 s i).set i s[i]=Z6 s i:=by
    have h:=agZ s i hlt
    rw [<-h]
    exact List.set_getElem_self _
   have stay:acG s[i]=s[i]->H[0]? = some (cB (Z6 s (i+1))):=fun hb=>by
    rw [hk,<-afE s i hlt,hb,hself]
   by_cases h1:(s[i].toNat:Int)>=65
   ·by_cases h2:(s[i].toNat:Int)<=90
    ·have e3:=asn (.int .u8) (s[i].toNat:Int) 32 (by omega) (by omega)
     rw [<-apw h1 h2] at e3
     simp only [g9,ho,hl,h1,h2,e3,hst,e2,show ((i:Int)<(s.length:Int)) from by omega]
     exact ⟨_,rfl,.inr ⟨rfl,s.length-(i+1),by omega,i+1,rfl,by omega,rfl,by rw [List.getElem?_set,if_pos rfl,if_pos (List.getElem?_eq_some_iff.1 hk).1]⟩⟩
    ·simp only [g9,ho,hl,h1,h2,e2,show ((i:Int)<(s.length:Int)) from by omega]
     exact ⟨_,rfl,.inr ⟨rfl,s.length-(i+1),by omega,i+1,rfl,by omega,rfl,stay (aiT (by omega))⟩⟩
   ·simp only [g9,ho,hl,h1,e2,show ((i:Int)<(s.length:Int)) from by omega]
    exact ⟨_,rfl,.inr ⟨rfl,s.length-(i+1),by omega,i+1,rfl,by omega,rfl,stay (aiT (by omega))⟩⟩
  ·have:i=s.length:=by omega
   subst this
   simp only [g9,show ¬ ((s.length:Int)<(s.length:Int)) from by omega]
   exact ⟨_,rfl,.inl ⟨0,rfl,rfl,rfl,by rw [hk,aoq]⟩⟩
 rintro _ _ H ⟨rfl,rfl,hk⟩
 have hb:=avP hk
 have hl:(F2 s).length=s.length:=by simp [F2]
 rw [hl] at hb
 simp only [g9,hb]
 exact p9.here rfl
theorem aqe (m:s8) (h:SmM m):qc ac2 [.agg (cM m)]=some (.int .i64 (N4 m.lines:Nat)):=by
 have hl:=h.2.2.1
 suffices hg:p9 (cv ac2 [.agg (cM m)] []) fun r=>r.1 = .int .i64 (N4 m.lines:Nat) by
  obtain ⟨⟨v,H⟩,e,h⟩:=hg
  have h:v=_:=h
  subst h
  exact o7 e (by simp only [g9]) rfl
 rw [ao4]
 simp only [g9]
 refine p9.T6 (I:=fun n st H=>∃ (i k:Nat),n=m.lines.length-i/\i<=m.lines.length/\k<=i/\st=[.int .i64 (k:Nat),.sl false (vT m.lines),.int .i64 (m.lines.length:Nat),.int .i64 (i:Nat)]/\k+N4 (m.lines.drop i)=N4 m.lines)
  (P:=fun q vs H=>q=0/\vs=[.int .i64 (N4 m.lines:Nat)]) (n:=m.lines.length) ?_ ⟨0,0,by omega,by omega,by omega,rfl,by simp⟩ ?_
 ·rintro n st H ⟨i,k,rfl,hi,hk,rfl,inv⟩
  rw [ak7]
  by_cases hlt:i<m.lines.length
  ·have i1:=Z9 false m.lines .i64 i hlt
   have hsm:=h.2.2.2 _ (List.getElem_mem hlt)
   have e1:=ako m.lines[i] (by omega)
   have e3:qc R4 [.str (F2 m.lines[i]),.str [114,101,99,101,105,118,101,100,58]]=some (.bool (agL m.lines[i])):=apZ (F2 m.lines[i]) an5 (by simp [F2]; omega)
   have e2:b9 (.int .i64) .add (.int .i64 (i:Int)) (.int .i64 1)=some (.int .i64 ((i+1:Nat):Int)):=A6 _ i 1 (by omega)
   have e4:b9 (.int .i64) .add (.int .i64 (k:Int)) (.int .i64 1)=some (.int .i64 ((k+1:Nat):Int)):=A6 _ k 1 (by omega)
   rw [List.drop_eq_getElem_cons hlt,N4] at inv
   by_cases h0:m.lines[i]=[]
   ·rw [if_pos h0,Nat.add_zero] at inv
    subst inv
    simp only [g9,i1,h0,show ((i:Int)<(m.lines.length:Int)) from by omega]
    exact ⟨_,rfl,.inl ⟨0,rfl,rfl,rfl⟩⟩
   ·rw [if_neg h0] at inv
    by_cases hb:agL m.lines[i]=true
    ·rw [if_pos hb] at inv
     simp only [g9,i1,h0,e1,e3,hb,e2,e4,show ((i:Int)<(m.lines.length:Int)) from by omega]
     exact ⟨_,rfl,.inr ⟨rfl,m.lines.length-(i+1),by omega,i+1,k+1,rfl,by omega,by omega,rfl,by omega⟩⟩
    ·rw [if_neg hb] at inv
     simp only [g9,i1,h0,e1,e3,hb,e2,show ((i:Int)<(m.lines.length:Int)) from by omega]
     exact ⟨_,rfl,.inr ⟨rfl,m.lines.length-(i+1),by omega,i+1,k,rfl,by omega,by omega,rfl,by omega⟩⟩
  ·have:i=m.lines.length:=by omega
   subst this
   rw [List.drop_length,N4,Nat.add_zero] at inv
   subst inv
   simp only [g9,show ¬ ((m.lines.length:Int)<(m.lines.length:Int)) from by omega]
   exact ⟨_,rfl,.inl ⟨0,rfl,rfl,rfl⟩⟩
 rintro _ _ H ⟨rfl,rfl⟩
 simp only [g9]
 exact p9.here rfl
theorem alq (s t:Bs) (hs:s.length<=1000000000) (ht:t.length<=1000000000):qc ace [.str s,.str t]=some (.bool (decide (F2 s=F2 t))):=by
 have e1:=acg s hs
 have e2:=acg t ht
 refine o7 (H:=[]) ?_ (by simp only [g9]) rfl
 show cv _ _ _=_
 rw [aj4]
 simp only [g9,e1,e2]
theorem aug (s:Bs) (hs:s.length<=1000000000):qc adG [.str s]=some (.bool (agL s)):=by
 refine o7 (H:=[]) ?_ (by simp only [g9]) rfl
 show cv _ _ _=_
 rw [al8]
 by_cases h:9<=s.length
 ·have p1:E1 (.str s) none (some (.int .i64 9))=some (.str (s.take 9)):=alV s .i64 9 h
  have e1:=alq (s.take 9) [82,101,99,101,105,118,101,100,58] (by simp; omega) (by simp)
  have k:decide (F2 (s.take 9)=F2 [82,101,99,101,105,118,101,100,58])=agL s:=by
   unfold agL ake
   rw [show F2 [82,101,99,101,105,118,101,100,58]=an5 from rfl,show an5.length=9 from rfl]
   unfold F2
   rw [List.map_take]
  rw [k] at e1
  simp only [g9,p1,e1,show ((s.length:Int)>=9) from by omega]
 ·have:agL s=false:=by
   unfold agL ake
   refine decide_eq_false fun e=>?_
   have:=congrArg List.length e
   rw [show an5.length=9 from rfl] at this
   simp [F2] at this; omega
  simp only [g9,this,show ¬ ((s.length:Int)>=9) from by omega]
theorem asc (l:List Bs) (h:SmT l):qc aaS [.sl false (vT l)]=some (.int .i64 (N4 l:Nat)):=by
 have hl:=h.1
 suffices hg:p9 (cv aaS [.sl false (vT l)] []) fun r=>r.1 = .int .i64 (N4 l:Nat) by
  obtain ⟨⟨v,H⟩,e,h⟩:=hg
  have h:v=_:=h
  subst h
  exact o7 e (by simp only [g9]) rfl
 rw [alk]
 refine p9.T6 (I:=fun n st H=>∃ (i k:Nat),n=l.length-i/\i<=l.length/\k<=i/\st=[.sl false (vT l),.int .i64 (k:Nat),.int .i64 (i:Nat)]/\k+N4 (l.drop i)=N4 l)
  (P:=fun q vs H=>q=0/\vs=[.int .i64 (N4 l:Nat)]) (n:=l.length) ?_ ⟨0,0,by omega,by omega,by omega,rfl,by simp⟩ ?_
 ·rintro n st H ⟨i,k,rfl,hi,hk,rfl,inv⟩
  rw [ahO]
  by_cases hlt:i<l.length
  ·have i1:=Z9 false l .i64 i hlt
   have hsm:=h.2 _ (List.getElem_mem hlt)
   have e1:=aug l[i] (by omega)
   have e2:b9 (.int .i64) .add (.int .i64 (i:Int)) (.int .i64 1)=some (.int .i64 ((i+1:Nat):Int)):=A6 _ i 1 (by omega)
   have e4:b9 (.int .i64) .add (.int .i64 (k:Int)) (.int .i64 1)=some (.int .i64 ((k+1:Nat):Int)):=A6 _ k 1 (by omega)
   rw [List.drop_eq_getElem_cons hlt,N4] at inv
   by_cases h0:l[i]=[]
   ·rw [if_pos h0,Nat.add_zero] at inv
    subst inv
    simp only [g9,i1,h0,show ((i:Int)<(l.length:Int)) from by omega]
    exact ⟨_,rfl,.inl ⟨0,rfl,rfl,rfl⟩⟩
   ·rw [if_neg h0] at inv
    by_cases hb:agL l[i]=true
    ·rw [if_pos hb] at inv
     simp only [g9,i1,h0,e1,hb,e2,e4,show ((i:Int)<(l.length:Int)) from by omega]
     exact ⟨_,rfl,.inr ⟨rfl,l.length-(i+1),by omega,i+1,k+1,rfl,by omega,by omega,rfl,by omega⟩⟩
    ·rw [if_neg hb] at inv
     simp only [g9,i1,h0,e1,hb,e2,show ((i:Int)<(l.length:Int)) from by omega]
     exact ⟨_,rfl,.inr ⟨rfl,l.length-(i+1),by omega,i+1,k,rfl,by omega,by omega,rfl,by omega⟩⟩
  ·have:i=l.length:=by omega
   subst this
   rw [List.drop_length,N4,Nat.add_zero] at inv
   subst inv
   simp only [g9,show ¬ ((l.length:Int)<(l.length:Int)) from by omega]
   exact ⟨_,rfl,.inl ⟨0,rfl,rfl,rfl⟩⟩
 rintro _ _ H ⟨rfl,rfl⟩
 simp only [g9]
 exact p9.here rfl
end Go.Proofs.YtpbgpeojlfdpoaaGreatDoor.Q
