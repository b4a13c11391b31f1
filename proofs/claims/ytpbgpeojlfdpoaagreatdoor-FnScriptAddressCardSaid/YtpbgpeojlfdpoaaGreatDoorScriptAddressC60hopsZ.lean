/- Contracts: hops of a mail. -/
import Derived.Test.YtpbgpeojlfdpoaaGreatDoorScriptAddressC50mailZ
namespace Go.Proofs.YtpbgpeojlfdpoaaGreatDoor.Q
open Go Go.AM
set_option linter.unusedSimpArgs false
set_option linter.unusedVariables false
set_option linter.unusedSectionVars false
theorem ajp (s:Bs) (hs:s.length<=1000000000):qc U4 [.str s]=some (.str (I8 s)):=by
 suffices h:j9 (cv U4 [.str s] []) fun r=>r.1 = .str (I8 s) by
  obtain ⟨⟨v,H⟩,e,h⟩:=h
  have h:v=_:=h
  subst h
  exact w8 e (by simp only [b8]) rfl
 rw [aiC]
 simp only [b8,auK,ah0,List.nil_append]
 refine j9.P5 (I:=fun n st H=>∃ i:Nat,n=s.length-i/\i<=s.length/\st=[.z8 0 0 s.length 1,.z8 0 0 s.length 1,.int .i64 (s.length:Nat),.int .i64 (i:Nat)]/\H[0]? = some (cB (V8 s i)))
  (P:=fun m vs H=>m=0/\vs=[.z8 0 0 s.length 1]/\H[0]? = some (cB (I8 s))) (n:=s.length) ?_ ⟨0,by omega,by omega,rfl,by simp [V8]⟩ ?_
 ·rintro n st H ⟨i,rfl,hi,rfl,hk⟩
  rw [af7]
  by_cases hlt:i<s.length
  ·have ho:=ala 0 0 s.length 1 .i64 i hlt
   have hl:=aw1 (g:=C5) (i:=i) hk (by rw [aeq]; exact hlt)
   rw [afZ s i hlt] at hl
   have e2:a8 (.int .i64) .add (.int .i64 (i:Int)) (.int .i64 1)=some (.int .i64 ((i+1:Nat):Int)):=y1 _ i 1 (by omega)
   have hst:=awK (i:=i) (adm s[i]) hk (by rw [aeq]; exact hlt)
   rw [ae6 s i hlt] at hst
   simp only [Nat.zero_add,Nat.mul_one] at ho
   have hself:(V8 s i).set i s[i]=V8 s i:=by
    have h:=afZ s i hlt
    rw [<-h]
    exact List.set_getElem_self _
   have stay:adm s[i]=s[i]->H[0]? = some (cB (V8 s (i+1))):=fun hb=>by
    rw [hk,<-ae6 s i hlt,hb,hself]
   by_cases h1:(s[i].toNat:Int)>=65
   ·by_cases h2:(s[i].toNat:Int)<=90
    ·have e3:=arJ (.int .u8) (s[i].toNat:Int) 32 (by omega) (by omega)
     rw [<-anb h1 h2] at e3
     simp only [b8,ho,hl,h1,h2,e3,hst,e2,show ((i:Int)<(s.length:Int)) from by omega]
     exact ⟨_,rfl,.inr ⟨rfl,s.length-(i+1),by omega,i+1,rfl,by omega,rfl,by rw [List.getElem?_set,if_pos rfl,if_pos (List.getElem?_eq_some_iff.1 hk).1]⟩⟩
    ·simp only [b8,ho,hl,h1,h2,e2,show ((i:Int)<(s.length:Int)) from by omega]
     exact ⟨_,rfl,.inr ⟨rfl,s.length-(i+1),by omega,i+1,rfl,by omega,rfl,stay (aiv (by omega))⟩⟩
   ·simp only [b8,ho,hl,h1,e2,show ((i:Int)<(s.length:Int)) from by omega]
    exact ⟨_,rfl,.inr ⟨rfl,s.length-(i+1),by omega,i+1,rfl,by omega,rfl,stay (aiv (by omega))⟩⟩
  ·have:i=s.length:=by omega
   subst this
   simp only [b8,show ¬ ((s.length:Int)<(s.length:Int)) from by omega]
   exact ⟨_,rfl,.inl ⟨0,rfl,rfl,rfl,by rw [hk,anX]⟩⟩
 rintro _ _ H ⟨rfl,rfl,hk⟩
 have hb:=auS hk
 have hl:(I8 s).length=s.length:=by simp [I8]
 rw [hl] at hb
 simp only [b8,hb]
 exact j9.here rfl
end Go.Proofs.YtpbgpeojlfdpoaaGreatDoor.Q
