/- Contracts: hops of a mail. -/
import Derived.Test.YtmokcpfbeggigaaGreatDoorScriptListC50mailZ
namespace Go.Proofs.YtmokcpfbeggigaaGreatDoor.Q
open Go Go.AM
set_option linter.unusedSimpArgs false
set_option linter.unusedVariables false
set_option linter.unusedSectionVars false
theorem ajC (s:Bs) (hs:s.length<=1000000000):qc W0 [.str s]=some (.str (aaF s)):=by
 suffices h:l3 (cv W0 [.str s] []) fun r=>r.1 = .str (aaF s) by
  obtain ⟨⟨v,H⟩,e,h⟩:=h
  have h:v=_:=h
  subst h
  exact y1 e (by simp only [b8]) rfl
 rw [ai9]
 simp only [b8,ayR,alk,List.nil_append]
 refine l3.V3 (I:=fun n st H=>∃ i:Nat,n=s.length-i/\i<=s.length/\st=[.A0 0 0 s.length 1,.A0 0 0 s.length 1,.int .i64 (s.length:Nat),.int .i64 (i:Nat)]/\H[0]? = some (cB (abO s i)))
  (P:=fun m vs H=>m=0/\vs=[.A0 0 0 s.length 1]/\H[0]? = some (cB (aaF s))) (n:=s.length) ?_ ⟨0,by omega,by omega,rfl,by simp [abO]⟩ ?_
 ·rintro n st H ⟨i,rfl,hi,rfl,hk⟩
  rw [agM]
  by_cases hlt:i<s.length
  ·have ho:=alw 0 0 s.length 1 .i64 i hlt
   have hl:=ay8 (g:=C4) (i:=i) hk (by rw [ajO]; exact hlt)
   rw [aoZ s i hlt] at hl
   have e2:a8 (.int .i64) .add (.int .i64 (i:Int)) (.int .i64 1)=some (.int .i64 ((i+1:Nat):Int)):=y4 _ i 1 (by omega)
   have hst:=aza (i:=i) (adK s[i]) hk (by rw [ajO]; exact hlt)
   rw [am5 s i hlt] at hst
   simp only [Nat.zero_add,Nat.mul_one] at ho
   have hself:(abO s i).set i s[i]=abO s i:=by
    have h:=aoZ s i hlt
    rw [<-h]
    exact List.set_getElem_self _
   have stay:adK s[i]=s[i]->H[0]? = some (cB (abO s (i+1))):=fun hb=>by
    rw [hk,<-am5 s i hlt,hb,hself]
   by_cases h1:(s[i].toNat:Int)>=65
   ·by_cases h2:(s[i].toNat:Int)<=90
    ·have e3:=axk (.int .u8) (s[i].toNat:Int) 32 (by omega) (by omega)
     rw [<-au4 h1 h2] at e3
     simp only [b8,ho,hl,h1,h2,e3,hst,e2,show ((i:Int)<(s.length:Int)) from by omega]
     exact ⟨_,rfl,.inr ⟨rfl,s.length-(i+1),by omega,i+1,rfl,by omega,rfl,by rw [List.getElem?_set,if_pos rfl,if_pos (List.getElem?_eq_some_iff.1 hk).1]⟩⟩
    ·simp only [b8,ho,hl,h1,h2,e2,show ((i:Int)<(s.length:Int)) from by omega]
     exact ⟨_,rfl,.inr ⟨rfl,s.length-(i+1),by omega,i+1,rfl,by omega,rfl,stay (aqy (by omega))⟩⟩
   ·simp only [b8,ho,hl,h1,e2,show ((i:Int)<(s.length:Int)) from by omega]
    exact ⟨_,rfl,.inr ⟨rfl,s.length-(i+1),by omega,i+1,rfl,by omega,rfl,stay (aqy (by omega))⟩⟩
  ·have:i=s.length:=by omega
   subst this
   simp only [b8,show ¬ ((s.length:Int)<(s.length:Int)) from by omega]
   exact ⟨_,rfl,.inl ⟨0,rfl,rfl,rfl,by rw [hk,auk]⟩⟩
 rintro _ _ H ⟨rfl,rfl,hk⟩
 have hb:=ayJ hk
 have hl:(aaF s).length=s.length:=by simp [aaF]
 rw [hl] at hb
 simp only [b8,hb]
 exact l3.here rfl
end Go.Proofs.YtmokcpfbeggigaaGreatDoor.Q
