/- Contracts: hops of a mail. -/
import Derived.Test.YtmokcpfbeggigaaGreatDoorScriptKindC50mailZ
namespace Go.Proofs.YtmokcpfbeggigaaGreatDoor.Q
open Go Go.AM
set_option linter.unusedSimpArgs false
set_option linter.unusedVariables false
set_option linter.unusedSectionVars false
theorem M3 (s:Bs) (hs:s.length<=1000000000):qc D5 [.str s]=some (.str (m7 s)):=by
 suffices h:j2 (cv D5 [.str s] []) fun r=>r.1 = .str (m7 s) by
  obtain ⟨⟨v,H⟩,e,h⟩:=h
  have h:v=_:=h
  subst h
  exact u3 e (by simp only [b8]) rfl
 rw [aji]
 simp only [b8,avq,ah3,List.nil_append]
 refine j2.H5 (I:=fun n st H=>∃ i:Nat,n=s.length-i/\i<=s.length/\st=[.z7 0 0 s.length 1,.z7 0 0 s.length 1,.int .i64 (s.length:Nat),.int .i64 (i:Nat)]/\H[0]? = some (cB (V6 s i)))
  (P:=fun m vs H=>m=0/\vs=[.z7 0 0 s.length 1]/\H[0]? = some (cB (m7 s))) (n:=s.length) ?_ ⟨0,by omega,by omega,rfl,by simp [V6]⟩ ?_
 ·rintro n st H ⟨i,rfl,hi,rfl,hk⟩
  rw [agN]
  by_cases hlt:i<s.length
  ·have ho:=akJ 0 0 s.length 1 .i64 i hlt
   have hl:=ayg (g:=y9) (i:=i) hk (by rw [aev]; exact hlt)
   rw [agv s i hlt] at hl
   have e2:a8 (.int .i64) .add (.int .i64 (i:Int)) (.int .i64 1)=some (.int .i64 ((i+1:Nat):Int)):=p6 _ i 1 (by omega)
   have hst:=aya (i:=i) (adm s[i]) hk (by rw [aev]; exact hlt)
   rw [aeY s i hlt] at hst
   simp only [Nat.zero_add,Nat.mul_one] at ho
   have hself:(V6 s i).set i s[i]=V6 s i:=by
    have h:=agv s i hlt
    rw [<-h]
    exact List.set_getElem_self _
   have stay:adm s[i]=s[i]->H[0]? = some (cB (V6 s (i+1))):=fun hb=>by
    rw [hk,<-aeY s i hlt,hb,hself]
   by_cases h1:(s[i].toNat:Int)>=65
   ·by_cases h2:(s[i].toNat:Int)<=90
    ·have e3:=asm (.int .u8) (s[i].toNat:Int) 32 (by omega) (by omega)
     rw [<-aph h1 h2] at e3
     simp only [b8,ho,hl,h1,h2,e3,hst,e2,show ((i:Int)<(s.length:Int)) from by omega]
     exact ⟨_,rfl,.inr ⟨rfl,s.length-(i+1),by omega,i+1,rfl,by omega,rfl,by rw [List.getElem?_set,if_pos rfl,if_pos (List.getElem?_eq_some_iff.1 hk).1]⟩⟩
    ·simp only [b8,ho,hl,h1,h2,e2,show ((i:Int)<(s.length:Int)) from by omega]
     exact ⟨_,rfl,.inr ⟨rfl,s.length-(i+1),by omega,i+1,rfl,by omega,rfl,stay (aiQ (by omega))⟩⟩
   ·simp only [b8,ho,hl,h1,e2,show ((i:Int)<(s.length:Int)) from by omega]
    exact ⟨_,rfl,.inr ⟨rfl,s.length-(i+1),by omega,i+1,rfl,by omega,rfl,stay (aiQ (by omega))⟩⟩
  ·have:i=s.length:=by omega
   subst this
   simp only [b8,show ¬ ((s.length:Int)<(s.length:Int)) from by omega]
   exact ⟨_,rfl,.inl ⟨0,rfl,rfl,rfl,by rw [hk,ao5]⟩⟩
 rintro _ _ H ⟨rfl,rfl,hk⟩
 have hb:=avS hk
 have hl:(m7 s).length=s.length:=by simp [m7]
 rw [hl] at hb
 simp only [b8,hb]
 exact j2.here rfl
theorem akS (s t:Bs) (hs:s.length<=1000000000) (ht:t.length<=1000000000):qc abv [.str s,.str t]=some (.bool (decide (m7 s=m7 t))):=by
 have e1:=M0 s hs
 have e2:=M0 t ht
 refine u3 (H:=[]) ?_ (by simp only [b8]) rfl
 show cv _ _ _=_
 rw [akp]
 simp only [b8,e1,e2]
end Go.Proofs.YtmokcpfbeggigaaGreatDoor.Q
