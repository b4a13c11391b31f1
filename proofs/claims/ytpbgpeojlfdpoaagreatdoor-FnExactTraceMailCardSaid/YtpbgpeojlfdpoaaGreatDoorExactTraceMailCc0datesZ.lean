/- Contracts: numbers as texts, days, dates. -/
import Derived.Test.YtpbgpeojlfdpoaaGreatDoorExactTraceMailCb2exactmarksZ
import Derived.Test.YtpbgpeojlfdpoaaGreatDoorFnExactTraceMailK4
namespace Go.Proofs.YtpbgpeojlfdpoaaGreatDoor.Q
open Go Go.AM
set_option linter.unusedSimpArgs false
set_option linter.unusedVariables false
set_option linter.unusedSectionVars false
def dgB (n:Nat):UInt8:=UInt8.ofNat (48+n)
def Z8:Nat->Nat->Nat->Bs->Bs
 | 0,_,_,out=>out
 | f+1,n,k,out=>if 0<n\/0<k then Z8 f (n / 10) (k-1) (dgB (n % 10)::out) else out
def B5 (n k:Nat):Bs:=Z8 (n+k) n k []
theorem ahL:∀ (f n k:Nat) (out:Bs),n+k<=f->Z8 f n k out=Z8 (n+k) n k out:=by
 intro f
 induction f using Nat.strongRecOn with
 | _ f ih =>
   intro n k out h
   by_cases e:f=n+k
   ·rw [e]
   ·obtain ⟨f,rfl⟩:∃ g,f=g+1:=⟨f-1,by omega⟩
    by_cases hc:0<n\/0<k
    ·obtain ⟨m,hm⟩:∃ m,n+k=m+1:=⟨n+k-1,by omega⟩
     rw [hm]
     simp only [Z8,hc,if_true]
     have hlt:n / 10+(k-1)<=m:=by omega
     rw [ih f (by omega) _ _ _ (by omega),ih m (by omega) _ _ _ hlt]
    ·have:n+k=0:=by omega
     rw [this]
     simp only [Z8,hc,if_false]
def aeh:Nat->Nat->Bs->Bs
 | 0,n,out=>dgB n::out
 | f+1,n,out=>if 9<n then aeh f (n / 10) (dgB (n % 10)::out) else dgB n::out
theorem awH:∀ (f n:Nat) (out:Bs),n<=f->Z8 (n+1) n 1 out=aeh f n out:=by
 have key:∀ (n:Nat),n<=9->∀ out,Z8 (n+1) n 1 out=dgB n::out:=fun n hn out=>by
  simp only [Z8,show (0<n\/0<1) from .inr (by omega),if_true]
  have h1:n / 10=0:=by omega
  rw [h1,Nat.mod_eq_of_lt (by omega)]
  cases n with
  | zero=>rfl
  | succ n=>simp [Z8]
 intro f
 induction f with
 | zero=>intro n out h; exact key n (by omega) out
 | succ f ih =>
   intro n out h
   by_cases h9:9<n
   ·simp only [aeh,h9,if_true]
    rw [<-ih (n / 10) _ (by omega)]
    simp only [Z8,show (0<n\/0<1) from .inl (by omega),if_true,Nat.sub_self]
    have h2:0<n / 10:=by omega
    obtain ⟨m,rfl⟩:∃ m,n=m+1:=⟨n-1,by omega⟩
    simp only [Z8,show (0<(m+1) / 10\/0<0) from .inl h2,show (0<(m+1) / 10\/0<1) from .inl h2,if_true]
    rw [ahL m _ _ _ (by omega),ahL ((m+1) / 10) _ _ _ (by omega)]
   ·simp only [aeh,h9,if_false]
    exact key n (by omega) out
theorem aoZ:∀ (f n k:Nat) (out:Bs),(Z8 f n k out).length<=f+out.length
 | 0,n,k,out=>by simp [Z8]
 | f+1,n,k,out=>by
   simp only [Z8]
   split
   ·have:=aoZ f (n / 10) (k-1) (dgB (n % 10)::out)
    simp at this; omega
   ·omega
theorem aw0:∀ r:Nat,r<10->(([48,49,50,51,52,53,54,55,56,57]:Bs).drop r).take (r+1-r)=[dgB r]:=by decide
theorem aqn (r:Nat) (H:VH) (hr:r<10):adw (.sl true [[.int .u8 ((48+r:Nat):Int)]]) H=some (.str [dgB r]):=by
 simp only [adw,acv,Option.map_some]; rfl
theorem aou (r:Nat) (hr:r<10):acZ .u8 (.int .i64 ((48+r:Nat):Int))=some (.int .u8 ((48+r:Nat):Int)):=by
 simp only [acZ,IntWalk.u8_in _ (show (0:Int)<=((48+r:Nat):Int)/\((48+r:Nat):Int)<=255 from by omega)]
theorem an4 (s:Bs):A8 (.str s)=some (.str s):=by exact id rfl
theorem asO (k:IntKind) (n:Int):A8 (.int k n)=some (.int k n):=by exact id rfl
theorem aa9 (n k:Nat) (hn:n<=100000000) (hk:k<=1000):qc A3 [.int .i64 (n:Nat),.int .i64 (k:Nat)]=some (.str (B5 n k)):=by
 suffices h:p9 (cv A3 [.int .i64 (n:Nat),.int .i64 (k:Nat)] []) fun r=>r.1 = .str (B5 n k) by
  obtain ⟨⟨v,H⟩,e,h⟩:=h
  have h:v=_:=h
  subst h
  exact o7 e (by simp only [g9]) rfl
 rw [alD]
 refine p9.T6 (I:=fun r st H=>∃ (m:Nat) (j:Int) (out:Bs),r=m+j.toNat/\m<=100000000/\j<=1000 ∧ -200000000+m<=j/\out.length+m+j.toNat<=200000000/\st=[.int .i64 (m:Nat),.int .i64 j,.str out]/\Z8 (m+j.toNat) m j.toNat out=B5 n k)
  (P:=fun q vs H=>q=0/\vs=[.str (B5 n k)]) (n:=n+k) ?_ ⟨n,k,[],by simp,hn,by omega,by omega,by simp; omega,rfl,by simp [B5]⟩ ?_
 ·rintro r st H ⟨m,j,out,rfl,hm,hj,hjl,ho,rfl,inv⟩
  rw [aio]
  by_cases hc:0<m\/0<j.toNat
  ·have e1:b9 (.int .i64) .rem (.int .i64 (m:Nat)) (.int .i64 10)=some (.int .i64 ((m % 10:Nat):Int)):=aec _ m 10 (by omega)
   have e2:b9 (.int .i64) .add (.int .i64 ((m % 10:Nat):Int)) (.int .i64 1)=some (.int .i64 ((m % 10+1:Nat):Int)):=A6 _ (m % 10) 1 (by omega)
   have e3:=anI [48,49,50,51,52,53,54,55,56,57] .i64 .i64 (m % 10) (m % 10+1) (by omega) (by simp; omega)
   rw [aw0 (m % 10) (by omega)] at e3
   have e4:=aal .str [dgB (m % 10)] out (by simp; omega)
   have e5:b9 (.int .i64) .quo (.int .i64 (m:Nat)) (.int .i64 10)=some (.int .i64 ((m / 10:Nat):Int)):=ae5 _ m 10 (by omega) (by omega)
   have e6:b9 (.int .i64) .sub (.int .i64 j) (.int .i64 1)=some (.int .i64 (j-1)):=aeD _ j 1 (by omega) (by omega)
   have hto:(j-1).toNat=j.toNat-1:=by omega
   have inv':Z8 (m / 10+(j-1).toNat) (m / 10) (j-1).toNat (dgB (m % 10)::out)=B5 n k:=by
    obtain ⟨f,hf⟩:∃ f,m+j.toNat=f+1:=⟨m+j.toNat-1,by omega⟩
    rw [hf] at inv
    simp only [Z8,hc,if_true] at inv
    rw [hto,<-ahL f _ _ _ (by omega)]
    exact inv
   have done:∃ n',n'<m+j.toNat/\∃ (m':Nat) (j':Int) (out':Bs),n'=m'+j'.toNat/\m'<=100000000/\j'<=1000 ∧ -200000000+m'<=j'/\out'.length+m'+j'.toNat<=200000000/\[V.int .i64 ((m / 10:Nat):Int),.int .i64 (j-1),.str ([dgB (m % 10)]++out)]=[.int .i64 (m':Nat),.int .i64 j',.str out']/\Z8 (m'+j'.toNat) m' j'.toNat out'=B5 n k :=
    ⟨m / 10+(j-1).toNat,by omega,m / 10,j-1,dgB (m % 10)::out,rfl,by omega,by omega,by omega,by simp; omega,rfl,inv'⟩
   by_cases h1:(m:Int)>0
   ·simp only [g9,h1,e1,e2,e3,e4,e5,e6]
    exact ⟨_,rfl,.inr ⟨rfl,done⟩⟩
   ·have h2:j>0:=by omega
    simp only [g9,h1,h2,e1,e2,e3,e4,e5,e6]
    exact ⟨_,rfl,.inr ⟨rfl,done⟩⟩
  ·have h0:m+j.toNat=0:=by omega
   rw [h0] at inv
   have h1:¬ (m:Int)>0:=by omega
   have h2:¬ j>0:=by omega
   simp only [Z8] at inv
   subst inv
   simp only [g9,h1,h2]
   exact ⟨_,rfl,.inl ⟨0,rfl,rfl,rfl⟩⟩
 rintro _ _ H ⟨rfl,rfl⟩
 simp only [g9]
 exact p9.here rfl
theorem ag8 (n:Nat) (hn:n<=100000000):qc K7 [.int .i64 (n:Nat)]=some (.str (B5 n 1)):=by
 have hT:B5 n 1=aeh n n []:=awH n n [] (Nat.le_refl _)
 rw [hT]
 suffices h:p9 (cv K7 [.int .i64 (n:Nat)] []) fun r=>r.1 = .str (aeh n n []) by
  obtain ⟨⟨v,H⟩,e,h⟩:=h
  have h:v=_:=h
  subst h
  exact o7 e (by simp only [g9]) rfl
 rw [amv]
 simp only [g9,show ¬ ((n:Int) < -9223372036854775807) from by omega,show ¬ ((n:Int)<0) from by omega]
 refine p9.T6 (I:=fun f st H=>∃ (m:Nat) (out:Bs),m<=f/\m<=100000000/\out.length+m<=200000000/\st=[.int .i64 (m:Nat),.str out]/\aeh f m out=aeh n n [])
  (P:=fun q vs H=>q=0/\∃ (m:Nat) (out:Bs),m<=9/\out.length<=200000000/\vs=[.int .i64 (m:Nat),.str out]/\dgB m::out=aeh n n []) (n:=n) ?_ ⟨n,[],by omega,hn,by simp only [List.length_nil]; omega,rfl,rfl⟩ ?_
 ·rintro f st H ⟨m,out,hf,hm,ho,rfl,inv⟩
  rw [ai4]
  by_cases h9:9<m
  ·have e1:b9 (.int .i64) .rem (.int .i64 (m:Nat)) (.int .i64 10)=some (.int .i64 ((m % 10:Nat):Int)):=aec _ m 10 (by omega)
   have e2:b9 (.int .i64) .add (.int .i64 48) (.int .i64 ((m % 10:Nat):Int))=some (.int .i64 ((48+m % 10:Nat):Int)):=A6 _ 48 (m % 10) (by omega)
   have e3:=aou (m % 10) (by omega)
   have e4:=aqn (m % 10) H (by omega)
   have e5:=aal .str [dgB (m % 10)] out (by simp; omega)
   have e6:b9 (.int .i64) .quo (.int .i64 (m:Nat)) (.int .i64 10)=some (.int .i64 ((m / 10:Nat):Int)):=ae5 _ m 10 (by omega) (by omega)
   obtain ⟨f,rfl⟩:∃ g,f=g+1:=⟨f-1,by omega⟩
   simp only [aeh,h9,if_true] at inv
   simp only [g9,asO,e1,e2,e3,e4,e5,e6,show ((m:Int)>9) from by omega]
   exact ⟨_,rfl,.inr ⟨rfl,f,by omega,m / 10,dgB (m % 10)::out,by omega,by omega,by simp; omega,rfl,inv⟩⟩
  ·have inv':dgB m::out=aeh n n []:=by
    rw [<-inv]
    cases f with
    | zero=>rfl
    | succ f=>simp only [aeh,h9,if_false]
   simp only [g9,show ¬ ((m:Int)>9) from by omega]
   exact ⟨_,rfl,.inl ⟨0,rfl,rfl,m,out,by omega,by omega,rfl,inv'⟩⟩
 rintro _ _ H ⟨rfl,m,out,hm,ho,rfl,inv⟩
 have e2:b9 (.int .i64) .add (.int .i64 48) (.int .i64 ((m:Nat):Int))=some (.int .i64 ((48+m:Nat):Int)):=A6 _ 48 m (by omega)
 have e3:=aou m (by omega)
 have e4:=aqn m H (by omega)
 have e5:=aal .str [dgB m] out (by simp only [List.length_cons,List.length_nil]; omega)
 simp only [g9,asO,e2,e3,e4,e5]
 exact p9.here (by rw [<-inv])
end Go.Proofs.YtpbgpeojlfdpoaaGreatDoor.Q
