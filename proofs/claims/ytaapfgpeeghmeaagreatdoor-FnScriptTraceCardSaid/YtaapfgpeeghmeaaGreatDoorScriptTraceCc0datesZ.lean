/- Contracts: numbers as texts, days, dates. -/
import Derived.Test.YtaapfgpeeghmeaaGreatDoorScriptTraceCa1takeZ
import Derived.Test.YtaapfgpeeghmeaaGreatDoorFnScriptTraceK4
namespace Go.Proofs.YtaapfgpeeghmeaaGreatDoor.Q
open Go Go.AM
set_option linter.unusedSimpArgs false
set_option linter.unusedVariables false
set_option linter.unusedSectionVars false
def dgB (n:Nat):UInt8:=UInt8.ofNat (48+n)
def aaz:Nat->Nat->Nat->Bs->Bs
 | 0,_,_,out=>out
 | f+1,n,k,out=>if 0<n\/0<k then aaz f (n / 10) (k-1) (dgB (n % 10)::out) else out
def l5 (n k:Nat):Bs:=aaz (n+k) n k []
theorem ajU:∀ (f n k:Nat) (out:Bs),n+k<=f->aaz f n k out=aaz (n+k) n k out:=by
 intro f
 induction f using Nat.strongRecOn with
 | _ f ih =>
   intro n k out h
   by_cases e:f=n+k
   ·rw [e]
   ·obtain ⟨f,rfl⟩:∃ g,f=g+1:=⟨f-1,by omega⟩
    by_cases hc:0<n\/0<k
    ·obtain ⟨m,hm⟩:∃ m,n+k=m+1:=⟨n+k-1,by omega⟩
     rw [hm]
     simp only [aaz,hc,if_true]
     have hlt:n / 10+(k-1)<=m:=by omega
     rw [ih f (by omega) _ _ _ (by omega),ih m (by omega) _ _ _ hlt]
    ·have:n+k=0:=by omega
     rw [this]
     simp only [aaz,hc,if_false]
def afz:Nat->Nat->Bs->Bs
 | 0,n,out=>dgB n::out
 | f+1,n,out=>if 9<n then afz f (n / 10) (dgB (n % 10)::out) else dgB n::out
theorem azX:∀ (f n:Nat) (out:Bs),n<=f->aaz (n+1) n 1 out=afz f n out:=by
 have key:∀ (n:Nat),n<=9->∀ out,aaz (n+1) n 1 out=dgB n::out:=fun n hn out=>by
  simp only [aaz,show (0<n\/0<1) from .inr (by omega),if_true]
  have h1:n / 10=0:=by omega
  rw [h1,Nat.mod_eq_of_lt (by omega)]
  cases n with
  | zero=>rfl
  | succ n=>simp [aaz]
 intro f
 induction f with
 | zero=>intro n out h; exact key n (by omega) out
 | succ f ih =>
   intro n out h
   by_cases h9:9<n
   ·simp only [afz,h9,if_true]
    rw [<-ih (n / 10) _ (by omega)]
    simp only [aaz,show (0<n\/0<1) from .inl (by omega),if_true,Nat.sub_self]
    have h2:0<n / 10:=by omega
    obtain ⟨m,rfl⟩:∃ m,n=m+1:=⟨n-1,by omega⟩
    simp only [aaz,show (0<(m+1) / 10\/0<0) from .inl h2,show (0<(m+1) / 10\/0<1) from .inl h2,if_true]
    rw [ajU m _ _ _ (by omega),ajU ((m+1) / 10) _ _ _ (by omega)]
   ·simp only [afz,h9,if_false]
    exact key n (by omega) out
theorem arn:∀ (f n k:Nat) (out:Bs),(aaz f n k out).length<=f+out.length
 | 0,n,k,out=>by simp [aaz]
 | f+1,n,k,out=>by
   simp only [aaz]
   split
   ·have:=arn f (n / 10) (k-1) (dgB (n % 10)::out)
    simp at this; omega
   ·omega
theorem azU:∀ r:Nat,r<10->(([48,49,50,51,52,53,54,55,56,57]:Bs).drop r).take (r+1-r)=[dgB r]:=by decide
theorem atw (r:Nat) (H:VH) (hr:r<10):ahy (.sl true [[.int .u8 ((48+r:Nat):Int)]]) H=some (.str [dgB r]):=by
 simp only [ahy,adr,Option.map_some]; rfl
theorem arv (r:Nat) (hr:r<10):S7 .u8 (.int .i64 ((48+r:Nat):Int))=some (.int .u8 ((48+r:Nat):Int)):=by
 simp only [S7,IntWalk.u8_in _ (show (0:Int)<=((48+r:Nat):Int)/\((48+r:Nat):Int)<=255 from by omega)]
theorem au8 (s:Bs):A8 (.str s)=some (.str s):=by exact id rfl
theorem Q1 (k:IntKind) (n:Int):A8 (.int k n)=some (.int k n):=by exact id rfl
theorem abq (n k:Nat) (hn:n<=100000000) (hk:k<=1000):qc B6 [.int .i64 (n:Nat),.int .i64 (k:Nat)]=some (.str (l5 n k)):=by
 suffices h:l7 (cv B6 [.int .i64 (n:Nat),.int .i64 (k:Nat)] []) fun r=>r.1 = .str (l5 n k) by
  obtain ⟨⟨v,H⟩,e,h⟩:=h
  have h:v=_:=h
  subst h
  exact B7 e (by simp only [j3]) rfl
 rw [ano]
 refine l7.Y5 (I:=fun r st H=>∃ (m:Nat) (j:Int) (out:Bs),r=m+j.toNat/\m<=100000000/\j<=1000 ∧ -200000000+m<=j/\out.length+m+j.toNat<=200000000/\st=[.int .i64 (m:Nat),.int .i64 j,.str out]/\aaz (m+j.toNat) m j.toNat out=l5 n k)
  (P:=fun q vs H=>q=0/\vs=[.str (l5 n k)]) (n:=n+k) ?_ ⟨n,k,[],by simp,hn,by omega,by omega,by simp; omega,rfl,by simp [l5]⟩ ?_
 ·rintro r st H ⟨m,j,out,rfl,hm,hj,hjl,ho,rfl,inv⟩
  rw [aj3]
  by_cases hc:0<m\/0<j.toNat
  ·have e1:b7 (.int .i64) .rem (.int .i64 (m:Nat)) (.int .i64 10)=some (.int .i64 ((m % 10:Nat):Int)):=X8 _ m 10 (by omega)
   have e2:b7 (.int .i64) .add (.int .i64 ((m % 10:Nat):Int)) (.int .i64 1)=some (.int .i64 ((m % 10+1:Nat):Int)):=C6 _ (m % 10) 1 (by omega)
   have e3:=aCl [48,49,50,51,52,53,54,55,56,57] .i64 .i64 (m % 10) (m % 10+1) (by omega) (by simp; omega)
   rw [azU (m % 10) (by omega)] at e3
   have e4:=N2 .str [dgB (m % 10)] out (by simp; omega)
   have e5:b7 (.int .i64) .quo (.int .i64 (m:Nat)) (.int .i64 10)=some (.int .i64 ((m / 10:Nat):Int)):=aaE _ m 10 (by omega) (by omega)
   have e6:b7 (.int .i64) .sub (.int .i64 j) (.int .i64 1)=some (.int .i64 (j-1)):=afS _ j 1 (by omega) (by omega)
   have hto:(j-1).toNat=j.toNat-1:=by omega
   have inv':aaz (m / 10+(j-1).toNat) (m / 10) (j-1).toNat (dgB (m % 10)::out)=l5 n k:=by
    obtain ⟨f,hf⟩:∃ f,m+j.toNat=f+1:=⟨m+j.toNat-1,by omega⟩
    rw [hf] at inv
    simp only [aaz,hc,if_true] at inv
    rw [hto,<-ajU f _ _ _ (by omega)]
    exact inv
   have done:∃ n',n'<m+j.toNat/\∃ (m':Nat) (j':Int) (out':Bs),n'=m'+j'.toNat/\m'<=100000000/\j'<=1000 ∧ -200000000+m'<=j'/\out'.length+m'+j'.toNat<=200000000/\[V.int .i64 ((m / 10:Nat):Int),.int .i64 (j-1),.str ([dgB (m % 10)]++out)]=[.int .i64 (m':Nat),.int .i64 j',.str out']/\aaz (m'+j'.toNat) m' j'.toNat out'=l5 n k :=
    ⟨m / 10+(j-1).toNat,by omega,m / 10,j-1,dgB (m % 10)::out,rfl,by omega,by omega,by omega,by simp; omega,rfl,inv'⟩
   by_cases h1:(m:Int)>0
   ·simp only [j3,h1,e1,e2,e3,e4,e5,e6]
    exact ⟨_,rfl,.inr ⟨rfl,done⟩⟩
   ·have h2:j>0:=by omega
    simp only [j3,h1,h2,e1,e2,e3,e4,e5,e6]
    exact ⟨_,rfl,.inr ⟨rfl,done⟩⟩
  ·have h0:m+j.toNat=0:=by omega
   rw [h0] at inv
   have h1:¬ (m:Int)>0:=by omega
   have h2:¬ j>0:=by omega
   simp only [aaz] at inv
   subst inv
   simp only [j3,h1,h2]
   exact ⟨_,rfl,.inl ⟨0,rfl,rfl,rfl⟩⟩
 rintro _ _ H ⟨rfl,rfl⟩
 simp only [j3]
 exact l7.here rfl
theorem ai0 (n:Nat) (hn:n<=100000000):qc Q5 [.int .i64 (n:Nat)]=some (.str (l5 n 1)):=by
 have hT:l5 n 1=afz n n []:=azX n n [] (Nat.le_refl _)
 rw [hT]
 suffices h:l7 (cv Q5 [.int .i64 (n:Nat)] []) fun r=>r.1 = .str (afz n n []) by
  obtain ⟨⟨v,H⟩,e,h⟩:=h
  have h:v=_:=h
  subst h
  exact B7 e (by simp only [j3]) rfl
 rw [aoz]
 simp only [j3,show ¬ ((n:Int) < -9223372036854775807) from by omega,show ¬ ((n:Int)<0) from by omega]
 refine l7.Y5 (I:=fun f st H=>∃ (m:Nat) (out:Bs),m<=f/\m<=100000000/\out.length+m<=200000000/\st=[.int .i64 (m:Nat),.str out]/\afz f m out=afz n n [])
  (P:=fun q vs H=>q=0/\∃ (m:Nat) (out:Bs),m<=9/\out.length<=200000000/\vs=[.int .i64 (m:Nat),.str out]/\dgB m::out=afz n n []) (n:=n) ?_ ⟨n,[],by omega,hn,by simp only [List.length_nil]; omega,rfl,rfl⟩ ?_
 ·rintro f st H ⟨m,out,hf,hm,ho,rfl,inv⟩
  rw [ak2]
  by_cases h9:9<m
  ·have e1:b7 (.int .i64) .rem (.int .i64 (m:Nat)) (.int .i64 10)=some (.int .i64 ((m % 10:Nat):Int)):=X8 _ m 10 (by omega)
   have e2:b7 (.int .i64) .add (.int .i64 48) (.int .i64 ((m % 10:Nat):Int))=some (.int .i64 ((48+m % 10:Nat):Int)):=C6 _ 48 (m % 10) (by omega)
   have e3:=arv (m % 10) (by omega)
   have e4:=atw (m % 10) H (by omega)
   have e5:=N2 .str [dgB (m % 10)] out (by simp; omega)
   have e6:b7 (.int .i64) .quo (.int .i64 (m:Nat)) (.int .i64 10)=some (.int .i64 ((m / 10:Nat):Int)):=aaE _ m 10 (by omega) (by omega)
   obtain ⟨f,rfl⟩:∃ g,f=g+1:=⟨f-1,by omega⟩
   simp only [afz,h9,if_true] at inv
   simp only [j3,Q1,e1,e2,e3,e4,e5,e6,show ((m:Int)>9) from by omega]
   exact ⟨_,rfl,.inr ⟨rfl,f,by omega,m / 10,dgB (m % 10)::out,by omega,by omega,by simp; omega,rfl,inv⟩⟩
  ·have inv':dgB m::out=afz n n []:=by
    rw [<-inv]
    cases f with
    | zero=>rfl
    | succ f=>simp only [afz,h9,if_false]
   simp only [j3,show ¬ ((m:Int)>9) from by omega]
   exact ⟨_,rfl,.inl ⟨0,rfl,rfl,m,out,by omega,by omega,rfl,inv'⟩⟩
 rintro _ _ H ⟨rfl,m,out,hm,ho,rfl,inv⟩
 have e2:b7 (.int .i64) .add (.int .i64 48) (.int .i64 ((m:Nat):Int))=some (.int .i64 ((48+m:Nat):Int)):=C6 _ 48 m (by omega)
 have e3:=arv m (by omega)
 have e4:=atw m H (by omega)
 have e5:=N2 .str [dgB m] out (by simp only [List.length_cons,List.length_nil]; omega)
 simp only [j3,Q1,e2,e3,e4,e5]
 exact l7.here (by rw [<-inv])
end Go.Proofs.YtaapfgpeeghmeaaGreatDoor.Q
