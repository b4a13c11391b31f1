/- Contracts: numbers as texts, days, dates. -/
import Derived.Test.YtaapfgpeeghmeaaGreatDoorScriptMailCa1takeZ
import Derived.Test.YtaapfgpeeghmeaaGreatDoorFnScriptMailK4
namespace Go.Proofs.YtaapfgpeeghmeaaGreatDoor.Q
open Go Go.AM
set_option linter.unusedSimpArgs false
set_option linter.unusedVariables false
set_option linter.unusedSectionVars false
def dgB (n:Nat):UInt8:=UInt8.ofNat (48+n)
def adP:Nat->Nat->Nat->Bs->Bs
 | 0,_,_,out=>out
 | f+1,n,k,out=>if 0<n\/0<k then adP f (n / 10) (k-1) (dgB (n % 10)::out) else out
def H7 (n k:Nat):Bs:=adP (n+k) n k []
theorem axN:∀ (f n k:Nat) (out:Bs),n+k<=f->adP f n k out=adP (n+k) n k out:=by
 intro f
 induction f using Nat.strongRecOn with
 | _ f ih =>
   intro n k out h
   by_cases e:f=n+k
   ·rw [e]
   ·obtain ⟨f,rfl⟩:∃ g,f=g+1:=⟨f-1,by omega⟩
    by_cases hc:0<n\/0<k
    ·obtain ⟨m,hm⟩:∃ m,n+k=m+1:=⟨n+k-1,by omega⟩
     rw [hm]
     simp only [adP,hc,if_true]
     have hlt:n / 10+(k-1)<=m:=by omega
     rw [ih f (by omega) _ _ _ (by omega),ih m (by omega) _ _ _ hlt]
    ·have:n+k=0:=by omega
     rw [this]
     simp only [adP,hc,if_false]
theorem aul:∀ (f n k:Nat) (out:Bs),(adP f n k out).length<=f+out.length
 | 0,n,k,out=>by simp [adP]
 | f+1,n,k,out=>by
   simp only [adP]
   split
   ·have:=aul f (n / 10) (k-1) (dgB (n % 10)::out)
    simp at this; omega
   ·omega
theorem aB8:∀ r:Nat,r<10->(([48,49,50,51,52,53,54,55,56,57]:Bs).drop r).take (r+1-r)=[dgB r]:=by decide
theorem azr (s:Bs):y7 (.str s)=some (.str s):=by exact id rfl
theorem ao3 (k:IntKind) (n:Int):y7 (.int k n)=some (.int k n):=by exact id rfl
theorem abX (n k:Nat) (hn:n<=100000000) (hk:k<=1000):qc B5 [.int .i64 (n:Nat),.int .i64 (k:Nat)]=some (.str (H7 n k)):=by
 suffices h:j8 (cv B5 [.int .i64 (n:Nat),.int .i64 (k:Nat)] []) fun r=>r.1 = .str (H7 n k) by
  obtain ⟨⟨v,H⟩,e,h⟩:=h
  have h:v=_:=h
  subst h
  exact y4 e (by simp only [c9]) rfl
 rw [apS]
 refine j8.N1 (I:=fun r st H=>∃ (m:Nat) (j:Int) (out:Bs),r=m+j.toNat/\m<=100000000/\j<=1000 ∧ -200000000+m<=j/\out.length+m+j.toNat<=200000000/\st=[.int .i64 (m:Nat),.int .i64 j,.str out]/\adP (m+j.toNat) m j.toNat out=H7 n k)
  (P:=fun q vs H=>q=0/\vs=[.str (H7 n k)]) (n:=n+k) ?_ ⟨n,k,[],by simp,hn,by omega,by omega,by simp; omega,rfl,by simp [H7]⟩ ?_
 ·rintro r st H ⟨m,j,out,rfl,hm,hj,hjl,ho,rfl,inv⟩
  rw [ak7]
  by_cases hc:0<m\/0<j.toNat
  ·have e1:b7 (.int .i64) .rem (.int .i64 (m:Nat)) (.int .i64 10)=some (.int .i64 ((m % 10:Nat):Int)):=afq _ m 10 (by omega)
   have e2:b7 (.int .i64) .add (.int .i64 ((m % 10:Nat):Int)) (.int .i64 1)=some (.int .i64 ((m % 10+1:Nat):Int)):=A0 _ (m % 10) 1 (by omega)
   have e3:=asL [48,49,50,51,52,53,54,55,56,57] .i64 .i64 (m % 10) (m % 10+1) (by omega) (by simp; omega)
   rw [aB8 (m % 10) (by omega)] at e3
   have e4:=D9 .str [dgB (m % 10)] out (by simp; omega)
   have e5:b7 (.int .i64) .quo (.int .i64 (m:Nat)) (.int .i64 10)=some (.int .i64 ((m / 10:Nat):Int)):=ahS _ m 10 (by omega) (by omega)
   have e6:b7 (.int .i64) .sub (.int .i64 j) (.int .i64 1)=some (.int .i64 (j-1)):=amq _ j 1 (by omega) (by omega)
   have hto:(j-1).toNat=j.toNat-1:=by omega
   have inv':adP (m / 10+(j-1).toNat) (m / 10) (j-1).toNat (dgB (m % 10)::out)=H7 n k:=by
    obtain ⟨f,hf⟩:∃ f,m+j.toNat=f+1:=⟨m+j.toNat-1,by omega⟩
    rw [hf] at inv
    simp only [adP,hc,if_true] at inv
    rw [hto,<-axN f _ _ _ (by omega)]
    exact inv
   have done:∃ n',n'<m+j.toNat/\∃ (m':Nat) (j':Int) (out':Bs),n'=m'+j'.toNat/\m'<=100000000/\j'<=1000 ∧ -200000000+m'<=j'/\out'.length+m'+j'.toNat<=200000000/\[V.int .i64 ((m / 10:Nat):Int),.int .i64 (j-1),.str ([dgB (m % 10)]++out)]=[.int .i64 (m':Nat),.int .i64 j',.str out']/\adP (m'+j'.toNat) m' j'.toNat out'=H7 n k :=
    ⟨m / 10+(j-1).toNat,by omega,m / 10,j-1,dgB (m % 10)::out,rfl,by omega,by omega,by omega,by simp; omega,rfl,inv'⟩
   by_cases h1:(m:Int)>0
   ·simp only [c9,h1,e1,e2,e3,e4,e5,e6]
    exact ⟨_,rfl,.inr ⟨rfl,done⟩⟩
   ·have h2:j>0:=by omega
    simp only [c9,h1,h2,e1,e2,e3,e4,e5,e6]
    exact ⟨_,rfl,.inr ⟨rfl,done⟩⟩
  ·have h0:m+j.toNat=0:=by omega
   rw [h0] at inv
   have h1:¬ (m:Int)>0:=by omega
   have h2:¬ j>0:=by omega
   simp only [adP] at inv
   subst inv
   simp only [c9,h1,h2]
   exact ⟨_,rfl,.inl ⟨0,rfl,rfl,rfl⟩⟩
 rintro _ _ H ⟨rfl,rfl⟩
 simp only [c9]
 exact j8.here rfl
end Go.Proofs.YtaapfgpeeghmeaaGreatDoor.Q
