/- Contracts: a dialogue, as the second writing tells it. -/
import Derived.Test.YtpbgpeojlfdpoaaGreatDoorExactTraceMailC70boxesZ
namespace Go.Proofs.YtpbgpeojlfdpoaaGreatDoor.Q
open Go Go.AM
set_option linter.unusedSimpArgs false
set_option linter.unusedVariables false
set_option linter.unusedSectionVars false
def vO (l:List s8):List (List V):=l.map cO
theorem auI (m:s8):l8 (cO m)=cM m:=by simp only [cO,cM,l8,strip,S2]
theorem aks:∀ l:List s8,n7 (vO l)=vR eM l
 | []=>rfl
 | m::l=>by
   show l8 (cO m)::n7 (vO l)=_
   rw [aks l,auI]; rfl
theorem aqR:∀ l:List s8,B6 (vO l)=true
 | []=>rfl
 | m::l=>by
   show (s7 (cO m)&&B6 (vO l))=true
   rw [aqR l,Bool.and_true]
   simp only [cO,s7,data,acE,Bool.and_self]
def cSo (s:P5):List V:=[.int .i64 s.state,.str s.host,.str s.N1.from_,.sl true (vT s.N1.to),.sl true (vT s.N1.lines),.sl true (vO s.done)]
def AsS (v:V) (s:P5):Prop:=∃ x y z,v = .agg [.int .i64 s.state,.str s.host,.str s.N1.from_,x,y,z]/\strip x = .sl false (vT s.N1.to)/\strip y = .sl false (vT s.N1.lines)/\strip z = .sl false (vR eM s.done)
theorem AsS.own (s:P5):AsS (.agg (cSo s)) s:=⟨_,_,_,rfl,by simp only [strip,S2],by simp only [strip,S2],by simp only [strip,aks]⟩
theorem AsS.str (s:P5):AsS (.agg (cS s)) s:=⟨_,_,_,rfl,by simp only [strip,S2],by simp only [strip,S2],by simp only [strip,acm]⟩
theorem awC (H:VH) (a b:List V):(H++[a]).set H.length b=H++[b]:=by simp
def Lg (H H':VH):Prop:=∃ X,H'=H++X
theorem Lg.refl (H:VH):Lg H H:=⟨[],by simp⟩
theorem Lg.one (H:VH) (a:List V):Lg H (H++[a]):=⟨[a],rfl⟩
theorem Lg.trans {a b c:VH} (h:Lg a b) (k:Lg b c):Lg a c:=by
 obtain ⟨x,rfl⟩:=h
 obtain ⟨y,rfl⟩:=k
 exact ⟨x++y,by simp⟩
def noM:s8:=⟨[],[],[]⟩
def noS:P5:=⟨0,[],noM,[]⟩
def SzT (n:Nat) (l:List Bs):Prop:=l.length<=n/\∀ s ∈ l,s.length<=n
def SzM (n:Nat) (m:s8):Prop:=m.from_.length<=n/\SzT n m.to/\SzT n m.lines
def SzS (n:Nat) (s:P5):Prop:=s.host.length<=n/\SzM n s.N1/\s.done.length<=n/\∀ m ∈ s.done,SzM n m
theorem SzT.le {n k:Nat} {l:List Bs} (h:SzT n l) (hk:n<=k):SzT k l:=⟨by have:=h.1; omega,fun s hs=>by have:=h.2 s hs; omega⟩
theorem SzM.le {n k:Nat} {m:s8} (h:SzM n m) (hk:n<=k):SzM k m:=⟨by have:=h.1; omega,h.2.1.le hk,h.2.2.le hk⟩
theorem SzS.le {n k:Nat} {s:P5} (h:SzS n s) (hk:n<=k):SzS k s:=⟨by have:=h.1; omega,h.2.1.le hk,by have:=h.2.2.1; omega,fun m hm=>(h.2.2.2 m hm).le hk⟩
theorem SzT.add {n k:Nat} {l:List Bs} {s:Bs} (h:SzT n l) (hs:s.length<=k) (hk:n+1<=k):SzT k (l++[s]):=by
 refine ⟨by have:=h.1; simp; omega,fun t ht=>?_⟩
 rcases List.mem_append.1 ht with h1 | h1
 ·have:=h.2 t h1; omega
 ·simp at h1; subst h1; exact hs
theorem SzT.none (n:Nat):SzT n []:=⟨by simp,by simp⟩
theorem SzM.none (n:Nat):SzM n noM:=⟨by simp [noM],SzT.none n,SzT.none n⟩
theorem SzS.none (n:Nat):SzS n noS:=⟨by simp [noS],SzM.none n,by simp [noS],by simp [noS]⟩
end Go.Proofs.YtpbgpeojlfdpoaaGreatDoor.Q
