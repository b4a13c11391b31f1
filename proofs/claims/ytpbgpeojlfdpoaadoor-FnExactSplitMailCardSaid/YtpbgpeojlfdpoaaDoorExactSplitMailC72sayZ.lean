/- Contracts: a dialogue, as the second writing tells it. -/
import Derived.Test.YtpbgpeojlfdpoaaDoorExactSplitMailC70boxesZ
namespace Go.Proofs.YtpbgpeojlfdpoaaDoor.Q
open Go Go.AM
set_option linter.unusedSimpArgs false
set_option linter.unusedVariables false
set_option linter.unusedSectionVars false
def vO (l:List j0):List (List V):=l.map cO
theorem ac7 (l:List j0):(vO l).length=l.length:=by simp [vO]
theorem att (m:j0):j3 (cO m)=cM m:=by simp only [cO,cM,j3,strip,C2]
theorem acD:∀ l:List j0,l9 (vO l)=vR eM l
 | []=>rfl
 | m::l=>by
   show j3 (cO m)::l9 (vO l)=_
   rw [acD l,att]; rfl
theorem ar9 (l:List j0):A9 3 (vO l)=true:=by simp [A9,vO,cO]
theorem asg (l k:List j0):vO l++vO k=vO (l++k):=by simp [vO]
theorem afn:∀ l:List j0,z8 (vO l)=true
 | []=>rfl
 | m::l=>by
   show (o8 (cO m)&&z8 (vO l))=true
   rw [afn l,Bool.and_true]
   simp only [cO,o8,data,acM,Bool.and_self]
def cSo (s:N8):List V:=[.int .i64 s.state,.str s.host,.str s.L8.from_,.sl true (vT s.L8.to),.sl true (vT s.L8.lines),.sl true (vO s.done)]
def AsS (v:V) (s:N8):Prop:=∃ x y z,v = .agg [.int .i64 s.state,.str s.host,.str s.L8.from_,x,y,z]/\strip x = .sl false (vT s.L8.to)/\strip y = .sl false (vT s.L8.lines)/\strip z = .sl false (vR eM s.done)
theorem AsS.own (s:N8):AsS (.agg (cSo s)) s:=⟨_,_,_,rfl,by simp only [strip,C2],by simp only [strip,C2],by simp only [strip,acD]⟩
theorem AsS.str (s:N8):AsS (.agg (cS s)) s:=⟨_,_,_,rfl,by simp only [strip,C2],by simp only [strip,C2],by simp only [strip,aaB]⟩
theorem agO {l:List j0} (m:j0) (h:l.length+1<=2000000):F1 false 3 64 (vO l) (.sl true [[.str m.from_,.sl true (vT m.to),.sl true (vT m.lines)]])=some (.sl true (vO (l++[m]))):=by
 have:=adV 3 64 (vO l) true (vO [m]) (ar9 _) (ar9 _) (by rw [ac7,ac7]; simp; omega)
 rw [asg] at this
 exact this
theorem ahL {g:Nat->Option (List V)} {k off:Nat} {H:VH} {cs:List V} {v:V} (h:H[k]? = some cs) (hv:cs[off]? = some v):y3 g true false 1 (.ptr k off) H=some (v,H.set k (C8 cs off [strip v])):=by
 simp only [y3,h,abv,hv,Option.bind_some,Option.map_some]
theorem ani {g:Nat->Option (List V)} {k n:Nat} {H:VH} {cs:List V} (h:H[k]? = some cs) (hn:cs.length=n):y3 g true true n (.ptr k 0) H=some (.agg cs,H.set k (j3 cs)):=by
 have e:H7 cs 0 n=some cs:=by rw [J1 (by omega)]; simp [<-hn]
 have e2:C8 cs 0 (j3 cs)=j3 cs:=by
  unfold C8
  rw [Y9]; simp
 simp only [y3,h,abv,e,Option.bind_some,Option.map_some,e2]
theorem ajD {k:Nat} {H:VH} {cs c:List V} (h:H[k]? = some cs) (hn:c.length=cs.length):M6 (.ptr k 0) c H=some (H.set k c):=by
 have e2:C8 cs 0 c=c:=by
  unfold C8
  rw [show 0+c.length=cs.length from by omega]; simp
 rw [akw h (by omega),e2]
theorem Q6 (H:VH) (a b:List V):(H++[a]).set H.length b=H++[b]:=by simp
def Lg (H H':VH):Prop:=∃ X,H'=H++X
theorem Lg.refl (H:VH):Lg H H:=⟨[],by simp⟩
theorem Lg.one (H:VH) (a:List V):Lg H (H++[a]):=⟨[a],rfl⟩
theorem Lg.trans {a b c:VH} (h:Lg a b) (k:Lg b c):Lg a c:=by
 obtain ⟨x,rfl⟩:=h
 obtain ⟨y,rfl⟩:=k
 exact ⟨x++y,by simp⟩
def noM:j0:=⟨[],[],[]⟩
def noS:N8:=⟨0,[],noM,[]⟩
theorem anm (m:j0) (h:Z6 m):pc aaI [.agg (cM m)]=some (.agg (cO m)):=by
 have a1:F1 false 1 16 [] (.sl false (vT m.to))=some (.sl true (vT ([]++m.to))):=adV 1 16 [] false (vT m.to) rfl (W6 _) (by have:=h.2.1.1; rw [P3]; simp; omega)
 have a2:F1 false 1 16 [] (.sl false (vT m.lines))=some (.sl true (vT ([]++m.lines))):=adV 1 16 [] false (vT m.lines) rfl (W6 _) (by have:=h.2.2.1; rw [P3]; simp; omega)
 rw [List.nil_append] at a1 a2
 refine ahI (H:=[]) ?_ (by simp only [b9]) (by simp only [b9,afe])
 show cv _ _ _=_
 rw [agI]
 simp only [b9,a1,a2,afe]
theorem ajb (l:List j0) (h:ae5 l):pc N0 [.sl false (vR eM l)]=some (.sl true (vO l)):=by
 have hl:=h.1
 suffices hg:o9 (cv N0 [.sl false (vR eM l)] []) fun r=>r.1 = .sl true (vO l) by
  obtain ⟨⟨v,H⟩,e,h⟩:=hg
  have h:v=_:=h
  subst h
  exact ahI e (by simp only [b9]) (by simp only [b9,afn])
 rw [ae8]
 simp only [b9]
 refine o9.P8 (I:=fun n st H=>∃ i:Nat,n=l.length-i/\i<=l.length/\st=[.sl true (vO (l.take i)),.sl false (vR eM l),.int .i64 (l.length:Nat),.int .i64 (i:Nat)])
  (P:=fun q vs H=>q=0/\vs=[.sl true (vO l)]) (n:=l.length) ?_ ⟨0,by omega,by omega,rfl⟩ ?_
 ·rintro n st H ⟨i,rfl,hi,rfl⟩
  rw [adR]
  by_cases hlt:i<l.length
  ·have i1:=ahe false l .i64 i hlt
   have e1:=anm l[i] (h.2 _ (List.getElem_mem hlt))
   simp only [N5,afe] at e1
   have ap:=agO (l:=l.take i) l[i] (by simp; omega)
   rw [<-List.take_succ_eq_append_getElem hlt] at ap
   have e3:a8 (.int .i64) .add (.int .i64 (i:Int)) (.int .i64 1)=some (.int .i64 ((i+1:Nat):Int)):=s9 _ i 1 (by omega)
   simp only [b9,i1,e1,ap,e3,show ((i:Int)<(l.length:Int)) from by omega]
   exact ⟨_,rfl,.inr ⟨rfl,l.length-(i+1),by omega,i+1,rfl,by omega,rfl⟩⟩
  ·have:i=l.length:=by omega
   subst this
   rw [List.take_length]
   simp only [b9,show ¬ ((l.length:Int)<(l.length:Int)) from by omega]
   exact ⟨_,rfl,.inl ⟨0,rfl,rfl,rfl⟩⟩
 rintro _ _ H ⟨rfl,rfl⟩
 simp only [b9]
 exact o9.here rfl
def SzT (n:Nat) (l:List Bs):Prop:=l.length<=n/\∀ s ∈ l,s.length<=n
def SzM (n:Nat) (m:j0):Prop:=m.from_.length<=n/\SzT n m.to/\SzT n m.lines
def SzS (n:Nat) (s:N8):Prop:=s.host.length<=n/\SzM n s.L8/\s.done.length<=n/\∀ m ∈ s.done,SzM n m
theorem SzT.le {n k:Nat} {l:List Bs} (h:SzT n l) (hk:n<=k):SzT k l:=⟨by have:=h.1; omega,fun s hs=>by have:=h.2 s hs; omega⟩
theorem SzM.le {n k:Nat} {m:j0} (h:SzM n m) (hk:n<=k):SzM k m:=⟨by have:=h.1; omega,h.2.1.le hk,h.2.2.le hk⟩
theorem SzS.le {n k:Nat} {s:N8} (h:SzS n s) (hk:n<=k):SzS k s:=⟨by have:=h.1; omega,h.2.1.le hk,by have:=h.2.2.1; omega,fun m hm=>(h.2.2.2 m hm).le hk⟩
theorem SzT.add {n k:Nat} {l:List Bs} {s:Bs} (h:SzT n l) (hs:s.length<=k) (hk:n+1<=k):SzT k (l++[s]):=by
 refine ⟨by have:=h.1; simp; omega,fun t ht=>?_⟩
 rcases List.mem_append.1 ht with h1 | h1
 ·have:=h.2 t h1; omega
 ·simp at h1; subst h1; exact hs
theorem SzT.none (n:Nat):SzT n []:=⟨by simp,by simp⟩
theorem SzM.none (n:Nat):SzM n noM:=⟨by simp [noM],SzT.none n,SzT.none n⟩
theorem SzS.none (n:Nat):SzS n noS:=⟨by simp [noS],SzM.none n,by simp [noS],by simp [noS]⟩
end Go.Proofs.YtpbgpeojlfdpoaaDoor.Q
