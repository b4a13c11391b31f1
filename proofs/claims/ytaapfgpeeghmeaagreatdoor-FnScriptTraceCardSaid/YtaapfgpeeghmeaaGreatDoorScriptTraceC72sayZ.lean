/- Contracts: a dialogue, as the second writing tells it. -/
import Derived.Test.YtaapfgpeeghmeaaGreatDoorScriptTraceC70boxesZ
namespace Go.Proofs.YtaapfgpeeghmeaaGreatDoor.Q
open Go Go.AM
set_option linter.unusedSimpArgs false
set_option linter.unusedVariables false
set_option linter.unusedSectionVars false
def vO (l:List z7):List (List V):=l.map cO
theorem ah9 (l:List z7):(vO l).length=l.length:=by simp [vO]
theorem aqw (m:z7):o9 (cO m)=cM m:=by simp only [cO,cM,o9,strip,U5]
theorem ago:∀ l:List z7,n9 (vO l)=vR eM l
 | []=>rfl
 | m::l=>by
   show o9 (cO m)::n9 (vO l)=_
   rw [ago l,aqw]; rfl
theorem awC (l:List z7):F4 3 (vO l)=true:=by simp [F4,vO,cO]
theorem aBW (l k:List z7):vO l++vO k=vO (l++k):=by simp [vO]
theorem aoP:∀ l:List z7,D5 (vO l)=true
 | []=>rfl
 | m::l=>by
   show (B3 (cO m)&&D5 (vO l))=true
   rw [aoP l,Bool.and_true]
   simp only [cO,B3,data,ah5,Bool.and_self]
def cSo (s:E4):List V:=[.int .i64 s.state,.str s.host,.str s.G9.from_,.sl true (vT s.G9.to),.sl true (vT s.G9.lines),.sl true (vO s.done)]
def AsS (v:V) (s:E4):Prop:=∃ x y z,v = .agg [.int .i64 s.state,.str s.host,.str s.G9.from_,x,y,z]/\strip x = .sl false (vT s.G9.to)/\strip y = .sl false (vT s.G9.lines)/\strip z = .sl false (vR eM s.done)
theorem AsS.own (s:E4):AsS (.agg (cSo s)) s:=⟨_,_,_,rfl,by simp only [strip,U5],by simp only [strip,U5],by simp only [strip,ago]⟩
theorem AsS.str (s:E4):AsS (.agg (cS s)) s:=⟨_,_,_,rfl,by simp only [strip,U5],by simp only [strip,U5],by simp only [strip,adt]⟩
theorem ao9 {l:List z7} (m:z7) (h:l.length+1<=2000000):aay false 3 64 (vO l) (.sl true [[.str m.from_,.sl true (vT m.to),.sl true (vT m.lines)]])=some (.sl true (vO (l++[m]))):=by
 have:=amL 3 64 (vO l) true (vO [m]) (awC _) (awC _) (by rw [ah9,ah9]; simp; omega)
 rw [aBW] at this
 exact this
theorem as1 {g:Nat->Option (List V)} {k off:Nat} {H:VH} {cs:List V} {v:V} (h:H[k]? = some cs) (hv:cs[off]? = some v):B2 g true false 1 (.ptr k off) H=some (v,H.set k (G7 cs off [strip v])):=by
 simp only [B2,h,acC,hv,Option.bind_some,Option.map_some]
theorem aAI {g:Nat->Option (List V)} {k n:Nat} {H:VH} {cs:List V} (h:H[k]? = some cs) (hn:cs.length=n):B2 g true true n (.ptr k 0) H=some (.agg cs,H.set k (o9 cs)):=by
 have e:R6 cs 0 n=some cs:=by rw [O5 (by omega)]; simp [<-hn]
 have e2:G7 cs 0 (o9 cs)=o9 cs:=by
  unfold G7
  rw [abw]; simp
 simp only [B2,h,acC,e,Option.bind_some,Option.map_some,e2]
theorem aB7 {k:Nat} {H:VH} {cs c:List V} (h:H[k]? = some cs) (hn:c.length=cs.length):K8 (.ptr k 0) c H=some (H.set k c):=by
 have e2:G7 cs 0 c=c:=by
  unfold G7
  rw [show 0+c.length=cs.length from by omega]; simp
 rw [aq0 h (by omega),e2]
theorem akM (H:VH) (a b:List V):(H++[a]).set H.length b=H++[b]:=by simp
def Lg (H H':VH):Prop:=∃ X,H'=H++X
theorem Lg.refl (H:VH):Lg H H:=⟨[],by simp⟩
theorem Lg.one (H:VH) (a:List V):Lg H (H++[a]):=⟨[a],rfl⟩
theorem Lg.trans {a b c:VH} (h:Lg a b) (k:Lg b c):Lg a c:=by
 obtain ⟨x,rfl⟩:=h
 obtain ⟨y,rfl⟩:=k
 exact ⟨x++y,by simp⟩
def aBr (r:Bs):Option Bs:=if 2<=r.length/\r.head? = some 60/\r.getLast? = some 62 then some ((r.drop 1).take (r.length-2)) else none
def ayU (s:Bs):Bs:=if (64:UInt8) ∈ s then adz 64 s++[64]++abX (ac7 64 s) else s
def okP (p:Bs):Option Bs:=if ae4 (ayU p)=true then some (ayU p) else none
def aof (w r:Bs):Option Bs:=if w.length<=r.length/\abX (r.take w.length)=w then (aBr (r.drop w.length)).bind okP else none
def noM:z7:=⟨[],[],[]⟩
def noS:E4:=⟨0,[],noM,[]⟩
def ayt (s:E4) (p:Option Bs):E4 × Int :=
 match p with
 | none=>(s,501)
 | some p=>if s.state=1 then (⟨2,s.host,⟨p,[],[]⟩,s.done⟩,250) else (s,503)
def toF (s:E4) (p:Option Bs):E4 × Int :=
 match p with
 | none=>(s,501)
 | some p=>if p=[] then (s,501) else if s.state=2\/s.state=3 then (if s.G9.to.length=10 then (s,452) else (⟨3,s.host,⟨s.G9.from_,s.G9.to++[p],s.G9.lines⟩,s.done⟩,250)) else (s,503)
def avO (s:E4) (h:Bs):E4 × Int:=if afw h=true then (⟨1,h,noM,s.done⟩,250) else (s,501)
def ayB (s:E4) (l:Bs):E4 × Int :=
 if l=[100,97,116,97] then (if s.state=3 then (⟨4,s.host,s.G9,s.done⟩,354) else (s,503))
 else if l=[114,115,101,116] then (⟨if s.state=0 then s.state else 1,s.host,noM,s.done⟩,250)
 else if l=[110,111,111,112] then (s,250)
 else if l=[113,117,105,116] then (⟨5,s.host,noM,s.done⟩,221)
 else (s,500)
def aBs (s:E4) (line:Bs):E4 × Int :=
 if abX (adz 32 line)=[104,101,108,111] then avO s (abX (ac7 32 line))
 else if abX (adz 32 line)=[109,97,105,108] then ayt s (aof [102,114,111,109,58] (ac7 32 line))
 else if abX (adz 32 line)=[114,99,112,116] then toF s (aof [116,111,58] (ac7 32 line))
 else ayB s (abX line)
def auP (l:Bs):Bs:=if l.head? = some 46 then l.drop 1 else l
def ayF (s:E4) (line:Bs):E4 × Int :=
 if line=[46] then
  (if 30<s.G9.lines.length then (⟨1,s.host,noM,s.done⟩,552) else if s.done.length=5 then (⟨1,s.host,noM,s.done⟩,452) else (⟨1,s.host,noM,s.done++[s.G9]⟩,250))
 else if s.G9.lines.length<=30 then (⟨s.state,s.host,⟨s.G9.from_,s.G9.to,s.G9.lines++[auP line]⟩,s.done⟩,0) else (s,0)
def aBX (s:E4) (line:Bs):E4 × Int:=if s.state=4 then ayF s line else aBs s line
def SzT (n:Nat) (l:List Bs):Prop:=l.length<=n/\∀ s ∈ l,s.length<=n
def SzM (n:Nat) (m:z7):Prop:=m.from_.length<=n/\SzT n m.to/\SzT n m.lines
def SzS (n:Nat) (s:E4):Prop:=s.host.length<=n/\SzM n s.G9/\s.done.length<=n/\∀ m ∈ s.done,SzM n m
theorem SzT.le {n k:Nat} {l:List Bs} (h:SzT n l) (hk:n<=k):SzT k l:=⟨by have:=h.1; omega,fun s hs=>by have:=h.2 s hs; omega⟩
theorem SzM.le {n k:Nat} {m:z7} (h:SzM n m) (hk:n<=k):SzM k m:=⟨by have:=h.1; omega,h.2.1.le hk,h.2.2.le hk⟩
theorem SzS.le {n k:Nat} {s:E4} (h:SzS n s) (hk:n<=k):SzS k s:=⟨by have:=h.1; omega,h.2.1.le hk,by have:=h.2.2.1; omega,fun m hm=>(h.2.2.2 m hm).le hk⟩
theorem SzT.add {n k:Nat} {l:List Bs} {s:Bs} (h:SzT n l) (hs:s.length<=k) (hk:n+1<=k):SzT k (l++[s]):=by
 refine ⟨by have:=h.1; simp; omega,fun t ht=>?_⟩
 rcases List.mem_append.1 ht with h1 | h1
 ·have:=h.2 t h1; omega
 ·simp at h1; subst h1; exact hs
theorem SzT.none (n:Nat):SzT n []:=⟨by simp,by simp⟩
theorem SzM.none (n:Nat):SzM n noM:=⟨by simp [noM],SzT.none n,SzT.none n⟩
theorem SzS.none (n:Nat):SzS n noS:=⟨by simp [noS],SzM.none n,by simp [noS],by simp [noS]⟩
end Go.Proofs.YtaapfgpeeghmeaaGreatDoor.Q
