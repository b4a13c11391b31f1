/- Contracts: a dialogue, as the second writing tells it. -/
import Derived.Test.YtaapfgpeeghmeaaGreatDoorScriptMailC70boxesZ
namespace Go.Proofs.YtaapfgpeeghmeaaGreatDoor.Q
open Go Go.AM
set_option linter.unusedSimpArgs false
set_option linter.unusedVariables false
set_option linter.unusedSectionVars false
def vO (l:List l9):List (List V):=l.map cO
theorem ajx (l:List l9):(vO l).length=l.length:=by simp [vO]
theorem atV (m:l9):m8 (cO m)=cM m:=by simp only [cO,cM,m8,strip,M1]
theorem aco:∀ l:List l9,n8 (vO l)=vR eM l
 | []=>rfl
 | m::l=>by
   show m8 (cO m)::n8 (vO l)=_
   rw [aco l,atV]; rfl
theorem axC (l:List l9):F3 3 (vO l)=true:=by simp [F3,vO,cO]
theorem aEc (l k:List l9):vO l++vO k=vO (l++k):=by simp [vO]
theorem aje:∀ l:List l9,D8 (vO l)=true
 | []=>rfl
 | m::l=>by
   show (A7 (cO m)&&D8 (vO l))=true
   rw [aje l,Bool.and_true]
   simp only [cO,A7,data,ai8,Bool.and_self]
def cSo (s:y6):List V:=[.int .i64 s.state,.str s.host,.str s.j0.from_,.sl true (vT s.j0.to),.sl true (vT s.j0.lines),.sl true (vO s.done)]
theorem I5 (s:y6):cSo s=[.int .i64 s.state,.str s.host,.str s.j0.from_,.sl true (vT s.j0.to),.sl true (vT s.j0.lines),.sl true (vO s.done)]:=by exact id rfl
def AsS (v:V) (s:y6):Prop:=∃ x y z,v = .agg [.int .i64 s.state,.str s.host,.str s.j0.from_,x,y,z]/\strip x = .sl false (vT s.j0.to)/\strip y = .sl false (vT s.j0.lines)/\strip z = .sl false (vR eM s.done)
theorem AsS.own (s:y6):AsS (.agg (cSo s)) s:=⟨_,_,_,rfl,by simp only [strip,M1],by simp only [strip,M1],by simp only [strip,aco]⟩
theorem AsS.str (s:y6):AsS (.agg (cS s)) s:=⟨_,_,_,rfl,by simp only [strip,M1],by simp only [strip,M1],by simp only [strip,aex]⟩
theorem alc {l:List l9} (m:l9) (h:l.length+1<=2000000):F8 false 3 64 (vO l) (.sl true [[.str m.from_,.sl true (vT m.to),.sl true (vT m.lines)]])=some (.sl true (vO (l++[m]))):=by
 have:=aeZ 3 64 (vO l) true (vO [m]) (axC _) (axC _) (by rw [ajx,ajx]; simp; omega)
 rw [aEc] at this
 exact this
theorem aqR {g:Nat->Option (List V)} {k off:Nat} {H:VH} {cs:List V} {v:V} (h:H[k]? = some cs) (hv:cs[off]? = some v):y5 g true false 1 (.ptr k off) H=some (v,H.set k (F7 cs off [strip v])):=by
 simp only [y5,h,acT,hv,Option.bind_some,Option.map_some]
theorem azC {g:Nat->Option (List V)} {k n:Nat} {H:VH} {cs:List V} (h:H[k]? = some cs) (hn:cs.length=n):y5 g true true n (.ptr k 0) H=some (.agg cs,H.set k (m8 cs)):=by
 have e:Q9 cs 0 n=some cs:=by rw [P4 (by omega)]; simp [<-hn]
 have e2:F7 cs 0 (m8 cs)=m8 cs:=by
  unfold F7
  rw [acb]; simp
 simp only [y5,h,acT,e,Option.bind_some,Option.map_some,e2]
theorem aC3 {k:Nat} {H:VH} {cs c:List V} (h:H[k]? = some cs) (hn:c.length=cs.length):E1 (.ptr k 0) c H=some (H.set k c):=by
 have e2:F7 cs 0 c=c:=by
  unfold F7
  rw [show 0+c.length=cs.length from by omega]; simp
 rw [aoW h (by omega),e2]
theorem ajk (H:VH) (a b:List V):(H++[a]).set H.length b=H++[b]:=by simp
def Lg (H H':VH):Prop:=∃ X,H'=H++X
theorem Lg.refl (H:VH):Lg H H:=⟨[],by simp⟩
theorem Lg.one (H:VH) (a:List V):Lg H (H++[a]):=⟨[a],rfl⟩
theorem Lg.trans {a b c:VH} (h:Lg a b) (k:Lg b c):Lg a c:=by
 obtain ⟨x,rfl⟩:=h
 obtain ⟨y,rfl⟩:=k
 exact ⟨x++y,by simp⟩
def agC (r:Bs):Option Bs:=if 2<=r.length/\r.head? = some 60/\r.getLast? = some 62 then some ((r.drop 1).take (r.length-2)) else none
def aeY (s:Bs):Bs:=if (64:UInt8) ∈ s then E4 64 s++[64]++B4 (E5 64 s) else s
def okP (p:Bs):Option Bs:=if abE (aeY p)=true then some (aeY p) else none
def aem (w r:Bs):Option Bs:=if w.length<=r.length/\B4 (r.take w.length)=w then (agC (r.drop w.length)).bind okP else none
def noM:l9:=⟨[],[],[]⟩
def noS:y6:=⟨0,[],noM,[]⟩
def asx (s:y6) (p:Option Bs):y6 × Int :=
 match p with
 | none=>(s,501)
 | some p=>if s.state=1 then (⟨2,s.host,⟨p,[],[]⟩,s.done⟩,250) else (s,503)
def toF (s:y6) (p:Option Bs):y6 × Int :=
 match p with
 | none=>(s,501)
 | some p=>if p=[] then (s,501) else if s.state=2\/s.state=3 then (if s.j0.to.length=10 then (s,452) else (⟨3,s.host,⟨s.j0.from_,s.j0.to++[p],s.j0.lines⟩,s.done⟩,250)) else (s,503)
def apz (s:y6) (h:Bs):y6 × Int:=if V7 h=true then (⟨1,h,noM,s.done⟩,250) else (s,501)
def ao5 (s:y6) (l:Bs):y6 × Int :=
 if l=[100,97,116,97] then (if s.state=3 then (⟨4,s.host,s.j0,s.done⟩,354) else (s,503))
 else if l=[114,115,101,116] then (⟨if s.state=0 then s.state else 1,s.host,noM,s.done⟩,250)
 else if l=[110,111,111,112] then (s,250)
 else if l=[113,117,105,116] then (⟨5,s.host,noM,s.done⟩,221)
 else (s,500)
def aiN (s:y6) (line:Bs):y6 × Int :=
 if B4 (E4 32 line)=[104,101,108,111] then apz s (B4 (E5 32 line))
 else if B4 (E4 32 line)=[109,97,105,108] then asx s (aem [102,114,111,109,58] (E5 32 line))
 else if B4 (E4 32 line)=[114,99,112,116] then toF s (aem [116,111,58] (E5 32 line))
 else ao5 s (B4 line)
def ae6 (l:Bs):Bs:=if l.head? = some 46 then l.drop 1 else l
def aiu (s:y6) (line:Bs):y6 × Int :=
 if line=[46] then
  (if 30<s.j0.lines.length then (⟨1,s.host,noM,s.done⟩,552) else if s.done.length=5 then (⟨1,s.host,noM,s.done⟩,452) else (⟨1,s.host,noM,s.done++[s.j0]⟩,250))
 else if s.j0.lines.length<=30 then (⟨s.state,s.host,⟨s.j0.from_,s.j0.to,s.j0.lines++[ae6 line]⟩,s.done⟩,0) else (s,0)
def ajO (s:y6) (line:Bs):Bool:=afX s&&(!decide (s.state=5)&&A6 line)
def V5 (s:y6) (line:Bs):y6 × Int:=if s.state=4 then aiu s line else aiN s line
def aiL (s:y6) (line:Bs):y6:=if ajO s line=true then (V5 s line).1 else noS
def afF (s:y6) (line:Bs):Int:=if ajO s line=true then (V5 s line).2 else 0
theorem ai2 {c:UInt8} {a z:Bs} (h:c ∉ a):E4 c (a++[c]++z)=a/\E5 c (a++[c]++z)=z:=by
 have hm:c ∈ a++[c]++z:=by simp
 have hi:(a++[c]++z).idxOf c=a.length:=by
  rw [List.append_assoc,List.idxOf_append,if_neg h]; simp
 unfold E4 E5
 rw [if_pos hm,if_pos hm,hi]
 simp
theorem azN {c:UInt8} {s:Bs} (h:c ∈ s):s=E4 c s++[c]++E5 c s:=by
 have hlt:=List.idxOf_lt_length_iff.2 h
 have hg:s[s.idxOf c]=c:=List.getElem_idxOf hlt
 unfold E4 E5
 rw [if_pos h,if_pos h]
 conv=>lhs; rw [<-List.take_append_drop (s.idxOf c) s,List.drop_eq_getElem_cons hlt,hg]
 simp
theorem aks {c:UInt8} {s:Bs} (h:¬ c ∈ s):E4 c s=s/\E5 c s=[]:=by
 unfold E4 E5; rw [if_neg h,if_neg h]; exact ⟨rfl,rfl⟩
def SzT (n:Nat) (l:List Bs):Prop:=l.length<=n/\∀ s ∈ l,s.length<=n
def SzM (n:Nat) (m:l9):Prop:=m.from_.length<=n/\SzT n m.to/\SzT n m.lines
def SzS (n:Nat) (s:y6):Prop:=s.host.length<=n/\SzM n s.j0/\s.done.length<=n/\∀ m ∈ s.done,SzM n m
theorem SzT.le {n k:Nat} {l:List Bs} (h:SzT n l) (hk:n<=k):SzT k l:=⟨by have:=h.1; omega,fun s hs=>by have:=h.2 s hs; omega⟩
theorem SzM.le {n k:Nat} {m:l9} (h:SzM n m) (hk:n<=k):SzM k m:=⟨by have:=h.1; omega,h.2.1.le hk,h.2.2.le hk⟩
theorem SzS.le {n k:Nat} {s:y6} (h:SzS n s) (hk:n<=k):SzS k s:=⟨by have:=h.1; omega,h.2.1.le hk,by have:=h.2.2.1; omega,fun m hm=>(h.2.2.2 m hm).le hk⟩
theorem SzT.add {n k:Nat} {l:List Bs} {s:Bs} (h:SzT n l) (hs:s.length<=k) (hk:n+1<=k):SzT k (l++[s]):=by
 refine ⟨by have:=h.1; simp; omega,fun t ht=>?_⟩
 rcases List.mem_append.1 ht with h1 | h1
 ·have:=h.2 t h1; omega
 ·simp at h1; subst h1; exact hs
theorem SzT.none (n:Nat):SzT n []:=⟨by simp,by simp⟩
theorem SzM.none (n:Nat):SzM n noM:=⟨by simp [noM],SzT.none n,SzT.none n⟩
theorem SzS.none (n:Nat):SzS n noS:=⟨by simp [noS],SzM.none n,by simp [noS],by simp [noS]⟩
theorem SzM.sm {n:Nat} {m:l9} (h:SzM n m) (hn:n<=1049600):Z7 m:=by
 have h:=h.le hn
 exact ⟨h.1,⟨h.2.1.1,h.2.1.2⟩,⟨h.2.2.1,h.2.2.2⟩⟩
theorem SzS.sm {n:Nat} {s:y6} (h:SzS n s) (hn:n<=1049600):SmS s:=by
 have h:=h.le hn
 exact ⟨h.1,h.2.1.sm (Nat.le_refl _),⟨h.2.2.1,fun m hm=>(h.2.2.2 m hm).sm (Nat.le_refl _)⟩⟩
theorem anJ {w r p:Bs} (h:aem w r=some p):p.length<=r.length:=by
 unfold aem at h
 split at h
 ·cases hi:agC (r.drop w.length) with
  | none=>rw [hi] at h; cases h
  | some q =>
    rw [hi,Option.bind_some] at h
    unfold okP at h
    split at h
    ·have h:=Option.some.inj h
     have hq:q.length<=r.length:=by
      unfold agC at hi
      split at hi
      ·rw [<-Option.some.inj hi]; simp; omega
      ·cases hi
     rw [<-h]
     unfold aeY
     split
     ·rename_i hm
      have:=congrArg List.length (azN hm)
      simp at this
      simp [B4]; omega
     ·exact hq
    ·cases h
 ·cases h
theorem aCc {n:Nat} {s:y6} {line:Bs} (h:SzS n s) (hl:line.length<=n):SzS (n+1) (V5 s line).1:=by
 have h1:=h.le (Nat.le_succ n)
 have hz:=ahF 32 line
 have hd:(s.done++[s.j0]).length<=n+1/\∀ m ∈ s.done++[s.j0],SzM (n+1) m:=by
  refine ⟨by have:=h.2.2.1; simp; omega,fun m hm=>?_⟩
  rcases List.mem_append.1 hm with h2 | h2
  ·exact h1.2.2.2 m h2
  ·simp at h2; subst h2; exact h1.2.1
 unfold V5
 split
 ·unfold aiu
  split
  ·split
   ·exact ⟨h1.1,SzM.none _,h1.2.2⟩
   ·split
    ·exact ⟨h1.1,SzM.none _,h1.2.2⟩
    ·exact ⟨h1.1,SzM.none _,hd⟩
  ·split
   ·refine ⟨h1.1,⟨h1.2.1.1,h1.2.1.2.1,h.2.1.2.2.add ?_ (Nat.le_refl _)⟩,h1.2.2⟩
    unfold ae6
    split
    ·simp; omega
    ·omega
   ·exact h1
 ·unfold aiN
  split
  ·unfold apz
   split
   ·exact ⟨by show (B4 (E5 32 line)).length<=n+1; simp [B4]; omega,SzM.none _,h1.2.2⟩
   ·exact h1
  ·split
   ·cases hp:aem [102,114,111,109,58] (E5 32 line) with
    | none=>exact h1
    | some p =>
      have:=anJ hp
      unfold asx
      simp only
      split
      ·exact ⟨h1.1,⟨by show p.length<=n+1; omega,SzT.none _,SzT.none _⟩,h1.2.2⟩
      ·exact h1
   ·split
    ·cases hp:aem [116,111,58] (E5 32 line) with
     | none=>exact h1
     | some p =>
       have:=anJ hp
       unfold toF
       simp only
       split
       ·exact h1
       ·split
        ·split
         ·exact h1
         ·exact ⟨h1.1,⟨h1.2.1.1,h.2.1.2.1.add (by omega) (Nat.le_refl _),h1.2.1.2.2⟩,h1.2.2⟩
        ·exact h1
    ·unfold ao5
     split
     ·split<;>exact h1
     ·split
      ·exact ⟨h1.1,SzM.none _,h1.2.2⟩
      ·split
       ·exact h1
       ·split
        ·exact ⟨h1.1,SzM.none _,h1.2.2⟩
        ·exact h1
end Go.Proofs.YtaapfgpeeghmeaaGreatDoor.Q
