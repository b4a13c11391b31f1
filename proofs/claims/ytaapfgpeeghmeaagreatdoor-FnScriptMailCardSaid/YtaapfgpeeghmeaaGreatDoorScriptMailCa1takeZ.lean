/- Contracts: mails are taken. -/
import Derived.Test.YtaapfgpeeghmeaaGreatDoorScriptMailC99addboxZ
import Derived.Test.YtaapfgpeeghmeaaGreatDoorFnScriptMailK4
namespace Go.Proofs.YtaapfgpeeghmeaaGreatDoor.Q
open Go Go.AM
set_option linter.unusedSimpArgs false
set_option linter.unusedVariables false
set_option linter.unusedSectionVars false
def abj (l:List y0) (p:Bs):Bool:=Q3 l&&(l.any (G4 p) && !decide ((C8 l (l.findIdx (G4 p))).o8.length=0))
def ahf (l:List y0) (p:Bs):List y0:=if abj l p=true then l.set (l.findIdx (G4 p)) ⟨(C8 l (l.findIdx (G4 p))).path,(C8 l (l.findIdx (G4 p))).o8.drop 1⟩ else []
def aaf (l:List y0) (p:Bs):l9:=if abj l p=true then (C8 l (l.findIdx (G4 p))).o8.headD ⟨[],[],[]⟩ else ⟨[],[],[]⟩
def m0:l9:=⟨[],[],[]⟩
theorem awv {r:List (List V)}:D8 r=true<->∀ x ∈ r,A7 x=true:=by
 induction r with
 | nil=>simp [D8]
 | cons x r ih=>simp [D8,ih]
theorem apO {g:VH->V->Option (V × VH)} (hg:∀ H v,I0 v=true->g H v=some (v,H)):∀ (vs:List V) (H:VH),N2 vs=true->ouL g H vs=some (vs,H)
 | [],_,_=>rfl
 | v::vs,H,h=>by
   simp only [N2,Bool.and_eq_true] at h
   simp only [ouL,hg H v h.1,apO hg vs H h.2,Option.bind_some]
theorem ajX:∀ (d:Nat) (H:VH) (v:V),I0 v=true->ou d H v=some (v,H)
 | 0,H,v,h=>by simp only [ou,h]
 | d+1,H,v,h=>by
   cases v with
   | y1=>simp [I0] at h
   | agg vs=>simp only [I0] at h; simp only [ou,apO (ajX d) vs H h,Option.bind_some]
   | n9 vs=>simp only [I0] at h; simp only [ou,apO (ajX d) vs H h,Option.bind_some]
   | _=>simp only [ou,h]
theorem asb:∀ a b:List V,N2 (a++b)=(N2 a&&N2 b)
 | [],b=>by simp [N2]
 | v::a,b=>by simp only [List.cons_append,N2,asb a b,Bool.and_assoc]
theorem aoY:∀ {r:List (List V)},O2 r=true->N2 r.flatten=true
 | [],_=>rfl
 | x::r,h=>by
   simp only [O2,Bool.and_eq_true] at h
   simp only [List.flatten_cons,asb,h.1,aoY h.2,Bool.and_self]
theorem ayT (d:Nat) (H:VH) (k m e:Nat):ou (d+1) H (.y1 k 0 (m+1) e)=(H[k]?).bind fun cs=>if 0=0/\1<e/\cs.length=(m+1)*e then (ouL (ou d) (H.set k []) cs).bind fun r=>some (.sl true (D5 e (m+1) r.1),r.2) else none:=rfl
def amp (H:VH) (kk:List Nat) (v:V) (ms:List l9):Prop:=(kk=[]/\ms=[]/\(v = .sl true []\/∃ q,v = .y1 q 0 0 3))\/(∃ q,kk=[q]/\ms ≠ []/\v = .y1 q 0 ms.length 3/\H[q]? = some (vO ms).flatten)
def abM (H:VH):List Nat->List (List V)->List y0->Prop
 | ks,r,[]=>ks=[]/\r=[]
 | ks,r,b::l=>∃ v r' kk ks',r=[.str b.path,v]::r'/\ks=kk++ks'/\amp H kk v b.o8/\abM H ks' r' l
theorem amp.mono {H H':VH} {kk:List Nat} {v:V} {ms:List l9} (h:amp H kk v ms) (e:∀ j ∈ kk,H'[j]? = H[j]?):amp H' kk v ms:=by
 rcases h with h | ⟨q,rfl,h2,h3,h4⟩
 ·exact .inl h
 ·exact .inr ⟨q,rfl,h2,h3,by rw [e q (by simp),h4]⟩
theorem abM.mono {H H':VH}:∀ {l:List y0} {ks:List Nat} {r:List (List V)},abM H ks r l->(∀ j ∈ ks,H'[j]? = H[j]?)->abM H' ks r l
 | [],_,_,h,_=>h
 | b::l,ks,r,h,e=>by
   obtain ⟨v,r',kk,ks',rfl,rfl,h1,h2⟩:=h
   exact ⟨v,r',kk,ks',rfl,rfl,h1.mono fun j hj=>e j (by simp [hj]),h2.mono fun j hj=>e j (by simp [hj])⟩
theorem abM.rows {H:VH}:∀ {l:List y0} {ks:List Nat} {r:List (List V)},abM H ks r l->Go.AM.Rows 2 r/\r.length=l.length
 | [],_,_,h=>by obtain ⟨_,rfl⟩:=h; exact ⟨fun x hx=>by simp at hx,rfl⟩
 | b::l,ks,r,h=>by
   obtain ⟨v,r',kk,ks',rfl,rfl,h1,h2⟩:=h
   obtain ⟨a1,a2⟩:=h2.rows
   exact ⟨fun x hx=>by
    rcases List.mem_cons.1 hx with rfl | hx
    ·rfl
    ·exact a1 x hx,by simp [a2]⟩
theorem abM.at {H:VH}:∀ {l:List y0} {ks:List Nat} {r:List (List V)} {i:Nat} (hi:i<l.length),abM H ks r l->l[i].o8 ≠ [] →
 ∃ k ks1 ks2,ks=ks1++k::ks2/\r[i]? = some [.str l[i].path,.y1 k 0 l[i].o8.length 3]/\H[k]? = some (vO l[i].o8).flatten ∧
   ∀ H' kk v ms,(∀ j ∈ ks1++ks2,H'[j]? = H[j]?)->amp H' kk v ms->abM H' (ks1++kk++ks2) (r.set i [.str l[i].path,v]) (l.set i ⟨l[i].path,ms⟩)
 | [],_,_,i,hi,_,_=>by simp at hi
 | b::l,ks,r,0,_,h,hm=>by
   obtain ⟨v,r',kk,ks',rfl,rfl,h1,h2⟩:=h
   rcases h1 with ⟨_,h,_⟩ | ⟨q,rfl,h3,rfl,h4⟩
   ·exact absurd h hm
   ·refine ⟨q,[],ks',rfl,rfl,h4,fun H' kk v ms e hc=>?_⟩
    exact ⟨v,r',kk,ks',rfl,by simp,hc,h2.mono fun j hj=>e j (by simpa using hj)⟩
 | b::l,ks,r,i+1,hi,h,hm=>by
   obtain ⟨v,r',kk0,ks',rfl,rfl,h1,h2⟩:=h
   obtain ⟨k,ks1,ks2,rfl,g1,g2,g3⟩:=abM.at (i:=i) (by simpa using hi) h2 hm
   refine ⟨k,kk0++ks1,ks2,by simp,g1,g2,fun H' kk v' ms e hc=>?_⟩
   refine ⟨v,_,kk0,ks1++kk++ks2,rfl,by simp,h1.mono fun j hj=>e j (by simp [hj]),g3 H' kk v' ms (fun j hj=>e j ?_) hc⟩
   simp only [List.mem_append] at hj ⊢
   rcases hj with hj | hj
   ·exact .inl (.inr hj)
   ·exact .inr hj
def OwX:List (List V)->List y0->Prop
 | s,[]=>s=[]
 | s,b::l=>∃ o s',s=[.str b.path,.sl o (vO b.o8)]::s'/\(o=true\/b.o8=[])/\OwX s' l
theorem OwX.nil:OwX [] []:=rfl
theorem abM.ou {d:Nat}:∀ {l:List y0} {H:VH} {ks:List Nat} {r:List (List V)},abM H ks r l->ks.Nodup->∃ s H',ouL (Go.AM.ou (d+2)) H r.flatten=some (s.flatten,H')/\RoX s l/\O2 s=true/\OwX s l
 | [],H,_,_,h,_=>by
   obtain ⟨rfl,rfl⟩:=h
   exact ⟨[],H,rfl,RoX.nil,rfl,rfl⟩
 | b::l,H,ks,r,h,hn=>by
   obtain ⟨v,r',kk,ks',rfl,rfl,h1,h2⟩:=h
   have hs:ouL (Go.AM.ou (d+2)) H ([V.str b.path,v]::r').flatten=(Go.AM.ou (d+2) H v).bind fun a=>(ouL (Go.AM.ou (d+2)) a.2 r'.flatten).bind fun c=>some (V.str b.path::a.1::c.1,c.2):=by
    show ouL (Go.AM.ou (d+2)) H (V.str b.path::v::r'.flatten)=_
    simp only [ouL,ajX (d+2) H (.str b.path) rfl,Option.bind_some]
    cases Go.AM.ou (d+2) H v with
    | none=>rfl
    | some a =>
      simp only [Option.bind_some]
      cases ouL (Go.AM.ou (d+2)) a.2 r'.flatten<;>rfl
   rcases h1 with ⟨rfl,hm,hv⟩ | ⟨q,rfl,hm,rfl,hq⟩
   ·obtain ⟨s,H',g1,g2,g3,g4⟩:=abM.ou (d:=d) h2 (by simpa using hn)
    have hv':∃ o,Go.AM.ou (d+2) H v=some (.sl o [],H):=by
     rcases hv with rfl | ⟨q,rfl⟩
     ·exact ⟨true,rfl⟩
     ·exact ⟨false,rfl⟩
    obtain ⟨o,hv'⟩:=hv'
    refine ⟨[.str b.path,.sl o []]::s,H',by rw [hs,hv']; simp only [Option.bind_some,g1]; rfl,?_,by simp only [O2,N2,I0,g3,List.isEmpty_nil,Bool.or_true,Bool.and_self],⟨o,s,by rw [hm]; rfl,.inr hm,g4⟩⟩
    have:=RoX.app (r:=[[.str b.path,.sl o []]]) (l:=[b]) ⟨by obtain ⟨p,ms⟩:=b; subst hm; rfl,rfl,rfl⟩ g2
    exact this
   ·have hn':ks'.Nodup/\q ∉ ks':=by simp at hn; exact ⟨hn.2,hn.1⟩
    have h2':abM (H.set q []) ks' r' l:=h2.mono fun j hj=>by
     rw [List.getElem?_set_ne (fun e=>hn'.2 (by rw [e]; exact hj))]
    obtain ⟨s,H',g1,g2,g3,g4⟩:=abM.ou (d:=d) h2' hn'.1
    have hl:(vO b.o8).flatten.length=b.o8.length*3:=by have:=(aqN b.o8).flat; rw [this,ajx]
    have hv':Go.AM.ou (d+2) H (.y1 q 0 b.o8.length 3)=some (.sl true (vO b.o8),H.set q []):=by
     have hown:N2 (vO b.o8).flatten=true:=aoY (atp b.o8)
     have hch:D5 3 b.o8.length (vO b.o8).flatten=vO b.o8:=by have:=(aqN b.o8).chunk; rw [ajx] at this; exact this
     have h0:b.o8.length ≠ 0:=fun e=>hm (List.length_eq_zero_iff.1 e)
     obtain ⟨n,hn⟩:=Nat.exists_eq_succ_of_ne_zero h0
     rw [hn] at hl hch ⊢
     refine (ayT (d+1) H q n 3).trans ?_
     rw [hq,Option.bind_some,if_pos ⟨rfl,by omega,hl⟩,apO (ajX (d+1)) _ _ hown,Option.bind_some]
     show some (V.sl true (D5 3 n.succ (vO b.o8).flatten),_)=_
     rw [hch]
    refine ⟨cOx b::s,H',by rw [hs,hv']; simp only [Option.bind_some,g1]; rfl,?_,?_,⟨true,s,rfl,.inl rfl,g4⟩⟩
    ·exact RoX.app (RoX.own [b]) g2
    ·have:=aiY [b]
     simp only [E8,List.map_cons,List.map_nil,O2,Bool.and_true] at this
     simp only [O2,this,g3,Bool.and_self]
theorem awq:∀ (l:List y0) (H:VH),∃ ks r G,U9 1 H (E8 l)=(r.flatten,H++G)/\abM (H++G) ks r l/\ks.Nodup/\∀ j ∈ ks,H.length<=j/\j<(H++G).length
 | [],H=>⟨[],[],[],by simp [E8,U9],⟨rfl,rfl⟩,List.nodup_nil,by simp⟩
 | ⟨p,[]⟩::l,H=>by
   obtain ⟨ks,r,G,e,h1,h2,h3⟩:=awq l H
   refine ⟨ks,[.str p,.sl true []]::r,G,?_,⟨_,r,[],ks,rfl,rfl,.inl ⟨rfl,rfl,.inl rfl⟩,h1⟩,h2,h3⟩
   show U9 1 H ([V.str p,.sl true []]::E8 l)=_
   simp only [U9,W9,prom,e]
   rfl
 | ⟨p,m::ms⟩::l,H=>by
   obtain ⟨ks,r,G,e,h1,h2,h3⟩:=awq l (H++[(vO (m::ms)).flatten])
   refine ⟨H.length::ks,[.str p,.y1 H.length 0 (m::ms).length 3]::r,[(vO (m::ms)).flatten]++G,?_,⟨_,r,[H.length],ks,rfl,rfl,.inr ⟨H.length,rfl,by simp,rfl,?_⟩,by rw [<-List.append_assoc]; exact h1⟩,?_,?_⟩
   ·have e2:W9 1 H [V.str p,.sl true (vO (m::ms))]=([.str p,.y1 H.length 0 (m::ms).length 3],H++[(vO (m::ms)).flatten]):=by
     have:vO (m::ms)=cO m::vO ms:=rfl
     rw [this]
     simp only [W9,prom,ad2,List.length_cons,ajx]
     rfl
    show U9 1 H ([V.str p,.sl true (vO (m::ms))]::E8 l)=_
    simp only [U9,e2,e,List.append_assoc]
    rfl
   ·simp
   ·rw [List.nodup_cons]
    exact ⟨fun hm=>by have:=(h3 _ hm).1; simp at this; omega,h2⟩
   ·intro j hj
    rcases List.mem_cons.1 hj with rfl | hj
    ·simp
    ·have:=h3 j hj; simp at this ⊢; omega
theorem ayr {R:Type} (l:List y0) (hl:l ≠ []) (K:V->VH->Option R):∃ ks r H,W8 2 (.sl true (E8 l)) [] K=K (.y1 H.length 0 l.length 2) (H++[r.flatten])/\abM H ks r l/\ks.Nodup/\∀ j ∈ ks,j<H.length:=by
 obtain ⟨ks,r,G,e,h1,h2,h3⟩:=awq l []
 rw [List.nil_append] at e h1 h3
 refine ⟨ks,r,G,?_,h1,h2,fun j hj=>(h3 j hj).2⟩
 unfold W8
 simp only [I0,Bool.true_or,aiY,Bool.and_self]
 cases l with
 | nil=>exact absurd rfl hl
 | cons b l =>
   have:E8 (b::l)=cOx b::E8 l:=rfl
   rw [this] at e ⊢
   simp only [prom,e,List.length_cons,acC]
   rfl
theorem aE2 {call:B8} {f:FuncId} {args:List V} {r v v':V} {H:VH} (h:call f args []=some (r,H)) (h1:C1 args=true) (hd:data r=false) (hu:afd H r=some v) (hd2:data v=false) (ho:ouR H r=some v'):U6 call f args=some v':=by
 simp only [U6,h1,h,Option.bind_some,hd,hu,hd2,ouD,ho]
theorem aB5 {k m:Nat} {H:VH} {cs:List V} (hk:H[k]? = some cs) (hc:cs.length=m*3) (hm:1<=m):cv L5 [.y1 k 0 m 3,.int .i64 0,.int .i64 1] H=some (.y1 H.length 0 (m-1) 3,H.set k []++[cs.drop 3]):=by
 show M3 vb _ _ _=_
 rw [afo vb _ _ _ (g:=atZ 3) rfl]
 simp only [atZ,hk,Option.bind_some]
 rw [if_pos (by first | exact ⟨rfl,hc,by omega,by omega,by omega⟩ | exact ⟨trivial,hc,by omega,by omega,by omega⟩)]
 simp
theorem aCu {k:Nat} {H:VH} {m:l9} {ms:List l9} (hk:H[k]? = some (vO (m::ms)).flatten):y5 l5 true true 3 (.ptr k 0) H=some (.agg (cO m),H.set k (cM m++(vO ms).flatten)):=by
 have e:(vO (m::ms)).flatten=cO m++(vO ms).flatten:=rfl
 have hl:(cO m).length=3:=rfl
 have hs:(cM m).length=3:=rfl
 rw [e] at hk
 simp only [y5,hk,acT,Q9,F7]
 rw [if_pos (by simp [hl])]
 have e1:(List.drop 0 (cO m++(vO ms).flatten)).take 3=cO m:=by rw [List.drop_zero,List.take_append_of_le_length (by omega),List.take_of_length_le (by omega)]
 rw [e1]
 simp only [Option.bind_some,Option.map_some,atV,List.take_zero,List.nil_append,hs,Nat.zero_add]
 rw [List.drop_append_of_le_length (by omega),List.drop_of_length_le (by omega:(cO m).length<=3),List.nil_append]
theorem azU {r:List (List V)} {p:Bs} {k n e:Nat} (h:[V.str p,.y1 k 0 n e] ∈ r):D8 (n8 r)=false:=by
 cases hd:D8 (n8 r) with
 | false=>rfl
 | true =>
   rw [awv] at hd
   have:=hd [.str p,.y1 k 0 n e] (by rw [acF]; exact List.mem_map.2 ⟨_,h,rfl⟩)
   simp [A7,data] at this
theorem aoh (l:List y0) (p:Bs) (h:adg l):(∃ o r,RoX r (ahf l p)/\pc L1 [.sl false (vR eX l),.str p]=some (.n9 [.sl o r,.agg (cO (aaf l p)),.bool (abj l p)])) ∧
 ∃ v H s,cv L1 [.sl false (vR eX l),.str p] []=some (v,H)/\ouR H v=some (.n9 [.sl true s,.agg (cO (aaf l p)),.bool (abj l p)])/\OwX s (ahf l p):=by
 have e1:=adX l h
 have e3:=aiM l h
 obtain ⟨at_,kn,hat1,hbp,hat2,hat3⟩:=ajP l p (by have:=h.1; omega)
 have fals:abj l p=false->cv L1 [.sl false (vR eX l),.str p] []=some (.n9 [.sl true [],.agg [.str [],.sl true [],.sl true []],.bool false],[]) →
  (∃ o r,RoX r (ahf l p)/\pc L1 [.sl false (vR eX l),.str p]=some (.n9 [.sl o r,.agg (cO (aaf l p)),.bool (abj l p)])) ∧
  ∃ v H s,cv L1 [.sl false (vR eX l),.str p] []=some (v,H)/\ouR H v=some (.n9 [.sl true s,.agg (cO (aaf l p)),.bool (abj l p)])/\OwX s (ahf l p):=fun hB e=>by
  have hL:ahf l p=[]:=by unfold ahf; rw [hB]; rfl
  have hM:aaf l p=m0:=by unfold aaf; rw [hB]; rfl
  rw [hL,hM,hB]
  exact ⟨⟨true,[],RoX.nil,Y9 e (by simp only [c9]) rfl⟩,_,_,[],e,by unfold ouR; rw [ajX 6 [] _ rfl]; rfl,OwX.nil⟩
 by_cases c1:Q3 l=true
 ·rw [c1] at e1
  obtain ⟨q1,q2,q3,q4⟩:=hat3 (amJ c1)
  by_cases c3:l.any (G4 p)=true
  ·rw [c3] at q1
   subst q1
   have q2:=q2 rfl
   have hx:=aao c3
   rw [<-q2] at hx
   have hat:=K6 hx
   have i1:=ajj false l .i64 _ hx
   rw [arf] at i1
   by_cases c4:l[at_].o8.length=0
   ·refine fals (by unfold abj; rw [c1,c3,<-q2,hat,decide_eq_true c4]; rfl) ?_
    rw [acs]
    simp only [c9,J5,hbp,e1,i1,c4]
    first | done | rfl | simp
   ·have hB:abj l p=true:=by unfold abj; rw [c1,c3,<-q2,hat,decide_eq_false c4]; rfl
    have hL:ahf l p=l.set at_ ⟨l[at_].path,l[at_].o8.drop 1⟩:=by unfold ahf; rw [hB,<-q2,hat]; rfl
    have hM:aaf l p=l[at_].o8.headD ⟨[],[],[]⟩:=by unfold aaf; rw [hB,<-q2,hat]; rfl
    rw [hL,hM,hB]
    have hn:l ≠ []:=fun e=>by subst e; simp at hx
    have hmn:l[at_].o8 ≠ []:=fun e=>c4 (by rw [e]; rfl)
    cases hms:l[at_].o8 with
    | nil=>exact absurd hms hmn
    | cons m ms =>
    have hr1:∃ ks1 ks2 k r H0,abM H0 (ks1++k::ks2) r l/\(ks1++k::ks2).Nodup/\(∀ j ∈ ks1++k::ks2,j<H0.length)/\r[at_]? = some [.str l[at_].path,.y1 k 0 (m::ms).length 3]/\H0[k]? = some (vO (m::ms)).flatten ∧
     (∀ H' kk v ms',(∀ j ∈ ks1++ks2,H'[j]? = H0[j]?)->amp H' kk v ms'->abM H' (ks1++kk++ks2) (r.set at_ [.str l[at_].path,v]) (l.set at_ ⟨l[at_].path,ms'⟩)) ∧
     cv L1 [.sl false (vR eX l),.str p] []=some (.n9 [.y1 H0.length 0 l.length 2,.agg (cO m),.bool true],(((H0++[r.flatten]).set k [])++[(vO ms).flatten]).set H0.length (r.set at_ [.str l[at_].path,.y1 (H0.length+1) 0 ms.length 3]).flatten):=by
     rw [acs]
     have hc4:¬ ((l[at_].o8.length:Int)=0):=by omega
     simp only [c9,J5,ap8,hbp,e1,e3,i1,hc4]
     obtain ⟨ks,r,H0,hp,hlay,hnd,hlt⟩:=ayr l hn (fun o49 h50 =>
 (y8 2 (strip o49) (.int .i64 (at_:Nat))).bind fun x54 =>
 (y2 x54 1).bind fun x55 =>
 (y5 l5 false false 1 x55 h50).bind fun r57 =>
 (y8 3 r57.1 (.int .i64 0)).bind fun x58 =>
 (y5 l5 true true 3 x58 r57.2).bind fun r60 =>
 (C5 3 r60.1).bind fun c63 =>
 (y8 2 (strip o49) (.int .i64 (at_:Nat))).bind fun x68 =>
 (y2 x68 1).bind fun x69 =>
 (y5 l5 false false 1 x69 r60.2).bind fun r71 =>
 (cv L5 [(strip r71.1),(.int .i64 0),(.int .i64 1)] r71.2).bind fun r73 =>
 (y8 2 (strip o49) (.int .i64 (at_:Nat))).bind fun x74 =>
 (y2 x74 1).bind fun x75 =>
 (y7 r73.1).bind fun y77 =>
 (E1 x75 [y77] r73.2).bind fun H78 =>
 some ((V.n9 [o49,(.agg [(c63.getD 0 .g8),(c63.getD 1 .g8),(c63.getD 2 .g8)]),(.bool true)]),H78))
     obtain ⟨k,ks1,ks2,rfl,g1,g2,g3⟩:=hlay.at hx hmn
     rw [hms] at g1 g2
     refine ⟨ks1,ks2,k,r,H0,hlay,hnd,hlt,g1,g2,g3,?_⟩
     refine Eq.trans hp ?_
     have hk0:k<H0.length:=hlt k (by simp)
     have hrw:=hlay.rows
     have hcell:r.flatten[at_*2+1]? = some (.y1 k 0 (ms.length+1) 3):=(hrw.1.get (j:=1) (by omega) g1).trans rfl
     have hP:(H0++[r.flatten])[H0.length]? = some r.flatten:=by simp
     have hPk:(H0++[r.flatten])[k]? = some (vO (m::ms)).flatten:=by rw [List.getElem?_append_left hk0]; exact g2
     have v1:y8 2 (.y1 H0.length 0 l.length 2) (.int .i64 (at_:Nat))=some (.ptr H0.length (at_*2)):=atN hx
     have v2:=aq0 (g:=l5) hP hcell
     have v3:y8 3 (.y1 k 0 (ms.length+1) 3) (.int .i64 0)=some (.ptr k 0):=by have:=atN (k:=k) (n:=ms.length+1) (e:=3) (i:=0) (kk := .i64) (by omega); simpa using this
     have v4:=aCu hPk
     have hQ:((H0++[r.flatten]).set k (cM m++(vO ms).flatten))[H0.length]? = some r.flatten:=by rw [List.getElem?_set_ne (by omega)]; exact hP
     have v5:=aq0 (g:=l5) hQ hcell
     have hQk:((H0++[r.flatten]).set k (cM m++(vO ms).flatten))[k]? = some (cM m++(vO ms).flatten):=by rw [List.getElem?_set_self (by simp; omega)]
     have hml:(vO ms).flatten.length=ms.length*3:=by have:=(aqN ms).flat; rw [this,ajx]
     have v6:=aB5 hQk (m:=ms.length+1) (by simp [hml,K4]; omega) (by omega)
     have hd3:(cM m++(vO ms).flatten).drop 3=(vO ms).flatten:=by rw [K4]; rfl
     rw [hd3,List.set_set,Nat.add_sub_cancel] at v6
     have hln:((H0++[r.flatten]).set k (cM m++(vO ms).flatten)).length=H0.length+1:=by simp
     rw [hln] at v6
     have hS:(((H0++[r.flatten]).set k [])++[(vO ms).flatten])[H0.length]? = some r.flatten:=by rw [List.getElem?_append_left (by simp),List.getElem?_set_ne (by omega)]; exact hP
     have hfl:at_*2+1<r.flatten.length:=by rw [hrw.1.flat,hrw.2]; omega
     have v7:E1 (.ptr H0.length (at_*2+1)) [.y1 (H0.length+1) 0 ms.length 3] (((H0++[r.flatten]).set k [])++[(vO ms).flatten])=some ((((H0++[r.flatten]).set k [])++[(vO ms).flatten]).set H0.length (r.set at_ [.str l[at_].path,.y1 (H0.length+1) 0 ms.length 3]).flatten):=by
      rw [amD hS hfl,<-ajI hfl,Go.AM.Rows.set (by omega) hrw.1 g1]
      rfl
     generalize cM m++(vO ms).flatten=Z at v4 v5 v6
     have v8:∀ a b c d,y7 (.y1 a b c d)=some (.y1 a b c d):=fun _ _ _ _=>rfl
     simp only [c9,v1,v2,v3,v4,v5,v6,v8,v7,X8,List.length_cons,Nat.add_sub_cancel]
     first | done | rfl | simp
    obtain ⟨ks1,ks2,k,r,H0,hlay,hnd,hlt,g1,g2,g3,run⟩:=hr1
    have hk0:k<H0.length:=hlt k (by simp)
    have hrw:=hlay.rows
    have hr0:0<l.length:=by omega
    generalize hHF:(((H0++[r.flatten]).set k [])++[(vO ms).flatten]).set H0.length (r.set at_ [.str l[at_].path,.y1 (H0.length+1) 0 ms.length 3]).flatten=HF at *
    generalize hr':r.set at_ [.str l[at_].path,.y1 (H0.length+1) 0 ms.length 3]=r' at *
    have hF0:HF[H0.length]? = some r'.flatten:=by rw [<-hHF,List.getElem?_set_self (by simp; omega)]
    have hat':at_<r.length:=by rw [hrw.2]; exact hx
    have hmem:[.str l[at_].path,.y1 (H0.length+1) 0 ms.length 3] ∈ r':=by rw [<-hr']; exact List.mem_iff_getElem?.2 ⟨at_,by rw [List.getElem?_set_self hat']⟩
    have hrow':Go.AM.Rows 2 r'/\r'.length=l.length:=by
     rw [<-hr']
     refine ⟨fun x hx=>?_,by rw [List.length_set]; exact hrw.2⟩
     rcases List.mem_or_eq_of_mem_set hx with h | rfl
     ·exact hrw.1 x h
     ·rfl
    have hol:∀ j,j ∈ ks1++ks2->(HF.set H0.length [])[j]? = H0[j]?:=fun j hj=>by
     have hjk:j ≠ k:=fun e=>by
      subst e
      rw [List.nodup_append] at hnd
      rcases List.mem_append.1 hj with hj | hj
      ·exact hnd.2.2 j hj j (by simp) rfl
      ·have:=hnd.2.1; rw [List.nodup_cons] at this; exact this.1 hj
     have hjl:j<H0.length:=hlt j (by rcases List.mem_append.1 hj with hj | hj<;>simp [hj])
     rw [<-hHF,List.getElem?_set_ne (by omega),List.getElem?_set_ne (by omega),List.getElem?_append_left (by simp; omega),List.getElem?_set_ne (by omega),List.getElem?_append_left hjl]
    have hnd2:(ks1++ks2).Nodup:=by
     rw [List.nodup_append] at hnd ⊢
     rw [List.nodup_cons] at hnd
     exact ⟨hnd.1,hnd.2.1.2,fun a ha b hb=>hnd.2.2 a ha b (by simp [hb])⟩
    have hlay':∃ kk,abM (HF.set H0.length []) (ks1++kk++ks2) r' (l.set at_ ⟨l[at_].path,ms⟩)/\(ks1++kk++ks2).Nodup:=by
     by_cases hm0:ms=[]
     ·refine ⟨[],?_,by simpa using hnd2⟩
      have:=g3 (HF.set H0.length []) [] (.y1 (H0.length+1) 0 ms.length 3) ms hol (.inl ⟨rfl,hm0,.inr ⟨_,by rw [hm0]; rfl⟩⟩)
      rw [hr'] at this
      exact this
     ·refine ⟨[H0.length+1],?_,?_⟩
      ·have:=g3 (HF.set H0.length []) [H0.length+1] (.y1 (H0.length+1) 0 ms.length 3) ms hol (.inr ⟨_,rfl,hm0,rfl,by
        rw [<-hHF,List.getElem?_set_ne (by omega),List.getElem?_set_ne (by omega),List.getElem?_append_right (by simp)]; simp⟩)
       rw [hr'] at this
       exact this
      ·rw [List.nodup_append] at hnd2
       have hlt1:∀ j ∈ ks1,j<H0.length:=fun j hj=>hlt j (by simp [hj])
       have hlt2:∀ j ∈ ks2,j<H0.length:=fun j hj=>hlt j (by simp [hj])
       rw [List.append_assoc,List.nodup_append]
       refine ⟨hnd2.1,?_,fun a ha b hb=>?_⟩
       ·show ((H0.length+1)::ks2).Nodup
        rw [List.nodup_cons]
        exact ⟨fun hm=>by have:=hlt2 _ hm; omega,hnd2.2.1⟩
       ·rcases List.mem_append.1 hb with hb | hb
        ·simp at hb; have:=hlt1 a ha; omega
        ·exact hnd2.2.2 a ha b hb
    obtain ⟨kk,hl1,hl2⟩:=hlay'
    obtain ⟨s,H9,o1,o2,o3,o4⟩:=hl1.ou (d:=2) hl2
    have hsl:s.length=l.length:=by have:=o2.len; rw [List.length_set] at this; exact this
    have hch:D5 2 l.length s.flatten=s:=by rw [<-hsl]; exact o2.rows.chunk
    have hou:ouR HF (.n9 [.y1 H0.length 0 l.length 2,.agg (cO m),.bool true])=some (.n9 [.sl true s,.agg (cO m),.bool true]):=by
     have a1:ou 5 HF (.y1 H0.length 0 l.length 2)=some (.sl true s,H9):=by
      obtain ⟨n,hn'⟩:=Nat.exists_eq_succ_of_ne_zero (show l.length ≠ 0 by omega)
      have hfl:r'.flatten.length=l.length*2:=by rw [hrow'.1.flat,hrow'.2]
      rw [hn'] at hfl hch ⊢
      refine (ayT 4 HF H0.length n 2).trans ?_
      rw [hF0,Option.bind_some,if_pos ⟨rfl,by omega,hfl⟩,o1,Option.bind_some]
      show some (V.sl true (D5 2 n.succ s.flatten),_)=_
      rw [hch]
     have hown:I0 (.agg (cO m))=true:=by simp only [I0,X8,N2,aut,Bool.true_or,Bool.and_self]
     have a2:=ajX 5 H9 (.agg (cO m)) hown
     have a3:=ajX 5 H9 (.bool true) rfl
     unfold ouR
     rw [show ou 6 HF (.n9 [.y1 H0.length 0 l.length 2,.agg (cO m),.bool true])=(ouL (ou 5) HF [.y1 H0.length 0 l.length 2,.agg (cO m),.bool true]).bind fun r=>some (.n9 r.1,r.2) from rfl]
     simp only [ouL,a1,a2,a3,Option.bind_some,I0,N2,o3,Bool.true_or,Bool.and_self]
     have hown':N2 (cO m)=true:=by simpa [I0] using hown
     rw [hown']
     rfl
    refine ⟨⟨true,s,by simpa using o2,?_⟩,_,_,s,run,by simpa using hou,by simpa using o4⟩
    have hu:=ae5 hF0 hrow'.1
    rw [hrow'.2] at hu
    refine aE2 run (by simp only [c9]) (by simp only [data,A7,Bool.false_and]) (v := .n9 [.sl false (n8 r'),.agg (cO m),.bool true]) ?_ (by simp only [data,A7,azU hmem,Bool.false_and]) (by simpa using hou)
    simp only [afd,abi,hu,show ∀ b,aaG HF (.bool b)=some (.bool b) from fun _=>rfl,show ∀ b,aaG HF (.agg b)=some (.agg b) from fun _=>rfl,Option.bind_some,Option.map_some]
  ·have c3':l.any (G4 p)=false:=by simpa using c3
   rw [c3'] at q1
   subst q1
   refine fals (by unfold abj; rw [c1,c3']; rfl) ?_
   rw [acs]
   simp only [c9,J5,hbp,e1]
   first | done | rfl | simp
 ·have c1':Q3 l=false:=by simpa using c1
  rw [c1'] at e1
  refine fals (by unfold abj; rw [c1']; rfl) ?_
  rw [acs]
  simp only [c9,J5,hbp,e1]
  first | done | rfl | simp
theorem apT (l:List y0) (p:Bs) (h:adg l):∃ o r,RoX r (ahf l p)/\pc L1 [.sl false (vR eX l),.str p]=some (.n9 [.sl o r,.agg (cO (aaf l p)),.bool (abj l p)]):=(aoh l p h).1
end Go.Proofs.YtaapfgpeeghmeaaGreatDoor.Q
