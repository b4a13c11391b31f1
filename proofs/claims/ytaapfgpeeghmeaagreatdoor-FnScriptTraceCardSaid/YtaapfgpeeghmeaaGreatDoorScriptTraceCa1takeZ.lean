/- Contracts: mails are taken. -/
import Derived.Test.YtaapfgpeeghmeaaGreatDoorScriptTraceC99addboxZ
import Derived.Test.YtaapfgpeeghmeaaGreatDoorFnScriptTraceK4
namespace Go.Proofs.YtaapfgpeeghmeaaGreatDoor.Q
open Go Go.AM
set_option linter.unusedSimpArgs false
set_option linter.unusedVariables false
set_option linter.unusedSectionVars false
def aaH (l:List A3) (p:Bs):Bool:=V7 l&&(l.any (K9 p) && !decide ((C7 l (l.findIdx (K9 p))).y7.length=0))
def af6 (l:List A3) (p:Bs):List A3:=if aaH l p=true then l.set (l.findIdx (K9 p)) ⟨(C7 l (l.findIdx (K9 p))).path,(C7 l (l.findIdx (K9 p))).y7.drop 1⟩ else []
def Z2 (l:List A3) (p:Bs):z7:=if aaH l p=true then (C7 l (l.findIdx (K9 p))).y7.headD ⟨[],[],[]⟩ else ⟨[],[],[]⟩
def m0:z7:=⟨[],[],[]⟩
theorem auj {r:List (List V)}:D5 r=true<->∀ x ∈ r,B3 x=true:=by
 induction r with
 | nil=>simp [D5]
 | cons x r ih=>simp [D5,ih]
theorem anb {g:VH->V->Option (V × VH)} (hg:∀ H v,I0 v=true->g H v=some (v,H)):∀ (vs:List V) (H:VH),M9 vs=true->ouL g H vs=some (vs,H)
 | [],_,_=>rfl
 | v::vs,H,h=>by
   simp only [M9,Bool.and_eq_true] at h
   simp only [ouL,hg H v h.1,anb hg vs H h.2,Option.bind_some]
theorem aii:∀ (d:Nat) (H:VH) (v:V),I0 v=true->ou d H v=some (v,H)
 | 0,H,v,h=>by simp only [ou,h]
 | d+1,H,v,h=>by
   cases v with
   | l8=>simp [I0] at h
   | agg vs=>simp only [I0] at h; simp only [ou,anb (aii d) vs H h,Option.bind_some]
   | A4 vs=>simp only [I0] at h; simp only [ou,anb (aii d) vs H h,Option.bind_some]
   | _=>simp only [ou,h]
theorem apt:∀ a b:List V,M9 (a++b)=(M9 a&&M9 b)
 | [],b=>by simp [M9]
 | v::a,b=>by simp only [List.cons_append,M9,apt a b,Bool.and_assoc]
theorem ana:∀ {r:List (List V)},N9 r=true->M9 r.flatten=true
 | [],_=>rfl
 | x::r,h=>by
   simp only [N9,Bool.and_eq_true] at h
   simp only [List.flatten_cons,apt,h.1,ana h.2,Bool.and_self]
theorem av4 (d:Nat) (H:VH) (k m e:Nat):ou (d+1) H (.l8 k 0 (m+1) e)=(H[k]?).bind fun cs=>if 0=0/\1<e/\cs.length=(m+1)*e then (ouL (ou d) (H.set k []) cs).bind fun r=>some (.sl true (D2 e (m+1) r.1),r.2) else none:=rfl
def akO (H:VH) (kk:List Nat) (v:V) (ms:List z7):Prop:=(kk=[]/\ms=[]/\(v = .sl true []\/∃ q,v = .l8 q 0 0 3))\/(∃ q,kk=[q]/\ms ≠ []/\v = .l8 q 0 ms.length 3/\H[q]? = some (vO ms).flatten)
def abg (H:VH):List Nat->List (List V)->List A3->Prop
 | ks,r,[]=>ks=[]/\r=[]
 | ks,r,b::l=>∃ v r' kk ks',r=[.str b.path,v]::r'/\ks=kk++ks'/\akO H kk v b.y7/\abg H ks' r' l
theorem akO.mono {H H':VH} {kk:List Nat} {v:V} {ms:List z7} (h:akO H kk v ms) (e:∀ j ∈ kk,H'[j]? = H[j]?):akO H' kk v ms:=by
 rcases h with h | ⟨q,rfl,h2,h3,h4⟩
 ·exact .inl h
 ·exact .inr ⟨q,rfl,h2,h3,by rw [e q (by simp),h4]⟩
theorem abg.mono {H H':VH}:∀ {l:List A3} {ks:List Nat} {r:List (List V)},abg H ks r l->(∀ j ∈ ks,H'[j]? = H[j]?)->abg H' ks r l
 | [],_,_,h,_=>h
 | b::l,ks,r,h,e=>by
   obtain ⟨v,r',kk,ks',rfl,rfl,h1,h2⟩:=h
   exact ⟨v,r',kk,ks',rfl,rfl,h1.mono fun j hj=>e j (by simp [hj]),h2.mono fun j hj=>e j (by simp [hj])⟩
theorem abg.rows {H:VH}:∀ {l:List A3} {ks:List Nat} {r:List (List V)},abg H ks r l->Go.AM.Rows 2 r/\r.length=l.length
 | [],_,_,h=>by obtain ⟨_,rfl⟩:=h; exact ⟨fun x hx=>by simp at hx,rfl⟩
 | b::l,ks,r,h=>by
   obtain ⟨v,r',kk,ks',rfl,rfl,h1,h2⟩:=h
   obtain ⟨a1,a2⟩:=h2.rows
   exact ⟨fun x hx=>by
    rcases List.mem_cons.1 hx with rfl | hx
    ·rfl
    ·exact a1 x hx,by simp [a2]⟩
theorem abg.at {H:VH}:∀ {l:List A3} {ks:List Nat} {r:List (List V)} {i:Nat} (hi:i<l.length),abg H ks r l->l[i].y7 ≠ [] →
 ∃ k ks1 ks2,ks=ks1++k::ks2/\r[i]? = some [.str l[i].path,.l8 k 0 l[i].y7.length 3]/\H[k]? = some (vO l[i].y7).flatten ∧
   ∀ H' kk v ms,(∀ j ∈ ks1++ks2,H'[j]? = H[j]?)->akO H' kk v ms->abg H' (ks1++kk++ks2) (r.set i [.str l[i].path,v]) (l.set i ⟨l[i].path,ms⟩)
 | [],_,_,i,hi,_,_=>by simp at hi
 | b::l,ks,r,0,_,h,hm=>by
   obtain ⟨v,r',kk,ks',rfl,rfl,h1,h2⟩:=h
   rcases h1 with ⟨_,h,_⟩ | ⟨q,rfl,h3,rfl,h4⟩
   ·exact absurd h hm
   ·refine ⟨q,[],ks',rfl,rfl,h4,fun H' kk v ms e hc=>?_⟩
    exact ⟨v,r',kk,ks',rfl,by simp,hc,h2.mono fun j hj=>e j (by simpa using hj)⟩
 | b::l,ks,r,i+1,hi,h,hm=>by
   obtain ⟨v,r',kk0,ks',rfl,rfl,h1,h2⟩:=h
   obtain ⟨k,ks1,ks2,rfl,g1,g2,g3⟩:=abg.at (i:=i) (by simpa using hi) h2 hm
   refine ⟨k,kk0++ks1,ks2,by simp,g1,g2,fun H' kk v' ms e hc=>?_⟩
   refine ⟨v,_,kk0,ks1++kk++ks2,rfl,by simp,h1.mono fun j hj=>e j (by simp [hj]),g3 H' kk v' ms (fun j hj=>e j ?_) hc⟩
   simp only [List.mem_append] at hj ⊢
   rcases hj with hj | hj
   ·exact .inl (.inr hj)
   ·exact .inr hj
def OwX:List (List V)->List A3->Prop
 | s,[]=>s=[]
 | s,b::l=>∃ o s',s=[.str b.path,.sl o (vO b.y7)]::s'/\(o=true\/b.y7=[])/\OwX s' l
theorem OwX.nil:OwX [] []:=rfl
theorem abg.ou {d:Nat}:∀ {l:List A3} {H:VH} {ks:List Nat} {r:List (List V)},abg H ks r l->ks.Nodup->∃ s H',ouL (Go.AM.ou (d+2)) H r.flatten=some (s.flatten,H')/\RoX s l/\N9 s=true/\OwX s l
 | [],H,_,_,h,_=>by
   obtain ⟨rfl,rfl⟩:=h
   exact ⟨[],H,rfl,RoX.nil,rfl,rfl⟩
 | b::l,H,ks,r,h,hn=>by
   obtain ⟨v,r',kk,ks',rfl,rfl,h1,h2⟩:=h
   have hs:ouL (Go.AM.ou (d+2)) H ([V.str b.path,v]::r').flatten=(Go.AM.ou (d+2) H v).bind fun a=>(ouL (Go.AM.ou (d+2)) a.2 r'.flatten).bind fun c=>some (V.str b.path::a.1::c.1,c.2):=by
    show ouL (Go.AM.ou (d+2)) H (V.str b.path::v::r'.flatten)=_
    simp only [ouL,aii (d+2) H (.str b.path) rfl,Option.bind_some]
    cases Go.AM.ou (d+2) H v with
    | none=>rfl
    | some a =>
      simp only [Option.bind_some]
      cases ouL (Go.AM.ou (d+2)) a.2 r'.flatten<;>rfl
   rcases h1 with ⟨rfl,hm,hv⟩ | ⟨q,rfl,hm,rfl,hq⟩
   ·obtain ⟨s,H',g1,g2,g3,g4⟩:=abg.ou (d:=d) h2 (by simpa using hn)
    have hv':∃ o,Go.AM.ou (d+2) H v=some (.sl o [],H):=by
     rcases hv with rfl | ⟨q,rfl⟩
     ·exact ⟨true,rfl⟩
     ·exact ⟨false,rfl⟩
    obtain ⟨o,hv'⟩:=hv'
    refine ⟨[.str b.path,.sl o []]::s,H',by rw [hs,hv']; simp only [Option.bind_some,g1]; rfl,?_,by simp only [N9,M9,I0,g3,List.isEmpty_nil,Bool.or_true,Bool.and_self],⟨o,s,by rw [hm]; rfl,.inr hm,g4⟩⟩
    have:=RoX.app (r:=[[.str b.path,.sl o []]]) (l:=[b]) ⟨by obtain ⟨p,ms⟩:=b; subst hm; rfl,rfl,rfl⟩ g2
    exact this
   ·have hn':ks'.Nodup/\q ∉ ks':=by simp at hn; exact ⟨hn.2,hn.1⟩
    have h2':abg (H.set q []) ks' r' l:=h2.mono fun j hj=>by
     rw [List.getElem?_set_ne (fun e=>hn'.2 (by rw [e]; exact hj))]
    obtain ⟨s,H',g1,g2,g3,g4⟩:=abg.ou (d:=d) h2' hn'.1
    have hl:(vO b.y7).flatten.length=b.y7.length*3:=by have:=(aoj b.y7).flat; rw [this,ah9]
    have hv':Go.AM.ou (d+2) H (.l8 q 0 b.y7.length 3)=some (.sl true (vO b.y7),H.set q []):=by
     have hown:M9 (vO b.y7).flatten=true:=ana (aqu b.y7)
     have hch:D2 3 b.y7.length (vO b.y7).flatten=vO b.y7:=by have:=(aoj b.y7).chunk; rw [ah9] at this; exact this
     have h0:b.y7.length ≠ 0:=fun e=>hm (List.length_eq_zero_iff.1 e)
     obtain ⟨n,hn⟩:=Nat.exists_eq_succ_of_ne_zero h0
     rw [hn] at hl hch ⊢
     refine (av4 (d+1) H q n 3).trans ?_
     rw [hq,Option.bind_some,if_pos ⟨rfl,by omega,hl⟩,anb (aii (d+1)) _ _ hown,Option.bind_some]
     show some (V.sl true (D2 3 n.succ (vO b.y7).flatten),_)=_
     rw [hch]
    refine ⟨cOx b::s,H',by rw [hs,hv']; simp only [Option.bind_some,g1]; rfl,?_,?_,⟨true,s,rfl,.inl rfl,g4⟩⟩
    ·exact RoX.app (RoX.own [b]) g2
    ·have:=akG [b]
     simp only [L1,List.map_cons,List.map_nil,N9,Bool.and_true] at this
     simp only [N9,this,g3,Bool.and_self]
theorem at5:∀ (l:List A3) (H:VH),∃ ks r G,U1 1 H (L1 l)=(r.flatten,H++G)/\abg (H++G) ks r l/\ks.Nodup/\∀ j ∈ ks,H.length<=j/\j<(H++G).length
 | [],H=>⟨[],[],[],by simp [L1,U1],⟨rfl,rfl⟩,List.nodup_nil,by simp⟩
 | ⟨p,[]⟩::l,H=>by
   obtain ⟨ks,r,G,e,h1,h2,h3⟩:=at5 l H
   refine ⟨ks,[.str p,.sl true []]::r,G,?_,⟨_,r,[],ks,rfl,rfl,.inl ⟨rfl,rfl,.inl rfl⟩,h1⟩,h2,h3⟩
   show U1 1 H ([V.str p,.sl true []]::L1 l)=_
   simp only [U1,U8,prom,e]
   rfl
 | ⟨p,m::ms⟩::l,H=>by
   obtain ⟨ks,r,G,e,h1,h2,h3⟩:=at5 l (H++[(vO (m::ms)).flatten])
   refine ⟨H.length::ks,[.str p,.l8 H.length 0 (m::ms).length 3]::r,[(vO (m::ms)).flatten]++G,?_,⟨_,r,[H.length],ks,rfl,rfl,.inr ⟨H.length,rfl,by simp,rfl,?_⟩,by rw [<-List.append_assoc]; exact h1⟩,?_,?_⟩
   ·have e2:U8 1 H [V.str p,.sl true (vO (m::ms))]=([.str p,.l8 H.length 0 (m::ms).length 3],H++[(vO (m::ms)).flatten]):=by
     have:vO (m::ms)=cO m::vO ms:=rfl
     rw [this]
     simp only [U8,prom,ade,List.length_cons,ah9]
     rfl
    show U1 1 H ([V.str p,.sl true (vO (m::ms))]::L1 l)=_
    simp only [U1,e2,e,List.append_assoc]
    rfl
   ·simp
   ·rw [List.nodup_cons]
    exact ⟨fun hm=>by have:=(h3 _ hm).1; simp at this; omega,h2⟩
   ·intro j hj
    rcases List.mem_cons.1 hj with rfl | hj
    ·simp
    ·have:=h3 j hj; simp at this ⊢; omega
theorem au9 {R:Type} (l:List A3) (hl:l ≠ []) (K:V->VH->Option R):∃ ks r H,Z0 2 (.sl true (L1 l)) [] K=K (.l8 H.length 0 l.length 2) (H++[r.flatten])/\abg H ks r l/\ks.Nodup/\∀ j ∈ ks,j<H.length:=by
 obtain ⟨ks,r,G,e,h1,h2,h3⟩:=at5 l []
 rw [List.nil_append] at e h1 h3
 refine ⟨ks,r,G,?_,h1,h2,fun j hj=>(h3 j hj).2⟩
 unfold Z0
 simp only [I0,Bool.true_or,akG,Bool.and_self]
 cases l with
 | nil=>exact absurd rfl hl
 | cons b l =>
   have:L1 (b::l)=cOx b::L1 l:=rfl
   rw [this] at e ⊢
   simp only [prom,e,List.length_cons,aex]
   rfl
theorem aCD {call:C0} {f:FuncId} {args:List V} {r v v':V} {H:VH} (h:call f args []=some (r,H)) (h1:C1 args=true) (hd:data r=false) (hu:aeU H r=some v) (hd2:data v=false) (ho:ouR H r=some v'):T5 call f args=some v':=by
 simp only [T5,h1,h,Option.bind_some,hd,hu,hd2,ouD,ho]
theorem azt {k m:Nat} {H:VH} {cs:List V} (hk:H[k]? = some cs) (hc:cs.length=m*3) (hm:1<=m):cv L2 [.l8 k 0 m 3,.int .i64 0,.int .i64 1] H=some (.l8 H.length 0 (m-1) 3,H.set k []++[cs.drop 3]):=by
 show M8 vb _ _ _=_
 rw [afW vb _ _ _ (g:=aqk 3) rfl]
 simp only [aqk,hk,Option.bind_some]
 rw [if_pos (by first | exact ⟨rfl,hc,by omega,by omega,by omega⟩ | exact ⟨trivial,hc,by omega,by omega,by omega⟩)]
 simp
theorem az2 {k:Nat} {H:VH} {m:z7} {ms:List z7} (hk:H[k]? = some (vO (m::ms)).flatten):B2 o6 true true 3 (.ptr k 0) H=some (.agg (cO m),H.set k (cM m++(vO ms).flatten)):=by
 have e:(vO (m::ms)).flatten=cO m++(vO ms).flatten:=rfl
 have hl:(cO m).length=3:=rfl
 have hs:(cM m).length=3:=rfl
 rw [e] at hk
 simp only [B2,hk,acC,R6,G7]
 rw [if_pos (by simp [hl])]
 have e1:(List.drop 0 (cO m++(vO ms).flatten)).take 3=cO m:=by rw [List.drop_zero,List.take_append_of_le_length (by omega),List.take_of_length_le (by omega)]
 rw [e1]
 simp only [Option.bind_some,Option.map_some,aqw,List.take_zero,List.nil_append,hs,Nat.zero_add]
 rw [List.drop_append_of_le_length (by omega),List.drop_of_length_le (by omega:(cO m).length<=3),List.nil_append]
theorem aw3 {r:List (List V)} {p:Bs} {k n e:Nat} (h:[V.str p,.l8 k 0 n e] ∈ r):D5 (n9 r)=false:=by
 cases hd:D5 (n9 r) with
 | false=>rfl
 | true =>
   rw [auj] at hd
   have:=hd [.str p,.l8 k 0 n e] (by rw [abQ]; exact List.mem_map.2 ⟨_,h,rfl⟩)
   simp [B3,data] at this
theorem amq (l:List A3) (p:Bs) (h:aeF l):(∃ o r,RoX r (af6 l p)/\pc K6 [.sl false (vR eX l),.str p]=some (.A4 [.sl o r,.agg (cO (Z2 l p)),.bool (aaH l p)])) ∧
 ∃ v H s,cv K6 [.sl false (vR eX l),.str p] []=some (v,H)/\ouR H v=some (.A4 [.sl true s,.agg (cO (Z2 l p)),.bool (aaH l p)])/\OwX s (af6 l p):=by
 have e1:=afK l h
 have e3:=alq l h
 obtain ⟨at_,kn,hat1,hbp,hat2,hat3⟩:=anC l p (by have:=h.1; omega)
 have fals:aaH l p=false->cv K6 [.sl false (vR eX l),.str p] []=some (.A4 [.sl true [],.agg [.str [],.sl true [],.sl true []],.bool false],[]) →
  (∃ o r,RoX r (af6 l p)/\pc K6 [.sl false (vR eX l),.str p]=some (.A4 [.sl o r,.agg (cO (Z2 l p)),.bool (aaH l p)])) ∧
  ∃ v H s,cv K6 [.sl false (vR eX l),.str p] []=some (v,H)/\ouR H v=some (.A4 [.sl true s,.agg (cO (Z2 l p)),.bool (aaH l p)])/\OwX s (af6 l p):=fun hB e=>by
  have hL:af6 l p=[]:=by unfold af6; rw [hB]; rfl
  have hM:Z2 l p=m0:=by unfold Z2; rw [hB]; rfl
  rw [hL,hM,hB]
  exact ⟨⟨true,[],RoX.nil,abJ e (by simp only [j3]) rfl⟩,_,_,[],e,by unfold ouR; rw [aii 6 [] _ rfl]; rfl,OwX.nil⟩
 by_cases c1:V7 l=true
 ·rw [c1] at e1
  obtain ⟨q1,q2,q3,q4⟩:=hat3 (atl c1)
  by_cases c3:l.any (K9 p)=true
  ·rw [c3] at q1
   subst q1
   have q2:=q2 rfl
   have hx:=Z9 c3
   rw [<-q2] at hx
   have hat:=N3 hx
   have i1:=ahU false l .i64 _ hx
   rw [aok] at i1
   by_cases c4:l[at_].y7.length=0
   ·refine fals (by unfold aaH; rw [c1,c3,<-q2,hat,decide_eq_true c4]; rfl) ?_
    rw [abD]
    simp only [j3,N0,hbp,e1,i1,c4]
    first | done | rfl | simp
   ·have hB:aaH l p=true:=by unfold aaH; rw [c1,c3,<-q2,hat,decide_eq_false c4]; rfl
    have hL:af6 l p=l.set at_ ⟨l[at_].path,l[at_].y7.drop 1⟩:=by unfold af6; rw [hB,<-q2,hat]; rfl
    have hM:Z2 l p=l[at_].y7.headD ⟨[],[],[]⟩:=by unfold Z2; rw [hB,<-q2,hat]; rfl
    rw [hL,hM,hB]
    have hn:l ≠ []:=fun e=>by subst e; simp at hx
    have hmn:l[at_].y7 ≠ []:=fun e=>c4 (by rw [e]; rfl)
    cases hms:l[at_].y7 with
    | nil=>exact absurd hms hmn
    | cons m ms =>
    have hr1:∃ ks1 ks2 k r H0,abg H0 (ks1++k::ks2) r l/\(ks1++k::ks2).Nodup/\(∀ j ∈ ks1++k::ks2,j<H0.length)/\r[at_]? = some [.str l[at_].path,.l8 k 0 (m::ms).length 3]/\H0[k]? = some (vO (m::ms)).flatten ∧
     (∀ H' kk v ms',(∀ j ∈ ks1++ks2,H'[j]? = H0[j]?)->akO H' kk v ms'->abg H' (ks1++kk++ks2) (r.set at_ [.str l[at_].path,v]) (l.set at_ ⟨l[at_].path,ms'⟩)) ∧
     cv K6 [.sl false (vR eX l),.str p] []=some (.A4 [.l8 H0.length 0 l.length 2,.agg (cO m),.bool true],(((H0++[r.flatten]).set k [])++[(vO ms).flatten]).set H0.length (r.set at_ [.str l[at_].path,.l8 (H0.length+1) 0 ms.length 3]).flatten):=by
     rw [abD]
     have hc4:¬ ((l[at_].y7.length:Int)=0):=by omega
     simp only [j3,N0,ap0,hbp,e1,e3,i1,hc4]
     obtain ⟨ks,r,H0,hp,hlay,hnd,hlt⟩:=au9 l hn (fun o49 h50 =>
 (A6 2 (strip o49) (.int .i64 (at_:Nat))).bind fun x54 =>
 (D9 x54 1).bind fun x55 =>
 (B2 o6 false false 1 x55 h50).bind fun r57 =>
 (A6 3 r57.1 (.int .i64 0)).bind fun x58 =>
 (B2 o6 true true 3 x58 r57.2).bind fun r60 =>
 (C9 3 r60.1).bind fun c63 =>
 (A6 2 (strip o49) (.int .i64 (at_:Nat))).bind fun x68 =>
 (D9 x68 1).bind fun x69 =>
 (B2 o6 false false 1 x69 r60.2).bind fun r71 =>
 (cv L2 [(strip r71.1),(.int .i64 0),(.int .i64 1)] r71.2).bind fun r73 =>
 (A6 2 (strip o49) (.int .i64 (at_:Nat))).bind fun x74 =>
 (D9 x74 1).bind fun x75 =>
 (A8 r73.1).bind fun y77 =>
 (K8 x75 [y77] r73.2).bind fun H78 =>
 some ((V.A4 [o49,(.agg [(c63.getD 0 .c9),(c63.getD 1 .c9),(c63.getD 2 .c9)]),(.bool true)]),H78))
     obtain ⟨k,ks1,ks2,rfl,g1,g2,g3⟩:=hlay.at hx hmn
     rw [hms] at g1 g2
     refine ⟨ks1,ks2,k,r,H0,hlay,hnd,hlt,g1,g2,g3,?_⟩
     refine Eq.trans hp ?_
     have hk0:k<H0.length:=hlt k (by simp)
     have hrw:=hlay.rows
     have hcell:r.flatten[at_*2+1]? = some (.l8 k 0 (ms.length+1) 3):=(hrw.1.get (j:=1) (by omega) g1).trans rfl
     have hP:(H0++[r.flatten])[H0.length]? = some r.flatten:=by simp
     have hPk:(H0++[r.flatten])[k]? = some (vO (m::ms)).flatten:=by rw [List.getElem?_append_left hk0]; exact g2
     have v1:A6 2 (.l8 H0.length 0 l.length 2) (.int .i64 (at_:Nat))=some (.ptr H0.length (at_*2)):=arj hx
     have v2:=anV (g:=o6) hP hcell
     have v3:A6 3 (.l8 k 0 (ms.length+1) 3) (.int .i64 0)=some (.ptr k 0):=by have:=arj (k:=k) (n:=ms.length+1) (e:=3) (i:=0) (kk := .i64) (by omega); simpa using this
     have v4:=az2 hPk
     have hQ:((H0++[r.flatten]).set k (cM m++(vO ms).flatten))[H0.length]? = some r.flatten:=by rw [List.getElem?_set_ne (by omega)]; exact hP
     have v5:=anV (g:=o6) hQ hcell
     have hQk:((H0++[r.flatten]).set k (cM m++(vO ms).flatten))[k]? = some (cM m++(vO ms).flatten):=by rw [List.getElem?_set_self (by simp; omega)]
     have hml:(vO ms).flatten.length=ms.length*3:=by have:=(aoj ms).flat; rw [this,ah9]
     have v6:=azt hQk (m:=ms.length+1) (by simp [hml,P7]; omega) (by omega)
     have hd3:(cM m++(vO ms).flatten).drop 3=(vO ms).flatten:=by rw [P7]; rfl
     rw [hd3,List.set_set,Nat.add_sub_cancel] at v6
     have hln:((H0++[r.flatten]).set k (cM m++(vO ms).flatten)).length=H0.length+1:=by simp
     rw [hln] at v6
     have hS:(((H0++[r.flatten]).set k [])++[(vO ms).flatten])[H0.length]? = some r.flatten:=by rw [List.getElem?_append_left (by simp),List.getElem?_set_ne (by omega)]; exact hP
     have hfl:at_*2+1<r.flatten.length:=by rw [hrw.1.flat,hrw.2]; omega
     have v7:K8 (.ptr H0.length (at_*2+1)) [.l8 (H0.length+1) 0 ms.length 3] (((H0++[r.flatten]).set k [])++[(vO ms).flatten])=some ((((H0++[r.flatten]).set k [])++[(vO ms).flatten]).set H0.length (r.set at_ [.str l[at_].path,.l8 (H0.length+1) 0 ms.length 3]).flatten):=by
      rw [akN hS hfl,<-aiA hfl,Go.AM.Rows.set (by omega) hrw.1 g1]
      rfl
     generalize cM m++(vO ms).flatten=Z at v4 v5 v6
     have v8:∀ a b c d,A8 (.l8 a b c d)=some (.l8 a b c d):=fun _ _ _ _=>rfl
     simp only [j3,v1,v2,v3,v4,v5,v6,v8,v7,adq,List.length_cons,Nat.add_sub_cancel]
     first | done | rfl | simp
    obtain ⟨ks1,ks2,k,r,H0,hlay,hnd,hlt,g1,g2,g3,run⟩:=hr1
    have hk0:k<H0.length:=hlt k (by simp)
    have hrw:=hlay.rows
    have hr0:0<l.length:=by omega
    generalize hHF:(((H0++[r.flatten]).set k [])++[(vO ms).flatten]).set H0.length (r.set at_ [.str l[at_].path,.l8 (H0.length+1) 0 ms.length 3]).flatten=HF at *
    generalize hr':r.set at_ [.str l[at_].path,.l8 (H0.length+1) 0 ms.length 3]=r' at *
    have hF0:HF[H0.length]? = some r'.flatten:=by rw [<-hHF,List.getElem?_set_self (by simp; omega)]
    have hat':at_<r.length:=by rw [hrw.2]; exact hx
    have hmem:[.str l[at_].path,.l8 (H0.length+1) 0 ms.length 3] ∈ r':=by rw [<-hr']; exact List.mem_iff_getElem?.2 ⟨at_,by rw [List.getElem?_set_self hat']⟩
    have hrow':Go.AM.Rows 2 r'/\r'.length=l.length:=by
     rw [<-hr']
     refine ⟨fun x hx=>?_,by rw [List.length_set]; exact hrw.2⟩
     rcases List.mem_or_eq_of_mem_set hx with h | rfl
     ·exact hrw.1 x h
     ·rfl
    have hol:∀ j,j ∈ ks1++ks2->(HF.set H0.length [])[j]? = H0[j]?:=fun j hj=>by
     have hjk:j ≠ k:=fun e=>by
      subst e
      rw [List.nodup_append] at hnd
      rcases List.mem_append.1 hj with hj | hj
      ·exact hnd.2.2 j hj j (by simp) rfl
      ·have:=hnd.2.1; rw [List.nodup_cons] at this; exact this.1 hj
     have hjl:j<H0.length:=hlt j (by rcases List.mem_append.1 hj with hj | hj<;>simp [hj])
     rw [<-hHF,List.getElem?_set_ne (by omega),List.getElem?_set_ne (by omega),List.getElem?_append_left (by simp; omega),List.getElem?_set_ne (by omega),List.getElem?_append_left hjl]
    have hnd2:(ks1++ks2).Nodup:=by
     rw [List.nodup_append] at hnd ⊢
     rw [List.nodup_cons] at hnd
     exact ⟨hnd.1,hnd.2.1.2,fun a ha b hb=>hnd.2.2 a ha b (by simp [hb])⟩
    have hlay':∃ kk,abg (HF.set H0.length []) (ks1++kk++ks2) r' (l.set at_ ⟨l[at_].path,ms⟩)/\(ks1++kk++ks2).Nodup:=by
     by_cases hm0:ms=[]
     ·refine ⟨[],?_,by simpa using hnd2⟩
      have:=g3 (HF.set H0.length []) [] (.l8 (H0.length+1) 0 ms.length 3) ms hol (.inl ⟨rfl,hm0,.inr ⟨_,by rw [hm0]; rfl⟩⟩)
      rw [hr'] at this
      exact this
     ·refine ⟨[H0.length+1],?_,?_⟩
      ·have:=g3 (HF.set H0.length []) [H0.length+1] (.l8 (H0.length+1) 0 ms.length 3) ms hol (.inr ⟨_,rfl,hm0,rfl,by
        rw [<-hHF,List.getElem?_set_ne (by omega),List.getElem?_set_ne (by omega),List.getElem?_append_right (by simp)]; simp⟩)
       rw [hr'] at this
       exact this
      ·rw [List.nodup_append] at hnd2
       have hlt1:∀ j ∈ ks1,j<H0.length:=fun j hj=>hlt j (by simp [hj])
       have hlt2:∀ j ∈ ks2,j<H0.length:=fun j hj=>hlt j (by simp [hj])
       rw [List.append_assoc,List.nodup_append]
       refine ⟨hnd2.1,?_,fun a ha b hb=>?_⟩
       ·show ((H0.length+1)::ks2).Nodup
        rw [List.nodup_cons]
        exact ⟨fun hm=>by have:=hlt2 _ hm; omega,hnd2.2.1⟩
       ·rcases List.mem_append.1 hb with hb | hb
        ·simp at hb; have:=hlt1 a ha; omega
        ·exact hnd2.2.2 a ha b hb
    obtain ⟨kk,hl1,hl2⟩:=hlay'
    obtain ⟨s,H9,o1,o2,o3,o4⟩:=hl1.ou (d:=2) hl2
    have hsl:s.length=l.length:=by have:=o2.len; rw [List.length_set] at this; exact this
    have hch:D2 2 l.length s.flatten=s:=by rw [<-hsl]; exact o2.rows.chunk
    have hou:ouR HF (.A4 [.l8 H0.length 0 l.length 2,.agg (cO m),.bool true])=some (.A4 [.sl true s,.agg (cO m),.bool true]):=by
     have a1:ou 5 HF (.l8 H0.length 0 l.length 2)=some (.sl true s,H9):=by
      obtain ⟨n,hn'⟩:=Nat.exists_eq_succ_of_ne_zero (show l.length ≠ 0 by omega)
      have hfl:r'.flatten.length=l.length*2:=by rw [hrow'.1.flat,hrow'.2]
      rw [hn'] at hfl hch ⊢
      refine (av4 4 HF H0.length n 2).trans ?_
      rw [hF0,Option.bind_some,if_pos ⟨rfl,by omega,hfl⟩,o1,Option.bind_some]
      show some (V.sl true (D2 2 n.succ s.flatten),_)=_
      rw [hch]
     have hown:I0 (.agg (cO m))=true:=by simp only [I0,adq,M9,aq2,Bool.true_or,Bool.and_self]
     have a2:=aii 5 H9 (.agg (cO m)) hown
     have a3:=aii 5 H9 (.bool true) rfl
     unfold ouR
     rw [show ou 6 HF (.A4 [.l8 H0.length 0 l.length 2,.agg (cO m),.bool true])=(ouL (ou 5) HF [.l8 H0.length 0 l.length 2,.agg (cO m),.bool true]).bind fun r=>some (.A4 r.1,r.2) from rfl]
     simp only [ouL,a1,a2,a3,Option.bind_some,I0,M9,o3,Bool.true_or,Bool.and_self]
     have hown':M9 (cO m)=true:=by simpa [I0] using hown
     rw [hown']
     rfl
    refine ⟨⟨true,s,by simpa using o2,?_⟩,_,_,s,run,by simpa using hou,by simpa using o4⟩
    have hu:=afX hF0 hrow'.1
    rw [hrow'.2] at hu
    refine aCD run (by simp only [j3]) (by simp only [data,B3,Bool.false_and]) (v := .A4 [.sl false (n9 r'),.agg (cO m),.bool true]) ?_ (by simp only [data,B3,aw3 hmem,Bool.false_and]) (by simpa using hou)
    simp only [aeU,abj,hu,show ∀ b,aaR HF (.bool b)=some (.bool b) from fun _=>rfl,show ∀ b,aaR HF (.agg b)=some (.agg b) from fun _=>rfl,Option.bind_some,Option.map_some]
  ·have c3':l.any (K9 p)=false:=by simpa using c3
   rw [c3'] at q1
   subst q1
   refine fals (by unfold aaH; rw [c1,c3']; rfl) ?_
   rw [abD]
   simp only [j3,N0,hbp,e1]
   first | done | rfl | simp
 ·have c1':V7 l=false:=by simpa using c1
  rw [c1'] at e1
  refine fals (by unfold aaH; rw [c1']; rfl) ?_
  rw [abD]
  simp only [j3,N0,hbp,e1]
  first | done | rfl | simp
theorem anF (l:List A3) (p:Bs) (h:aeF l):∃ o r,RoX r (af6 l p)/\pc K6 [.sl false (vR eX l),.str p]=some (.A4 [.sl o r,.agg (cO (Z2 l p)),.bool (aaH l p)]):=(amq l p h).1
end Go.Proofs.YtaapfgpeeghmeaaGreatDoor.Q
