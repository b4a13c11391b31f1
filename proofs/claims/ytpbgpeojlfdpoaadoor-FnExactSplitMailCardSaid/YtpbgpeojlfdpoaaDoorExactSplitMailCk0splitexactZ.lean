/- The law: mails divided, exactly. -/
import Derived.Test.YtpbgpeojlfdpoaaDoorExactSplitMailCc6tracelawsZ
import Derived.Test.YtpbgpeojlfdpoaaDoorFnExactSplitMailK4
namespace Go.Proofs.YtpbgpeojlfdpoaaDoor.Q
open Go Go.AM
set_option linter.unusedSimpArgs false
set_option linter.unusedVariables false
set_option linter.unusedSectionVars false
theorem MsR.app {H:VH} {ks:List Nat} {v:V} {l:List j0} (X:VH) (h:MsR H ks v l) (hk:∀ j ∈ ks,j<H.length):MsR (H++X) ks v l :=
 h.mono K1.Mon fun j hj=>by rw [List.getElem?_append_left (hk j hj)]
theorem apy {H:VH} {ks:List Nat} {v:V} {l:List j0} (h:MsR H ks v l):A1 3 H v = .sl false (vR eM l):=MsR.A1 1 h
theorem apJ (l:List j0):data (.sl false (vR eM l))=true:=by simp only [data,acQ]
theorem auX (H:VH) (l:List j0):A1 3 H (.sl false (vR eM l)) = .sl false (vR eM l):=by
 rw [Y1 3 H _ (apJ l)]
 simp only [strip,aaB]
theorem ahA {H:VH} {ks:List Nat} {v:V} {l:List j0} (n:List j0) (h:MsR H ks v l) (hl:ae5 l):qco N6 H [v,.sl false (vR eM n)]=some (.bool (decide (l=n))):=by
 rw [ajP (fun hn=>by
  simp only [G7,Bool.and_eq_true] at hn
  simp only [o8,h.nd hn.1,apJ,Bool.and_self])]
 simp only [List.map_cons,List.map_nil,apy h,auX]
 exact ase l n hl
theorem aip {H:VH} {ks:List Nat} {v:V} {l:List j0} {k:Nat} (h:MsR H ks v (T7 k l)) (hk:k+y6 l<=9000000000000000000):qco L1 H [v,.int .i64 (k:Nat)]=some (.int .i64 ((k+y6 l:Nat):Int)):=by
 rw [ajP (fun hn=>by
  simp only [G7,Bool.and_eq_true] at hn
  simp only [o8,h.nd hn.1,data,Bool.and_self])]
 simp only [List.map_cons,List.map_nil,apy h,Y1 3 H (.int .i64 (k:Nat)) rfl,strip]
 exact aoE k l hk
theorem anl:∀ {l:List j0},(∀ m ∈ l,Z6 m)->y6 l<=l.length*2099201
 | [],_=>by simp [y6]
 | m::l,h=>by
   have ih:=anl (l:=l) fun x hx=>h x (by simp [hx])
   have hm:=h m (by simp)
   have h1:=hm.2.1.1
   have h2:=hm.2.2.1
   simp only [y6,sz1,List.length_cons]
   omega
theorem al1 (d:Nat):∀ (a b:List V) (H:VH),C3 d H (a++b)=((C3 d H a).1++(C3 d (C3 d H a).2 b).1,(C3 d (C3 d H a).2 b).2)
 | [],b,H=>by simp only [List.nil_append,C3]
 | v::a,b,H=>by
   have ih:=al1 d a b (prom d H v).2
   simp only [List.cons_append,C3,ih]
theorem aj1 (d:Nat):∀ (l:List (List V)) (H:VH),C3 d H l.flatten=K9 d H l
 | [],H=>by simp only [List.flatten_nil,C3,K9]
 | x::l,H=>by
   have ih:=aj1 d l (C3 d H x).2
   simp only [List.flatten_cons,al1,ih,K9]
def aga:V->Bool
 | .m8 _ _ _ _ | .agg _ | .u6 _=>false
 | v=>D7 v
theorem aqL {d:Nat} {G H:VH} {v:V} (h:aga v=true):gro d G H v=some ((prom 3 H v).1,G,(prom 3 H v).2):=by
 cases d with
 | zero =>
   have:D7 v=true:=by cases v<;>first | exact h | cases h
   simp only [gro,this]
 | succ d =>
   cases v<;>first | (cases h; done) | (simp only [aga] at h; simp only [gro,h])
theorem akt {d:Nat} {G:VH}:∀ {vs:List V} {H:VH},(∀ v ∈ vs,aga v=true)->adA (gro d) G H vs=some ((C3 3 H vs).1,G,(C3 3 H vs).2)
 | [],H,_=>rfl
 | v::vs,H,h=>by
   have ih:=akt (d:=d) (G:=G) (vs:=vs) (H:=(prom 3 H v).2) fun u hu=>h u (by simp [hu])
   simp only [adA,aqL (h v (by simp)),Option.bind_some,ih,C3]
theorem ava (m:j0):∀ v ∈ cO m,aga v=true:=fun v hv=>by
 rw [afe] at hv
 simp only [List.mem_cons,List.not_mem_nil,or_false] at hv
 rcases hv with rfl | rfl | rfl
 ·rfl
 ·simp only [aga,D7,ahT,Bool.true_or,Bool.and_self]
 ·simp only [aga,D7,ahT,Bool.true_or,Bool.and_self]
theorem avp (l:List j0):∀ v ∈ (vO l).flatten,aga v=true:=fun v hv=>by
 obtain ⟨x,hx,hv⟩:=List.mem_flatten.1 hv
 obtain ⟨m,_,rfl⟩:=List.mem_map.1 hx
 exact ava m v hv
theorem ars {H:VH} {ks:List Nat} {cs:List V} {m:j0} (r:K1 H ks cs m) (hm:Z6 m) :
 ∃ v ks' X,pcg H6 H [.agg cs]=some (.u6 [v,.bool (F4 m 1 30)],H++X)/\MsR (H++X) ks' v (aae m)/\ks'.Nodup/\∀ j ∈ ks',H.length<=j/\j<(H++X).length:=by
 obtain ⟨rv,G,he,hq⟩:=amC m hm hm.2.1.2
 have hfr:([.agg cs]:List V).map (A1 3 H)=[.agg (cM m)]:=by
  simp only [List.map_cons,List.map_nil,r.A1 2]
 have hnp:r5 [V.agg (cM m)]=true:=by simp only [N5,b9]
 have gb:∀ G' H' b,gro 4 G' H' (.bool b)=some (.bool b,G',H'):=fun _ _ _=>rfl
 have start:∀ {w:V × VH},(gro 5 G H rv).map (fun q=>(q.1,q.2.2))=some w->(∀ k off n e,rv ≠ .m8 k off n e)->pcg H6 H [.agg cs]=some w:=fun {w} hw hne=>by
  show aaC cv _ H _=_
  unfold aaC
  rw [hfr,hnp]
  show (cv H6 [.agg (cM m)] []).bind _=_
  rw [he]
  simp only [Option.bind_some]
  exact hw
 rcases hq with ⟨hf,rfl⟩ | ⟨ht,o,rfl,ho⟩
 ·have hz:aae m=[]:=by unfold aae; rw [hf]; rfl
  rw [hf,hz]
  exact ⟨.sl true [],[],[],start (by rw [List.append_nil]; rfl) (by intros; simp),.inl ⟨rfl,rfl,.inl rfl⟩,by simp,by simp⟩
 ·have hz:aae m=w8 m (P5 m).to:=by unfold aae; rw [if_pos ht]
  rw [ht,hz]
  generalize w8 m (P5 m).to=l at *
  rcases ho with ⟨rfl,rfl⟩ | ⟨hne,k,rfl,hk⟩
  ·exact ⟨.sl true [],[],[],start (by rw [List.append_nil]; rfl) (by intros; simp),.inl ⟨rfl,rfl,.inl rfl⟩,by simp,by simp⟩
  ·obtain ⟨ks',rr,X,e1,h1,n1,b1⟩:=alF K1.Mon (g:=cO) (d:=3) (fun a H=>asT 2 a H) l H
   have e1':C3 3 H (vO l).flatten=(rr.flatten,H++X):=by rw [aj1]; exact e1
   have hg:=akt (d:=3) (G:=G.set k []) (H:=H) (avp l)
   rw [e1'] at hg
   obtain ⟨n,hn⟩:∃ n,l.length=n+1:=⟨l.length-1,by have:=List.length_pos_iff.2 hne; omega⟩
   have hlen:(vO l).flatten.length=(n+1)*3:=by
    have:=(acI l).flat
    rw [ac7,hn] at this
    exact this
   have g4:gro 4 G H (.m8 k 0 l.length 3)=some (.m8 (H++X).length 0 l.length 3,G.set k [],H++X++[rr.flatten]):=by
    rw [hn]
    show ((G[k]?).bind fun cs=>if (0:Nat)=0/\cs.length=(n+1)*3 then (adA (gro 3) (G.set k []) H cs).bind fun r=>some (V.m8 r.2.2.length 0 (n+1) 3,r.2.1,r.2.2++[r.1]) else none)=_
    rw [hk]
    simp only [Option.bind_some]
    first
     | rw [if_pos ⟨trivial,hlen⟩,hg]
     | (simp only [true_and]; rw [if_pos hlen,hg])
    rfl
   refine ⟨.m8 (H++X).length 0 l.length 3,(H++X).length::ks',X++[rr.flatten],start ?_ (by intros; simp),.inr ⟨_,rr,ks',rfl,hne,rfl,?_,?_⟩,?_,fun j hj=>?_⟩
   ·have:gro 5 G H (.u6 [.m8 k 0 l.length 3,.bool true])=some (.u6 [.m8 (H++X).length 0 l.length 3,.bool true],G.set k [],H++X++[rr.flatten]):=by
     show (adA (gro 4) G H _).bind _=_
     simp only [adA,g4,gb,Option.bind_some]
    rw [this]
    simp only [Option.map_some,List.append_assoc]
   ·rw [<-List.append_assoc]; simp
   ·rw [<-List.append_assoc]
    exact h1.mono K1.Mon fun j hj=>by rw [List.getElem?_append_left (b1 j hj).2]
   ·rw [List.nodup_cons]
    exact ⟨fun hm=>by have:=(b1 _ hm).2; omega,n1⟩
   ·rcases List.mem_cons.1 hj with rfl | hj
    ·simp
    ·have:=b1 j hj; simp at this ⊢; omega
theorem ahs (u:V) (hu:agH tyM u):∃ H,cv Q8 [u] []=some (.bool true,H):=by
 obtain ⟨m,rfl,hm⟩:=axM hu
 have s1:=as4 m 1048576 (by omega) (by omega) hm.1 hm.2.1.1 hm.2.1.2 hm.2.2.1 hm.2.2.2
 suffices hg:o9 (cv Q8 [.agg (cM m)] []) fun r=>r.1 = .bool true by
  obtain ⟨⟨v,H⟩,e,h⟩:=hg
  cases h
  exact ⟨H,e⟩
 have s1':qco V7 [] [.agg (cM m),.int .i64 1048576]=some (.int .i64 (szM m 1048576)):=by
  rw [ajP (fun _=>by simp only [data,N5,o8,acM,Bool.and_self])]
  simp only [List.map_cons,List.map_nil,axn,Y1 3 [] (.int .i64 1048576) rfl,strip]
  exact s1
 rw [aeC]
 simp only [N5] at s1'
 by_cases h1:szM m 1048576<0
 ·simp only [b9,N5,s1',h1]; exact o9.here rfl
 ·have km:Z6 m:=Z6.of (n:=1048576) (by omega) (by omega) (by omega)
  obtain ⟨kn,kl⟩:=apm km km.2.1.2
  have hsz:=anl kn.2
  have psp:∀ {H:VH} {ks:List Nat} {cs:List V},K1 H ks cs m->pco O8 H [.agg cs]=some (.u6 [.sl true (vO (aae m)),.bool (F4 m 1 30)]):=fun h =>
   awL (fun hn=>by simp only [G7,Bool.and_eq_true] at hn; simp only [o8,h.nd hn.1,Bool.and_self])
    (by simp only [List.map_cons,List.map_nil,h.A1 2]; exact amP m km km.2.1.2)
    (by
     have:∀ l:List j0,abk (vO l)=true:=fun l=>by
      induction l with
      | nil=>rfl
      | cons a l ih =>
        have:=awH a
        simp only [D7] at this
        show (aby (cO a)&&abk (vO l))=true
        rw [this,ih]; rfl
     simp only [D7,aby,this,Bool.true_or,Bool.and_self])
  have pim:∀ {H:VH} {ks:List Nat} {cs:List V},K1 H ks cs m->_:=fun {H ks cs} h=>ars (H:=H) (ks:=ks) (cs:=cs) h km
  generalize aae m=n at *
  generalize F4 m 1 30=b at *
  simp only [b9,N5,s1',h1]
  refine (agk m km []).bind ?_
  rintro _ G1 ⟨cs1,ks1,X1,rfl,-,r1,-,-⟩
  have q1:=psp r1
  obtain ⟨v1,w1,_,_,rfl,-⟩:=id r1
  simp only [b9,q1,acD]
  refine (agk m km G1).bind ?_
  rintro _ _ ⟨cs2,ks2,X2,rfl,rfl,r2,n2,b2⟩
  have r2s:=r2.strip
  obtain ⟨v2,w2,_,_,rfl,-⟩:=id r2
  simp only [j3,strip,M7] at r2s
  obtain ⟨v3,ks3,X3,q2,r3,n3,b3⟩:=pim r2
  have r3s:=r3.strip
  have r2a:=r2s.app X3 fun j hj=>(b2 j hj).2
  have e3:=ahA n r3s kn
  rw [decide_eq_true rfl] at e3
  generalize hG3:G1++X2++X3=G3 at *
  simp only [b9,q2,e3,M7]
  refine (agk m km G3).bind ?_
  rintro _ _ ⟨cs4,ks4,X4,rfl,rfl,r4,-,-⟩
  have r2b:=r2a.app X4 fun j hj=>by have:=(b2 j hj).2; rw [<-hG3]; simp at this ⊢; omega
  have e4:=ash r2b r4 km
  rw [decide_eq_true rfl] at e4
  simp only [b9,e4]
  refine (apX r2b n2 1 (by have:=km.2.1.1; have:=km.2.2.1; omega)).bind ?_
  rintro _ G5 ⟨rfl,-,f5,l5⟩
  have r3b:MsR G5 ks3 _ n:=(MsR.app X4 r3s fun j hj=>(b3 j hj).2).mono K1.Mon fun j hj=>f5 j fun hj2=>by have:=(b3 j hj).1; have:=(b2 j hj2).2; omega
  have e5:=ahA n r3b kn
  rw [decide_eq_true rfl] at e5
  simp only [b9,e5,M7,show ¬ (((1+m.to.length+m.lines.length:Nat):Int)<0) from by omega]
  refine (aoF r3b n3 1 (by omega)).bind ?_
  rintro _ G6 ⟨rfl,r6,-,l6⟩
  have e6:=aip r6 (by omega)
  rw [show ((1:Nat):Int)=1 from rfl] at e6
  simp only [b9,e6,M7,show ¬ (((1+y6 n:Nat):Int)<0) from by omega]
  refine (agk m km G6).bind ?_
  rintro _ _ ⟨cs7,ks7,X7,rfl,rfl,r7,-,-⟩
  obtain ⟨v8,ks8,X8,q7,r8,n8,b8⟩:=pim r7
  have e8:=ahA n r8.strip kn
  rw [decide_eq_true rfl] at e8
  have r9:=MsR.app X8 (MsR.app X7 r6 fun j hj=>by have:=(b3 j hj).2; rw [l6,l5]; simp at this ⊢; omega) fun j hj=>by have:=(b3 j hj).2; simp only [List.length_append,l6,l5] at this ⊢; omega
  have e9:=aip r9 (by omega)
  rw [show ((1:Nat):Int)=1 from rfl] at e9
  simp only [b9,q7,e8,e9,M7,show ¬ (((1+y6 n:Nat):Int)<0) from by omega]
  exact o9.here rfl
end Go.Proofs.YtpbgpeojlfdpoaaDoor.Q
