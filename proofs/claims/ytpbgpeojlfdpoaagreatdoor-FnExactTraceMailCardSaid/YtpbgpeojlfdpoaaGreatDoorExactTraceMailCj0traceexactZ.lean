/- The law: traces, exactly. -/
import Derived.Test.YtpbgpeojlfdpoaaGreatDoorExactTraceMailCc6tracelawsZ
import Derived.Test.YtpbgpeojlfdpoaaGreatDoorFnExactTraceMailK4
namespace Go.Proofs.YtpbgpeojlfdpoaaGreatDoor.Q
open Go Go.AM
set_option linter.unusedSimpArgs false
set_option linter.unusedVariables false
set_option linter.unusedSectionVars false
theorem am8 (d:Nat) (G H:VH):∀ l:List Bs,adH (gro d) G H (l.map V.str)=some (l.map V.str,G,H)
 | []=>rfl
 | s::l=>by
   have h1:gro d G H (.str s)=some (.str s,G,H):=by cases d<;>rfl
   simp only [List.map_cons,adH,h1,Option.bind_some,am8 d G H l]
theorem aog (d:Nat) {G H:VH} {k:Nat} {l:List Bs} (hk:G[k]? = some (l.map V.str)) (hl:l ≠ []):gro (d+1) G H (.o9 k 0 l.length 1)=some (.o9 H.length 0 l.length 1,G.set k [],H++[l.map V.str]):=by
 obtain ⟨n,hn⟩:∃ n,l.length=n+1:=⟨l.length-1,by have:=List.length_pos_iff.2 hl; omega⟩
 rw [hn]
 simp only [gro,hk,Option.bind_some]
 rw [if_pos ⟨trivial,by simp [hn]⟩,am8]
 rfl
theorem asH {H:VH} {ks:List Nat} {cs:List V} {m:s8} (r:MlR H ks cs m) (h:Bs) (d:Dt) (hm:SmM m) (hl:m.lines.length<=1049600) (hh:h.length<=1049600) :
 ∃ cs' ks' X,pcg D8 H [.agg cs,.str h,.agg (cD d)]=some (.A5 [.agg cs',.bool (C6 m h d)],H++X)/\MlR (H++X) ks' cs' (traceM m h d)/\ks'.Nodup/\∀ j ∈ ks',H.length<=j/\j<(H++X).length:=by
 obtain ⟨r0,r1⟩:=akg m h d hm hl hh
 have hfr:([.agg cs,.str h,.agg (cD d)]:List V).map (I5 3 H)=[.agg (cM m),.str h,.agg (cD d)]:=by
  simp only [List.map_cons,List.map_nil,r.I5 2,V8 3 H (.str h) rfl,strip]
  rw [V8 3 H (.agg (cD d)) (by simp only [y9,g9])]
  simp only [y9,g9]
 have hnp:y7 [.agg (cM m),.str h,.agg (cD d)]=true:=by simp only [J0,y9,g9]
 by_cases hB:C6 m h d=true
 ·have hM:traceM m h d=⟨m.from_,m.to,T2 h d::m.lines⟩:=by unfold traceM; rw [if_pos hB]
  obtain ⟨ht,k,G,hk0,he,h0,hk⟩:=r1 hB
  rw [apr] at h0 hk
  have g1:=aog 2 (H:=H) h0 ht
  have hk':(G.set 0 [])[k]? = some ((T2 h d::m.lines).map V.str):=by rw [List.getElem?_set_ne (Ne.symm hk0)]; exact hk
  have g2:=aog 2 (H:=H++[m.to.map V.str]) hk' (by simp)
  have gs:∀ G' H',gro 3 G' H' (.str m.from_)=some (.str m.from_,G',H'):=fun _ _=>rfl
  have gb:∀ G' H' b,gro 4 G' H' (.bool b)=some (.bool b,G',H'):=fun _ _ _=>rfl
  rw [hB,hM]
  refine ⟨[.str m.from_,.o9 H.length 0 m.to.length 1,.o9 (H++[m.to.map V.str]).length 0 (T2 h d::m.lines).length 1],[H.length]++[(H++[m.to.map V.str]).length],[m.to.map V.str,(T2 h d::m.lines).map V.str],?_,?_,?_,?_⟩
  ·show aaa cv _ H _=_
   unfold aaa
   rw [hfr,hnp]
   show (cv D8 [.agg (cM m),.str h,.agg (cD d)] []).bind _=_
   rw [he]
   have e:gro 5 G H (.A5 [.agg [.str m.from_,.o9 0 0 m.to.length 1,.o9 k 0 (m.lines.length+1) 1],.bool true])=some (.A5 [.agg [.str m.from_,.o9 H.length 0 m.to.length 1,.o9 (H++[m.to.map V.str]).length 0 (T2 h d::m.lines).length 1],.bool true],(G.set 0 []).set k [],H++[m.to.map V.str]++[(T2 h d::m.lines).map V.str]):=by
    have e1:gro 4 G H (.agg [.str m.from_,.o9 0 0 m.to.length 1,.o9 k 0 (m.lines.length+1) 1])=some (.agg [.str m.from_,.o9 H.length 0 m.to.length 1,.o9 (H++[m.to.map V.str]).length 0 (T2 h d::m.lines).length 1],(G.set 0 []).set k [],H++[m.to.map V.str]++[(T2 h d::m.lines).map V.str]):=by
     show (adH (gro 3) G H _).bind _=_
     have g2':gro 3 (G.set 0 []) (H++[m.to.map V.str]) (.o9 k 0 (m.lines.length+1) 1)=_:=g2
     simp only [adH,gs,g1,g2',Option.bind_some]
    show (adH (gro 4) G H _).bind _=_
    simp only [adH,e1,gb,Option.bind_some]
   simp only [Option.bind_some,e,Option.map_some,List.append_assoc]
   rfl
  ·refine ⟨_,_,[H.length],[(H++[m.to.map V.str]).length],rfl,rfl,.inr ⟨_,rfl,ht,rfl,by simp⟩,.inr ⟨_,rfl,by simp,rfl,by simp⟩⟩
  ·simp
  ·intro j hj
   simp at hj ⊢
   omega
 ·have hb:C6 m h d=false:=by simpa using hB
  have hM:traceM m h d=⟨[],[],[]⟩:=by unfold traceM; rw [hb]; rfl
  rw [hb,hM]
  refine ⟨cO ⟨[],[],[]⟩,[],[],?_,⟨_,_,[],[],rfl,rfl,.inl ⟨rfl,rfl,.inl rfl⟩,.inl ⟨rfl,rfl,.inl rfl⟩⟩,by simp,by simp⟩
  show aaa cv _ H _=_
  unfold aaa
  rw [hfr,hnp]
  show (cv D8 [.agg (cM m),.str h,.agg (cD d)] []).bind _=_
  rw [r0 hb,List.append_nil]
  rfl
def tyD:Ty := .st [.int .i64,.int .i64,.int .i64,.int .i64,.int .i64,.int .i64,.int .i64]
theorem azg {u:V} (h:ad0 tyD u):∃ d:Dt,u = .agg (cD d):=by
 obtain ⟨vs,rfl,h⟩:=h
 simp only [V3,G8] at h
 obtain ⟨_,_,rfl,⟨a,rfl,_⟩,_,_,rfl,⟨b,rfl,_⟩,_,_,rfl,⟨c,rfl,_⟩,_,_,rfl,⟨e,rfl,_⟩,_,_,rfl,⟨f,rfl,_⟩,_,_,rfl,⟨g,rfl,_⟩,_,_,rfl,⟨i,rfl,_⟩,rfl⟩:=h
 exact ⟨⟨a,b,c,e,f,g,i⟩,rfl⟩
theorem avg (d:Dt) (H:VH):cv Y6 [.agg (cD d)] H=some (.agg (cD d),H):=by
 rw [amm]
 simp only [y9,g9]
theorem awJ {m:s8} (h:U8 m 1 30=true):TnM m:=by
 unfold U8 at h
 simp only [Bool.and_eq_true,decide_eq_true_eq,Bool.not_eq_true',List.any_eq_false,Bool.not_eq_false'] at h
 obtain ⟨h1,h2,h3,h4,h5,h6⟩:=h
 have pl:∀ {s:Bs},L6 s=true->s.length<=200:=fun hs=>by have:=(asl hs).2; omega
 refine ⟨?_,⟨by omega,fun t ht=>pl (by simpa using h4 t ht)⟩,⟨by omega,fun t ht=>?_⟩⟩
 ·unfold aiR at h1
  rw [Bool.or_eq_true,decide_eq_true_eq] at h1
  rcases h1 with h1 | h1
  ·rw [h1]; simp
  ·exact pl h1
 ·have q:O3 t=true:=by simpa using h6 t ht
  unfold O3 at q
  simp only [Bool.and_eq_true,decide_eq_true_eq] at q
  exact q.2
theorem aev {R:Type} (a0 a1 a2 a3 a4 a5 a6 a7 a8 a9 a10 a11 a12 a13 a14 a15 a16 a17:V) (K:(Nat->V)->Option R):m6 18 [a0,a1,a2,a3,a4,a5,a6,a7,a8,a9,a10,a11,a12,a13,a14,a15,a16,a17] K=K fun i=>[a0,a1,a2,a3,a4,a5,a6,a7,a8,a9,a10,a11,a12,a13,a14,a15,a16,a17].getD i .g8:=by exact id rfl
theorem aex {R:Type} (a0 a1 a2 a3 a4 a5 a6 a7 a8 a9 a10 a11 a12 a13 a14 a15 a16 a17 a18 a19 a20 a21:V) (K:(Nat->V)->Option R):m6 22 [a0,a1,a2,a3,a4,a5,a6,a7,a8,a9,a10,a11,a12,a13,a14,a15,a16,a17,a18,a19,a20,a21] K=K fun i=>[a0,a1,a2,a3,a4,a5,a6,a7,a8,a9,a10,a11,a12,a13,a14,a15,a16,a17,a18,a19,a20,a21].getD i .g8:=by exact id rfl
theorem aiu (u v w:V) (hu:ad0 tyM u) (hv:ad0 .str v) (hw:ad0 tyD w):∃ H,cv S5 [u,v,w] []=some (.bool true,H):=by
 obtain ⟨m,rfl,hm⟩:=azn hu
 obtain ⟨hst,hv1,hv2⟩:=hv
 cases hv1
 obtain ⟨d,rfl⟩:=azg hw
 have s1:=at3 m 1048576 (by omega) (by omega) hm.1 hm.2.1.1 hm.2.1.2 hm.2.2.1 hm.2.2.2
 suffices hg:p9 (cv S5 [.agg (cM m),.str hst,.agg (cD d)] []) fun r=>r.1 = .bool true by
  obtain ⟨⟨v,H⟩,e,h⟩:=hg
  cases h
  exact ⟨H,e⟩
 have s1':qco Y5 [] [.agg (cM m),.int .i64 1048576]=some (.int .i64 (szM m 1048576)):=by
  rw [alR (fun _=>by simp only [data,J0,s7,acE,Bool.and_self])]
  simp only [List.map_cons,List.map_nil,asa,V8 3 [] (.int .i64 1048576) rfl,strip]
  exact s1
 rw [afs]
 simp only [J0] at s1'
 by_cases hH:(hst.length:Int)>1048576
 ·simp only [g9,hH]; exact p9.here rfl
 by_cases h1:szM m 1048576<0
 ·simp only [g9,J0,hH,s1',h1]; exact p9.here rfl
 ·have km:SmM m:=SmM.of (n:=1048576) (by omega) (by omega) (by omega)
  have hln:=km.2.2.1
  have kn:=(atb (m:=m) (h:=hst) (d:=d) km hln (by omega)).1
  have hto:=kn.2.1.1
  have hli:=kn.2.2.1
  have psp:∀ {H:VH} {ks:List Nat} {cs:List V},MlR H ks cs m->pco W4 H [.agg cs,.str hst,.agg (cD d)]=some (.A5 [.agg (cO (traceM m hst d)),.bool (C6 m hst d)]):=fun h =>
   ayt (fun hn=>by simp only [I3,Bool.and_eq_true] at hn; have q:=h.nd hn.1; simp only [data] at q; simp only [s7,q,data,y9,Bool.and_self])
    (by
     simp only [List.map_cons,List.map_nil,h.I5 2,V8 3 _ (.str hst) rfl,strip]
     rw [V8 3 _ (.agg (cD d)) (by simp only [y9,g9])]
     have:strip (.agg (cD d)) = .agg (cD d):=by simp only [y9,g9]
     rw [this]
     exact akq m hst d km hln (by omega) (fun hv=>asS m (awJ hv)))
    (by simp only [H4,abB,Bool.and_true]; exact aya _)
  have pim:∀ {H:VH} {ks:List Nat} {cs:List V},MlR H ks cs m->_:=fun {H ks cs} h=>asH (H:=H) (ks:=ks) (cs:=cs) h hst d km hln (by omega)
  generalize traceM m hst d=n at *
  generalize C6 m hst d=b at *
  have tD:=avg d
  simp only [y9] at tD psp
  simp only [y9] at pim
  simp only [g9,aev,aex,List.getD_cons_succ,List.getD_cons_zero,J0,hH,s1',h1]
  refine (agU m km []).bind ?_
  rintro _ G1 ⟨cs1,ks1,X1,rfl,-,r1,-,-⟩
  have q1:=psp r1
  obtain ⟨v1,w1,_,_,rfl,-⟩:=id r1
  simp only [g9,aev,aex,List.getD_cons_succ,List.getD_cons_zero,y9,tD,q1,Z0,S2]
  refine (agU m km G1).bind ?_
  rintro _ _ ⟨cs2,ks2,X2,rfl,rfl,r2,n2,b2⟩
  have r2s:=r2.strip
  obtain ⟨v2,w2,_,_,rfl,-⟩:=id r2
  simp only [l8,strip,R7] at r2s
  obtain ⟨cs3,ks3,X3,q2,r3,n3,b3⟩:=pim r2s
  simp only [g9,aev,aex,List.getD_cons_succ,List.getD_cons_zero,y9,tD,q2]
  have r3s:=r3.strip
  have r2a:=r2s.app X3 fun j hj=>(b2 j hj).2
  have e3:=ajJ (n:=n) r3s kn
  rw [decide_eq_true rfl] at e3
  obtain ⟨v3,w3,_,_,rfl,-⟩:=id r3
  generalize hG3:G1++X2++X3=G3 at *
  simp only [l8,J0,strip,R7] at e3 r3s
  simp only [g9,aev,aex,List.getD_cons_succ,List.getD_cons_zero,e3]
  refine (agU m km G3).bind ?_
  rintro _ _ ⟨cs4,ks4,X4,rfl,rfl,r4,-,-⟩
  have r2b:=r2a.app X4 fun j hj=>by have:=(b2 j hj).2; rw [<-hG3]; simp at this ⊢; omega
  have e4:=asz r2b r4 km
  rw [decide_eq_true rfl] at e4
  simp only [g9,aev,aex,List.getD_cons_succ,List.getD_cons_zero,e4]
  refine (ak1 r2b n2 1 (by have:=km.2.1.1; have:=km.2.2.1; omega)).bind ?_
  rintro _ G5 ⟨rfl,-,f5,l5⟩
  have r3b:MlR G5 ks3 _ n:=(r3s.app X4 fun j hj=>(b3 j hj).2).mono fun j hj=>f5 j fun hj2=>by have:=(b3 j hj).1; have:=(b2 j hj2).2; omega
  have e5:=ajJ (n:=n) r3b kn
  rw [decide_eq_true rfl] at e5
  simp only [J0] at e5
  simp only [g9,aev,aex,List.getD_cons_succ,List.getD_cons_zero,e5,show ¬ (((1+m.to.length+m.lines.length:Nat):Int)<0) from by omega]
  refine (ak1 r3b n3 1 (by omega)).bind ?_
  rintro _ G6 ⟨rfl,r6,-,l6⟩
  simp only [l8,strip,R7] at r6
  have e6:=alp r6 (by omega)
  rw [show ((1:Nat):Int)=1 from rfl] at e6
  simp only [g9,aev,aex,List.getD_cons_succ,List.getD_cons_zero,e6,show ¬ (((1+n.to.length+n.lines.length:Nat):Int)<0) from by omega]
  refine (agU m km G6).bind ?_
  rintro _ _ ⟨cs7,ks7,X7,rfl,rfl,r7,-,-⟩
  obtain ⟨cs8,ks8,X8,q7,r8,n8,b8⟩:=pim r7
  simp only [g9,aev,aex,List.getD_cons_succ,List.getD_cons_zero,y9,tD,q7]
  have e8:=ajJ (n:=n) r8.strip kn
  rw [decide_eq_true rfl] at e8
  obtain ⟨v8,w8,_,_,rfl,-⟩:=id r8
  simp only [l8,J0,strip,R7] at e8
  have r9:=(r6.app X7 fun j hj=>by have:=(b3 j hj).2; rw [l6,l5]; simp at this ⊢; omega).app X8 fun j hj=>by have:=(b3 j hj).2; simp only [List.length_append,l6,l5] at this ⊢; omega
  have e9:=alp r9 (by omega)
  rw [show ((1:Nat):Int)=1 from rfl] at e9
  simp only [g9,aev,aex,List.getD_cons_succ,List.getD_cons_zero,e8,e9,show ¬ (((1+n.to.length+n.lines.length:Nat):Int)<0) from by omega]
  exact p9.here rfl
end Go.Proofs.YtpbgpeojlfdpoaaGreatDoor.Q
