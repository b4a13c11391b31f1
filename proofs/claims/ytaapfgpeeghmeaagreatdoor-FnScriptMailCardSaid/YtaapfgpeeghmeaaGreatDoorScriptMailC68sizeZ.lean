/- Contracts: mails spoken, told a second time; their size; boxes. -/
import Derived.Test.YtaapfgpeeghmeaaGreatDoorScriptMailC66sessionsZ
namespace Go.Proofs.YtaapfgpeeghmeaaGreatDoor.Q
open Go Go.AM
set_option linter.unusedSimpArgs false
set_option linter.unusedVariables false
set_option linter.unusedSectionVars false
theorem anQ (m:l9) (h:Z7 m):pc abA [.agg (cM m)]=some (.n9 [.sl true (vT (D2 m)),.bool (L4 m)]):=by
 have e0:=aoo m h
 simp only [K4] at e0
 have hf:=h.1
 have ht:=h.2.1.1
 have hl:=h.2.2.1
 suffices hg:j8 (cv abA [.agg (cM m)] []) fun r=>r.1 = .n9 [.sl true (vT (D2 m)),.bool (L4 m)] by
  obtain ⟨⟨v,H⟩,e,h⟩:=hg
  have h:v=_:=h
  subst h
  exact Y9 e (by simp only [c9]) (by simp only [c9])
 rw [ane]
 by_cases hv:D6 m 1 30=true
 ·have a1:=D9 .str [77,65,73,76,32,70,82,79,77,58,60] m.from_ (by simp; omega)
  have a2:=D9 .str ([77,65,73,76,32,70,82,79,77,58,60]++m.from_) [62] (by simp; omega)
  simp only [U3,Z1] at a1 a2
  simp only [c9,e0,hv,a1,a2]
  refine j8.N1 (I:=fun n st H=>∃ (i:Nat) (out:List Bs),n=m.to.length-i/\i<=m.to.length/\st=[.sl true (vT out),.int .i64 (i:Nat),.str m.from_,.sl false (vT m.to),.sl false (vT m.lines)]/\out=[aah m.from_]++(m.to.take i).map Y3)
   (P:=fun q vs H=>∃ out,q=0/\vs=[.sl true (vT out),.str m.from_,.sl false (vT m.to),.sl false (vT m.lines)]/\out=[aah m.from_]++m.to.map Y3) (n:=m.to.length) ?_ ⟨0,[aah m.from_],by omega,by omega,rfl,by simp⟩ ?_
  ·rintro n st H ⟨i,out,rfl,hi,rfl,ho⟩
   have hol:out.length=i+1:=by rw [ho]; simp; omega
   rw [akm]
   by_cases hlt:i<m.to.length
   ·have i1:=P8 false m.to .i64 i hlt
    have hsm:=h.2.1.2 _ (List.getElem_mem hlt)
    have b1:=D9 .str [82,67,80,84,32,84,79,58,60] m.to[i] (by simp; omega)
    have b2:=D9 .str ([82,67,80,84,32,84,79,58,60]++m.to[i]) [62] (by simp; omega)
    have e2:b7 (.int .i64) .add (.int .i64 (i:Int)) (.int .i64 1)=some (.int .i64 ((i+1:Nat):Int)):=A0 _ i 1 (by omega)
    have ap:=abN (l:=out) ([82,67,80,84,32,84,79,58,60]++m.to[i]++[62]) (by omega)
    simp only [U3,Z1] at b1 b2 ap
    simp only [c9,i1,b1,b2,e2,ap,show ((i:Int)<(m.to.length:Int)) from by omega]
    refine ⟨_,rfl,.inr ⟨rfl,m.to.length-(i+1),by omega,i+1,_,rfl,by omega,rfl,?_⟩⟩
    rw [ho,List.take_succ_eq_append_getElem hlt]
    show [aah m.from_]++(m.to.take i).map Y3++[Y3 m.to[i]]=[aah m.from_]++(m.to.take i++[m.to[i]]).map Y3
    rw [List.map_append,List.append_assoc]; rfl
   ·have:i=m.to.length:=by omega
    subst this
    simp only [c9,show ¬ ((m.to.length:Int)<(m.to.length:Int)) from by omega]
    exact ⟨_,rfl,.inl ⟨0,rfl,out,rfl,rfl,by rw [ho,List.take_length]; rfl⟩⟩
  rintro _ _ H ⟨out,rfl,rfl,ho⟩
  have hol:out.length=m.to.length+1:=by rw [ho]; simp
  have ap:=abN (l:=out) [68,65,84,65] (by omega)
  simp only [c9,ap]
  refine j8.N1 (I:=fun n st H=>∃ (i:Nat) (out:List Bs),n=m.lines.length-i/\i<=m.lines.length/\st=[.sl true (vT out),.int .i64 (i:Nat),.str m.from_,.sl false (vT m.to),.sl false (vT m.lines)]/\out=K3 m++(m.lines.take i).map A5/\((m.lines.take i).any fun l => !A6 (A5 l))=false)
   (P:=fun q vs H=>(q=0/\vs=[.sl true (vT (K3 m++m.lines.map A5))]/\(m.lines.any fun l => !A6 (A5 l))=false)\/(q=1/\vs=[.sl true [],.bool false]/\(m.lines.any fun l => !A6 (A5 l))=true)) (n:=m.lines.length) ?_ ⟨0,_,by omega,by omega,rfl,by rw [ho]; simp [K3],rfl⟩ ?_
  ·rintro n st H ⟨i,out,rfl,hi,rfl,ho,hok⟩
   have hol:out.length=m.to.length+2+i:=by rw [ho]; simp [K3]; omega
   rw [aja]
   by_cases hlt:i<m.lines.length
   ·have i1:=P8 false m.lines .i64 i hlt
    have hsm:=h.2.2.2 _ (List.getElem_mem hlt)
    have hsl:=aj5 m.lines[i]
    have e1:=aeE (A5 m.lines[i]) (by omega)
    have e2:b7 (.int .i64) .add (.int .i64 (i:Int)) (.int .i64 1)=some (.int .i64 ((i+1:Nat):Int)):=A0 _ i 1 (by omega)
    have ap:=abN (l:=out) (A5 m.lines[i]) (by omega)
    have fin:∀ H',j8 ((qc O6 [.str (A5 m.lines[i])]).bind fun x=>(C4 .not x).bind fun y=>j3 y (some (0,[.sl true [],.bool false],H')) ((F8 false 1 16 (vT out) (.sl true [[.str (A5 m.lines[i])]])).bind fun z=>some (1,[z,.int .i64 (i:Nat),.str m.from_,.sl false (vT m.to),.sl false (vT m.lines)],H'))) fun r:Nat × List V × VH=>(A6 (A5 m.lines[i])=false/\r=(0,[.sl true [],.bool false],H'))\/(A6 (A5 m.lines[i])=true/\r=(1,[.sl true (vT (out++[A5 m.lines[i]])),.int .i64 (i:Nat),.str m.from_,.sl false (vT m.to),.sl false (vT m.lines)],H')):=by
     intro H'
     by_cases ht:A6 (A5 m.lines[i])=true
     ·simp only [c9,e1,ht,ap]
      exact j8.here (.inr ⟨trivial,rfl⟩)
     ·have ht':A6 (A5 m.lines[i])=false:=by simpa using ht
      simp only [c9,e1,ht']
      exact j8.here (.inl ⟨trivial,rfl⟩)
    have nx:((m.lines.take (i+1)).any fun l => !A6 (A5 l)) = !A6 (A5 m.lines[i]):=by rw [List.take_succ_eq_append_getElem hlt,List.any_append,hok,List.any_cons,List.any_nil,Bool.or_false,Bool.false_or]
    have whole:A6 (A5 m.lines[i])=false->(m.lines.any fun l => !A6 (A5 l))=true:=fun hq=>by
     rw [List.any_eq_true]; exact ⟨m.lines[i],List.getElem_mem hlt,by rw [hq]; rfl⟩
    have nxo:K3 m++(m.lines.take i).map A5++[A5 m.lines[i]]=K3 m++(m.lines.take (i+1)).map A5:=by
     rw [List.take_succ_eq_append_getElem hlt,List.map_append,List.append_assoc]; rfl
    have step:∀ (K:Option (Nat × List V × VH)),K=((qc O6 [.str (A5 m.lines[i])]).bind fun x=>(C4 .not x).bind fun y=>j3 y (some (0,[.sl true [],.bool false],H)) ((F8 false 1 16 (vT out) (.sl true [[.str (A5 m.lines[i])]])).bind fun z=>some (1,[z,.int .i64 (i:Nat),.str m.from_,.sl false (vT m.to),.sl false (vT m.lines)],H)))->∃ r,K=some r/\((A6 (A5 m.lines[i])=false/\r=(0,[.sl true [],.bool false],H))\/(A6 (A5 m.lines[i])=true/\r=(1,[.sl true (vT (out++[A5 m.lines[i]])),.int .i64 (i:Nat),.str m.from_,.sl false (vT m.to),.sl false (vT m.lines)],H))):=fun K hK=>by
     rw [hK]; exact fin H
    by_cases h0:m.lines[i]=[]
    ·have hs:A5 m.lines[i]=[]:=by rw [h0]; rfl
     rw [hs] at e1 ap nx whole nxo
     by_cases ht:A6 ([]:Bs)=true
     ·simp only [c9,i1,h0,e1,ht,ap,e2,show ((i:Int)<(m.lines.length:Int)) from by omega]
      exact ⟨_,rfl,.inr ⟨rfl,m.lines.length-(i+1),by omega,i+1,_,rfl,by omega,rfl,by rw [ho,nxo],by rw [nx,ht]; rfl⟩⟩
     ·exact absurd rfl ht
    ·have hlen:0<m.lines[i].length:=List.length_pos_iff.2 h0
     have p1:A9 (.str m.lines[i]) (.int .i64 0)=some (.int .u8 ((m.lines[i])[0].toNat:Int)):=aal m.lines[i] .i64 0 hlen
     have hpre:agH m.lines[i] [46]=decide ((((m.lines[i])[0].toNat:Nat):Int)=46):=by
      rw [aqW,List.head?_eq_getElem?,List.getElem?_eq_getElem hlen]
      refine decide_eq_decide.2 ⟨fun e=>?_,fun e=>?_⟩
      ·have e:=Option.some.inj e; rw [e]; rfl
      ·have:(m.lines[i])[0]=46:=UInt8.toNat_inj.1 (by show (m.lines[i])[0].toNat=46; omega)
       rw [this]
     have a1:=D9 .str [46] m.lines[i] (by simp; omega)
     simp only [U3,Z1] at a1
     by_cases hd:(((m.lines[i])[0].toNat:Nat):Int)=46
     ·have hs:A5 m.lines[i]=46::m.lines[i]:=by unfold A5; rw [hpre,if_pos (decide_eq_true hd)]
      rw [hs] at e1 ap nx whole nxo
      by_cases ht:A6 (46::m.lines[i])=true
      ·simp only [c9,i1,h0,p1,hd,a1,e1,ht,ap,e2,show ((i:Int)<(m.lines.length:Int)) from by omega]
       exact ⟨_,rfl,.inr ⟨rfl,m.lines.length-(i+1),by omega,i+1,_,rfl,by omega,rfl,by rw [ho,nxo],by rw [nx,ht]; rfl⟩⟩
      ·have ht':A6 (46::m.lines[i])=false:=by simpa using ht
       simp only [c9,i1,h0,p1,hd,a1,e1,ht',show ((i:Int)<(m.lines.length:Int)) from by omega]
       exact ⟨_,rfl,.inl ⟨1,rfl,.inr ⟨rfl,rfl,whole ht'⟩⟩⟩
     ·have hs:A5 m.lines[i]=m.lines[i]:=by unfold A5; rw [hpre,if_neg (by simpa using hd)]
      rw [hs] at e1 ap nx whole nxo
      by_cases ht:A6 m.lines[i]=true
      ·simp only [c9,i1,h0,p1,hd,e1,ht,ap,e2,show ((i:Int)<(m.lines.length:Int)) from by omega]
       exact ⟨_,rfl,.inr ⟨rfl,m.lines.length-(i+1),by omega,i+1,_,rfl,by omega,rfl,by rw [ho,nxo],by rw [nx,ht]; rfl⟩⟩
      ·have ht':A6 m.lines[i]=false:=by simpa using ht
       simp only [c9,i1,h0,p1,hd,e1,ht',show ((i:Int)<(m.lines.length:Int)) from by omega]
       exact ⟨_,rfl,.inl ⟨1,rfl,.inr ⟨rfl,rfl,whole ht'⟩⟩⟩
   ·have:i=m.lines.length:=by omega
    subst this
    rw [List.take_length] at ho hok
    subst ho
    simp only [c9,show ¬ ((m.lines.length:Int)<(m.lines.length:Int)) from by omega]
    exact ⟨_,rfl,.inl ⟨0,rfl,.inl ⟨rfl,rfl,hok⟩⟩⟩
  rintro _ _ H2 (⟨rfl,rfl,hb⟩ | ⟨rfl,rfl,hb⟩)
  ·have ap2:=abN (l:=K3 m++m.lines.map A5) [46] (by simp [K3]; omega)
   have h1:L4 m=true:=by unfold L4; rw [hb,hv]; rfl
   have h2:D2 m=K3 m++m.lines.map A5++[[46]]:=by unfold D2; rw [if_pos h1]
   rw [h1,h2]
   simp only [c9,ap2]
   exact j8.here rfl
  ·have h1:L4 m=false:=by unfold L4; rw [hb,hv]; rfl
   have h2:D2 m=[]:=by unfold D2; rw [if_neg (by rw [h1]; simp)]
   rw [h1,h2]
   simp only [c9]
   exact j8.here rfl
 ·have h1:L4 m=false:=by unfold L4; rw [show D6 m 1 30=false from by simpa using hv]; rfl
  have h2:D2 m=[]:=by unfold D2; rw [if_neg (by rw [h1]; simp)]
  rw [h1,h2]
  simp only [c9,e0,hv]
  exact j8.here rfl
theorem ayk (a b:List Bs) (h:a.length<=4000000):qc Y6 [.sl false (vT a),.sl false (vT b)]=some (.bool (decide (a=b))):=by
 refine y4 (H:=[]) ?_ (by simp only [c9]) rfl
 show cv _ _ _=_
 rw [apy]
 by_cases hl:a.length=b.length
 ·have loop:=aFk (B:=acS) (S:=fun i=>[.sl false (vT a),.sl false (vT b),.int .i64 (i:Nat)]) (H:=[]) (m0:=0) (m1:=1) (vs0:=[]) (vs1:=[.bool false]) a b hl
   (fun i hi=>by
    have i1:=P8 false a .i64 i hi
    have i2:=P8 false b .i64 i (by omega)
    have e2:b7 (.int .i64) .add (.int .i64 (i:Int)) (.int .i64 1)=some (.int .i64 ((i+1:Nat):Int)):=A0 _ i 1 (by omega)
    rw [agl]
    simp only [c9,i1,i2,e2,show ((i:Int)<(a.length:Int)) from by omega]
    by_cases e:a[i]=b[i]<;>simp only [c9,e])
   (by
    rw [agl]
    simp only [c9,show ¬ ((a.length:Int)<(a.length:Int)) from by omega])
  have loop':l6 acS [.sl false (vT a),.sl false (vT b),.int .i64 0] []=_:=loop
  simp only [c9,hl,loop']
  by_cases e:a=b<;>simp only [c9,e]
 ·have:a ≠ b:=fun e=>hl (by rw [e])
  simp only [c9,show ¬ ((a.length:Int)=(b.length:Int)) from by omega,this]
end Go.Proofs.YtaapfgpeeghmeaaGreatDoor.Q
