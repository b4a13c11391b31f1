/- Contracts: mails of a session are passed on; what mailboxes hold is told. -/
import Derived.Test.YtaapfgpeeghmeaaGreatDoorScriptMailCd0scriptZ
namespace Go.Proofs.YtaapfgpeeghmeaaGreatDoor.Q
open Go Go.AM
set_option linter.unusedSimpArgs false
set_option linter.unusedVariables false
set_option linter.unusedSectionVars false
def G3:Bs:=[103,97,116,101,46,101,120,97,109,112,108,101]
def aoe:Bs:=[114,101,116,117,114,110,101,100,10]
def ahR:Bs:=[101,110,100,10]
def aet:Bs:=[112,97,115,115,101,100]
def aaJ:List Int->Bs
 | []=>[]
 | c::l=>[32]++H7 c.toNat 1++aaJ l
theorem aua (m:l9) (h:Z7 m):pc aba [.agg (cM m)]=some (.agg (cO (abm m))):=by
 have hv:AsM (.agg (cM m)) m:=⟨_,_,by rw [K4],by simp only [strip,M1],by simp only [strip,M1]⟩
 obtain ⟨v,H,e,rfl,_⟩:=ana m _ [] hv h
 exact Y9 e (by simp only [K4,c9]) (by simp only [X8,c9])
theorem ah9:∀ (l:List Int),(∀ c ∈ l,0<=c/\c<=1000)->(aaJ l).length<=1100*l.length
 | [],_=>by simp [aaJ]
 | c::l,h=>by
   have h1:=h c (by simp)
   have h2:=ah9 l (fun c hc=>h c (by simp [hc]))
   have h3:=O7 c.toNat 1
   simp only [aaJ,List.length_append,List.length_cons,List.length_nil]
   omega
theorem ayE (g0 v2 v3 v4:V) (codes:List Int) (H:VH) (acc:Bs) (hc:∀ c ∈ codes,0<=c/\c<=1000) (hl:codes.length<=1000) (ha:acc.length<=10000000) :
 j8 (l6 acW [g0,.str acc,v2,v3,v4,.sl false (vI .i64 codes),.int .i64 (codes.length:Nat),.int .i64 0] H) fun r=>r.1=0/\r.2=([strip (strip (strip g0)),.str (acc++aaJ codes),v2,v3,v4],H)\/r.1=0/\r.2=([g0,.str (acc++aaJ codes),v2,v3,v4],H):=by
 refine j8.loop (I:=fun n st G=>∃ (i:Nat) (a:Bs),n=codes.length-i/\i<=codes.length/\a++aaJ (codes.drop i)=acc++aaJ codes/\G=H/\st=[g0,.str a,v2,v3,v4,.sl false (vI .i64 codes),.int .i64 (codes.length:Nat),.int .i64 (i:Nat)]) ?_ codes.length _ H ⟨0,acc,by omega,by omega,by simp,rfl,rfl⟩
 rintro n st G ⟨i,a,rfl,hi,hacc,rfl,rfl⟩
 rw [ajt]
 have hal:a.length<=12000000:=by
  have h1:=ah9 codes hc
  have h2:=congrArg List.length hacc
  simp only [List.length_append] at h2
  omega
 by_cases hlt:i<codes.length
 ·have i1:=att false .i64 codes .i64 i hlt
  have hci:=hc _ (List.getElem_mem hlt)
  obtain ⟨c,hcc⟩:∃ c:Nat,codes[i]=(c:Int):=⟨_,(Int.toNat_of_nonneg hci.1).symm⟩
  rw [hcc] at hci i1
  have e1:qc B5 [.int .i64 (c:Nat),.int .i64 1]=_:=abX c 1 (by omega) (by omega)
  have w1:=O7 c 1
  have e2:=D9 .str [32] (H7 c 1) (by simp; omega)
  have e3:=D9 .str a ([32]++H7 c 1) (by simp; omega)
  have a1:b7 (.int .i64) .add (.int .i64 (i:Nat)) (.int .i64 1)=some (.int .i64 ((i+1:Nat):Int)):=A0 _ i 1 (by omega)
  rw [List.drop_eq_getElem_cons hlt,hcc] at hacc
  simp only [aaJ,Int.toNat_natCast] at hacc
  have hr:[32]++H7 c 1=32::H7 c 1:=rfl
  rw [hr] at e2 e3
  simp only [c9,i1,e1,e2,e3,a1,show ((i:Nat):Int)<(codes.length:Int) from by omega]
  exact j8.here ⟨codes.length-(i+1),by omega,i+1,a++(32::H7 c 1),rfl,by omega,by rw [<-hacc]; simp,rfl,rfl⟩
 ·have:i=codes.length:=by omega
  subst this
  rw [List.drop_length,aaJ,List.append_nil] at hacc
  subst hacc
  simp only [c9,show ¬ ((codes.length:Nat):Int)<(codes.length:Int) from by omega]
  exact j8.here (.inr ⟨rfl,rfl⟩)
theorem az4 (l:List y0) (m:l9) (d:Dt) (bv s0 s1 s2 s3 s4:V) (w:Bool) (row:List V) (hb:strip bv = .sl false (vR eX l)) (hrow:m8 row=cM m) (hm:Z7 m) (hml:m.lines.length<=100000)
 (hl:adg l) (hp:∀ b ∈ l,b.path.length<=1049600) (ht:∀ t ∈ m.to,t.length<=1049600) (hto:m.to.length<=1000) :
 (Z3 m G3 d=false->∃ z,cv O3 [.ptr 0 0] [cG bv [s0,s1,s2,s3,s4,.sl w [row]] d]=some (.str (aoe++ahR),cG bv [s0,s1,s2,s3,s4,.sl true []] d::z)) ∧
 (Z3 m G3 d=true->(∀ c ∈ (aft l (abm (traceM m G3 d))).2,0<=c/\c<=1000)->(aft l (abm (traceM m G3 d))).2.length<=1000 →
  ∃ o z,cv O3 [.ptr 0 0] [cG bv [s0,s1,s2,s3,s4,.sl w [row]] d]=some (.str (aet++aaJ (aft l (abm (traceM m G3 d))).2++[10]++ahR),cG (.sl o (vR eX (aft l (abm (traceM m G3 d))).1)) [s0,s1,s2,s3,s4,.sl true []] d::z)):=by
 have hg:G3.length<=100000:=by decide
 obtain ⟨o,e1,ho,hod,ho3⟩:=aos m G3 d hm hml hg
 obtain ⟨hX,hXl⟩:=ayR (m:=m) (h:=G3) (d:=d) hm hml hg
 have hgt:([103,97,116,101,46,101,120,97,109,112,108,101]:Bs)=G3:=rfl
 obtain ⟨o0,o1,o2,rfl⟩:∃ a b c,o=[a,b,c]:=by
  cases o with
  | nil=>cases ho3
  | cons a o=>cases o with
    | nil=>cases ho3
    | cons b o=>cases o with
      | nil=>cases ho3
      | cons c o=>cases o with
        | nil=>exact ⟨a,b,c,rfl⟩
        | cons=>simp at ho3
 have ho':=aAG _ _ ho
 simp only [m8] at ho'
 have q0:strip o0 = .str (traceM m G3 d).from_:=by injection ho'
 have q1:strip o1 = .sl false (vT (traceM m G3 d).to):=by injection ho' with _ h; injection h
 have q2:strip o2 = .sl false (vT (traceM m G3 d).lines):=by injection ho' with _ h; injection h with _ h; injection h
 have hrow':m8 row=[.str m.from_,.sl false (vT m.to),.sl false (vT m.lines)]:=by rw [hrow,K4]
 have i0:y8 3 (.sl false [[.str m.from_,.sl false (vT m.to),.sl false (vT m.lines)]]) (.int .i64 0)=some (.J3 [.str m.from_,.sl false (vT m.to),.sl false (vT m.lines)] 0):=by
  have:y8 3 (.sl false [[.str m.from_,.sl false (vT m.to),.sl false (vT m.lines)]]) (.int .i64 0)=some (.J3 (m8 [.str m.from_,.sl false (vT m.to),.sl false (vT m.lines)]) 0):=rfl
  rw [this]; simp only [c9]
 have n1:b7 (.int .i64) .add (.int .i64 0) (.int .i64 1)=some (.int .i64 1):=A0 _ 0 1 (by omega)
 simp only [K4,L3] at e1
 have rt:([114,101,116,117,114,110,101,100,10]:Bs)=aoe:=rfl
 have pt:([112,97,115,115,101,100]:Bs)=aet:=rfl
 have et:([101,110,100,10]:Bs)=ahR:=rfl
 have ld6:y5 l5 false false 1 (.ptr 0 6) [cG bv [s0,s1,s2,s3,s4,.sl w [row]] d]=some (.sl false [m8 row],[cG bv [s0,s1,s2,s3,s4,.sl w [row]] d]):=rfl
 have ld7:∀ (x b:V) (z:VH),y5 l5 false true 7 (.ptr 0 7) (cG b [s0,s1,s2,s3,s4,x] d::z)=some (.agg [.int .i64 d.y,.int .i64 d.mo,.int .i64 d.d,.int .i64 d.h,.int .i64 d.mi,.int .i64 d.s,.int .i64 d.z],cG b [s0,s1,s2,s3,s4,x] d::z):=fun _ _ _=>rfl
 have ld0:∀ (x b:V) (z:VH),y5 l5 false false 1 (.ptr 0 0) (cG b [s0,s1,s2,s3,s4,x] d::z)=some (strip b,cG b [s0,s1,s2,s3,s4,x] d::z):=fun _ _ _=>rfl
 have st6:∀ (x y b:V) (z:VH),E1 (.ptr 0 6) [y] (cG b [s0,s1,s2,s3,s4,x] d::z)=some (cG b [s0,s1,s2,s3,s4,y] d::z):=fun _ _ _ _=>rfl
 have st0:∀ (x y b:V) (z:VH),E1 (.ptr 0 0) [y] (cG b [s0,s1,s2,s3,s4,x] d::z)=some (cG y [s0,s1,s2,s3,s4,x] d::z):=fun _ _ _ _=>rfl
 have st1:∀ (x b a1 a2 a3:V),E1 (.ptr 1 0) [a1,a2,a3] [cG b [s0,s1,s2,s3,s4,x] d,[.str [],.sl true [],.sl true []]]=some [cG b [s0,s1,s2,s3,s4,x] d,[a1,a2,a3]]:=fun _ _ _ _ _=>rfl
 have ld1:∀ (x b a1 a2 a3:V),y5 l5 true true 3 (.ptr 1 0) [cG b [s0,s1,s2,s3,s4,x] d,[a1,a2,a3]]=some (.agg [a1,a2,a3],[cG b [s0,s1,s2,s3,s4,x] d,[strip a1,strip a2,strip a3]]):=fun _ _ _ _ _=>rfl
 have ap:∀ (x b:V) (z:List V),[cG b [s0,s1,s2,s3,s4,x] d]++[z]=[cG b [s0,s1,s2,s3,s4,x] d,z]:=fun _ _ _=>rfl
 have len1:∀ (x b:V),[cG b [s0,s1,s2,s3,s4,x] d].length=1:=fun _ _=>rfl
 refine ⟨fun hf=>?_,fun ht1 hcod hcl=>?_⟩
 ·rw [hf] at e1
  have t1:=D9 .str [] aoe (by decide)
  have t2:=D9 .str aoe ahR (by decide)
  suffices hg:j8 (cv O3 [.ptr 0 0] [cG bv [s0,s1,s2,s3,s4,.sl w [row]] d]) fun r=>∃ z,r=(.str (aoe++ahR),cG bv [s0,s1,s2,s3,s4,.sl true []] d::z) by
   obtain ⟨r,e,z,rfl⟩:=hg
   exact ⟨z,e⟩
  rw [agX]
  simp only [c9,ld6,hrow',ass,List.length_cons,List.length_nil]
  refine j8.N1 (I:=fun n st G=>(n=1/\st=[.ptr 0 0,.str [],.sl false [[.str m.from_,.sl false (vT m.to),.sl false (vT m.lines)]],.int .i64 1,.int .i64 0]/\G=[cG bv [s0,s1,s2,s3,s4,.sl w [row]] d]) ∨
   (n=0/\st=[.ptr 0 0,.str aoe,.sl false [[.str m.from_,.sl false (vT m.to),.sl false (vT m.lines)]],.int .i64 1,.int .i64 1]/\∃ z,G=cG bv [s0,s1,s2,s3,s4,.sl w [row]] d::z))
   (P:=fun q vs G=>q=0/\vs=[.ptr 0 0,.str aoe]/\∃ z,G=cG bv [s0,s1,s2,s3,s4,.sl w [row]] d::z) (n:=1) ?_ (.inl ⟨rfl,rfl,rfl⟩) ?_
  ·rintro n st G (⟨rfl,rfl,rfl⟩ | ⟨rfl,rfl,z,rfl⟩)
   ·rw [aak,hgt,rt]
    simp only [c9,i0,aDO,ld7,e1,len1,ap,st1,n1,t1,show ((0:Int)<1) from by omega]
    exact j8.here (.inr ⟨rfl,0,by omega,.inr ⟨rfl,rfl,_,rfl⟩⟩)
   ·rw [aak]
    simp only [c9,show ¬ ((1:Int)<1) from by omega]
    exact j8.here (.inl ⟨0,rfl,rfl,rfl,z,rfl⟩)
  ·rintro _ _ G ⟨rfl,rfl,z,rfl⟩
   rw [et]
   simp only [c9,st6,t2]
   exact j8.here ⟨z,rfl⟩
 ·rw [ht1] at e1
  have nX:Z7 (abm (traceM m G3 d)):=aCn hX
  have tX:∀ t ∈ (abm (traceM m G3 d)).to,t.length<=1049600:=fun t h=>nX.2.1.2 t h
  have e2:=aua (traceM m G3 d) hX
  obtain ⟨o',e3⟩:=ara l (abm (traceM m G3 d)) hl hp nX tX
  simp only [K4,X8] at e2 e3
  generalize hD:aft l (abm (traceM m G3 d))=D at *
  generalize aqH l (abm (traceM m G3 d))=B at *
  generalize abm (traceM m G3 d)=Y at *
  generalize traceM m G3 d=X at *
  have w1:=ah9 D.2 hcod
  have t1:=D9 .str [] aet (by decide)
  rw [List.nil_append] at t1
  have t2:=D9 .str (aet++aaJ D.2) [10] (by simp [aet]; omega)
  have t3:=D9 .str (aet++aaJ D.2++[10]) ahR (by simp [aet,ahR]; omega)
  suffices hg:j8 (cv O3 [.ptr 0 0] [cG bv [s0,s1,s2,s3,s4,.sl w [row]] d]) fun r=>∃ o z,r=(.str (aet++aaJ D.2++[10]++ahR),cG (.sl o (vR eX D.1)) [s0,s1,s2,s3,s4,.sl true []] d::z) by
   obtain ⟨r,e,o,z,rfl⟩:=hg
   exact ⟨o,z,e⟩
  rw [agX]
  simp only [c9,ld6,hrow',ass,List.length_cons,List.length_nil]
  refine j8.N1 (I:=fun n st G=>(n=1/\st=[.ptr 0 0,.str [],.sl false [[.str m.from_,.sl false (vT m.to),.sl false (vT m.lines)]],.int .i64 1,.int .i64 0]/\G=[cG bv [s0,s1,s2,s3,s4,.sl w [row]] d]) ∨
   (n=0/\st=[.ptr 0 0,.str (aet++aaJ D.2++[10]),.sl false [[.str m.from_,.sl false (vT m.to),.sl false (vT m.lines)]],.int .i64 1,.int .i64 1]/\∃ o z,G=cG (.sl o (vR eX D.1)) [s0,s1,s2,s3,s4,.sl w [row]] d::z))
   (P:=fun q vs G=>q=0/\vs=[.ptr 0 0,.str (aet++aaJ D.2++[10])]/\∃ o z,G=cG (.sl o (vR eX D.1)) [s0,s1,s2,s3,s4,.sl w [row]] d::z) (n:=1) ?_ (.inl ⟨rfl,rfl,rfl⟩) ?_
  ·rintro n st G (⟨rfl,rfl,rfl⟩ | ⟨rfl,rfl,o,z,rfl⟩)
   ·rw [aak,hgt,pt]
    have lp:=ayE (.ptr 0 0) (.sl false [[.str m.from_,.sl false (vT m.to),.sl false (vT m.lines)]]) (.int .i64 1) (.int .i64 0) D.2 [cG (.sl o' (vR eX D.1)) [s0,s1,s2,s3,s4,.sl w [row]] d,[strip o0,strip o1,strip o2]] aet hcod hcl (by decide)
    simp only [c9,i0,aDO,ld7,e1,len1,ap,st1,ld0,ld1,hb,q0,q1,q2,e2,e3,st0,t1,aAT,show ((0:Int)<1) from by omega]
    simp only [q0,q1,q2] at lp
    refine lp.bind ?_
    rintro ⟨q,vs,G⟩ hq
    have hq:q=0/\vs=[.ptr 0 0,.str (aet++aaJ D.2),.sl false [[.str m.from_,.sl false (vT m.to),.sl false (vT m.lines)]],.int .i64 1,.int .i64 0]/\G=[cG (.sl o' (vR eX D.1)) [s0,s1,s2,s3,s4,.sl w [row]] d,[.str X.from_,.sl false (vT X.to),.sl false (vT X.lines)]]:=by
     rcases hq with ⟨h1,h2⟩ | ⟨h1,h2⟩
     ·exact ⟨h1,congrArg Prod.fst h2,congrArg Prod.snd h2⟩
     ·exact ⟨h1,congrArg Prod.fst h2,congrArg Prod.snd h2⟩
    obtain ⟨rfl,rfl,rfl⟩:=hq
    simp only [c9,t2,n1]
    exact j8.here (.inr ⟨rfl,0,by omega,.inr ⟨rfl,rfl,o',_,rfl⟩⟩)
   ·rw [aak]
    simp only [c9,show ¬ ((1:Int)<1) from by omega]
    exact j8.here (.inl ⟨0,rfl,rfl,rfl,o,z,rfl⟩)
  ·rintro _ _ G ⟨rfl,rfl,o,z,rfl⟩
   rw [et]
   simp only [c9,st6,t3]
   exact j8.here ⟨o,z,rfl⟩
end Go.Proofs.YtaapfgpeeghmeaaGreatDoor.Q
