/- The law: mails come to boxes. -/
import Derived.Test.YtaapfgpeeghmeaaGreatDoorScriptMailCg0takeZ
import Derived.Test.YtaapfgpeeghmeaaGreatDoorFnScriptMailK5
namespace Go.Proofs.YtaapfgpeeghmeaaGreatDoor.Q
open Go Go.AM
set_option linter.unusedSimpArgs false
set_option linter.unusedVariables false
set_option linter.unusedSectionVars false
def aej:Bs:=[112,97,115,115]
def acf:Bs:=[72,69,76,79,32,120,46,111,114,103]
theorem aFj (bv s0 s1 s2 s3 s4 s5:V) (d:Dt) (H:VH) (r:V × VH) (h:cv O3 [.ptr 0 0] (cG bv [s0,s1,s2,s3,s4,s5] d::H)=some r):cv O4 [.ptr 0 0,.str aej] (cG bv [s0,s1,s2,s3,s4,s5] d::H)=some r:=by
 have e1:qc aau [.str aej,.str [32]]=some (.n9 [.str aej,.str [],.bool false]):=aET 100 (by kernel_rfl)
 rw [abB]
 simp only [c9,e1]
 rw [ajz]
 simp only [c9,show decide (aej=[115,97,121])=false from rfl,show decide (aej=[111,112,101,110])=false from rfl,show decide (aej=[99,108,101,97,114])=false from rfl,show decide (aej=[112,97,115,115])=true from rfl,h]
theorem aEl (p:Bs) (hp:p.length<=1000) (H:VH) (r:V × VH) (h:cv aaa [.ptr 0 0,.str p] H=some r):cv O4 [.ptr 0 0,.str (tkT++p)] H=some r:=by
 have e0:=aqc (tkT++p) 32 (by simp [tkT]; omega)
 have hw:tkT++p=[116,97,107,101]++[32]++p:=rfl
 obtain ⟨q1,q2⟩:=ai2 (c:=32) (a:=[116,97,107,101]) (z:=p) (by decide)
 rw [hw] at e0 ⊢
 rw [q1,q2,decide_eq_true (by simp)] at e0
 have n1:decide (([116,97,107,101]:Bs)=[115,97,121])=false:=rfl
 have n2:decide (([116,97,107,101]:Bs)=[98,111,120])=false:=rfl
 rw [abB]
 simp only [List.cons_append,List.nil_append] at e0 ⊢
 simp only [c9,e0,n1,n2,h]
theorem aFl (p:Bs) (hp:G0 p=true) (hl:p.length<=1000):∃ o,cv O4 [.ptr 0 0,.str (bxT++p)] [cG (.sl true []) abx W3]=some (.str okL,[cG (.sl o (vR eX [⟨p,[]⟩])) abx W3]):=by
 obtain ⟨o,e1⟩:=aso [] p ⟨by simp,by simp⟩ (by simp) (by simp) (by omega)
 have hb:aot [] p=true:=by
  unfold aot
  rw [hp]; rfl
 have hr:akG [] p=[⟨p,[]⟩]:=by unfold akG; rw [if_pos hb]; rfl
 rw [hb,hr] at e1
 refine ⟨o,?_⟩
 have e1':pc abU [.sl false [],.str p]=some (.n9 [.sl o (vR eX [⟨p,[]⟩]),.bool true]):=e1
 have e0:=aqc (bxT++p) 32 (by simp [bxT]; omega)
 have hw:bxT++p=[98,111,120]++[32]++p:=rfl
 obtain ⟨q1,q2⟩:=ai2 (c:=32) (a:=[98,111,120]) (z:=p) (by decide)
 rw [hw] at e0 ⊢
 rw [q1,q2,decide_eq_true (by simp)] at e0
 have n1:decide (([98,111,120]:Bs)=[115,97,121])=false:=rfl
 have n2:decide (([98,111,120]:Bs)=[98,111,120])=true:=rfl
 have ld0:y5 l5 false false 1 (.ptr 0 0) [cG (.sl true []) abx W3]=some (.sl false [],[cG (.sl true []) abx W3]):=rfl
 have st0:∀ y:V,E1 (.ptr 0 0) [y] [cG (.sl true []) abx W3]=some [cG y abx W3]:=fun _=>rfl
 have hok:([111,107,10]:Bs)=okL:=rfl
 rw [abB]
 simp only [List.cons_append,List.nil_append] at e0 ⊢
 simp only [c9,e0,n1,n2,ld0,e1',aBg,st0,hok]
theorem akd (p:Bs):∀ (l acc:List Bs),p ∉ acc->∃ q,J7 (p::acc) l=p::q/\p ∉ q
 | [],acc,h=>⟨acc,rfl,h⟩
 | t::l,acc,h=>by
   simp only [J7]
   split
   ·exact akd p l acc h
   ·rename_i hn
    simp only [List.mem_cons,not_or] at hn
    exact akd p l (acc++[t]) (by simp only [List.mem_append,List.mem_singleton,not_or]; exact ⟨h,fun e=>hn.1 e.symm⟩)
theorem avK (Y:l9) (p:Bs) (ms:List l9):∀ (q:List Bs) (cs:List Int),p ∉ q->S2 Y q ([⟨p,ms⟩],cs)=([⟨p,ms⟩],cs++q.map fun _=>550)
 | [],cs,_=>by simp [S2]
 | t::q,cs,h=>by
   simp only [List.mem_cons,not_or] at h
   have ih:=avK Y p ms q (cs++[550]) h.2
   have e:dlS Y ([⟨p,ms⟩],cs) t=([⟨p,ms⟩],cs++[550]):=by
    unfold dlS dl1
    have:List.any ([⟨p,ms⟩]:List y0) (G4 t)=false:=by simp [G4]; exact h.1
    simp only [this,if_neg (show ¬ (false=true) by decide)]
   show List.foldl (dlS Y) _ (t::q)=_
   rw [List.foldl_cons,e]
   have ih':List.foldl (dlS Y) ([⟨p,ms⟩],cs++[550]) q=_:=ih
   rw [ih']
   simp
theorem azm (X:l9) (p:Bs) (r:List Bs) (hto:X.to=p::r) (hm:D6 X 1 30=true) (hp:G0 p=true):∃ q:List Bs,q.length<=r.length/\aft [⟨p,[]⟩] (abm X)=([⟨p,[⟨X.from_,[p],X.lines⟩]⟩],250::q.map fun _=>550):=by
 obtain ⟨q,h1,h2⟩:=akd p r [] (by simp)
 have h3:=(aiB (l:=r) (acc:=[p])).2
 rw [h1] at h3
 simp only [List.length_cons,List.length_nil] at h3
 refine ⟨q,by omega,?_⟩
 have hn:abm X=⟨X.from_,p::q,X.lines⟩:=by
  unfold abm
  rw [hto]
  have:J7 [] (p::r)=J7 [p] r:=by simp [J7]
  rw [this,h1]
 have hN:=(aAw hm).1
 rw [hn] at hN ⊢
 have hb:Q3 [⟨p,[]⟩]=true:=(asa _).2 ⟨by simp,fun b hb=>by simp only [List.mem_singleton] at hb; subst hb; exact ⟨hp,by simp,by simp⟩,fun i j hi hj=>by simp at hj; omega⟩
 unfold aft
 rw [hb,hN]
 simp only [Bool.and_self,if_true]
 have e:dlS ⟨X.from_,p::q,X.lines⟩ ([⟨p,[]⟩],[]) p=([⟨p,[⟨X.from_,[p],X.lines⟩]⟩],[250]):=by
  unfold dlS dl1
  have h1:List.any ([⟨p,[]⟩]:List y0) (G4 p)=true:=by simp [G4]
  have h2:List.findIdx (G4 p) ([⟨p,[]⟩]:List y0)=0:=by simp [List.findIdx_cons,G4]
  simp only [h1,h2,if_true]
  rfl
 show List.foldl (dlS _) _ (p::q)=_
 rw [List.foldl_cons,e]
 exact avK _ p _ q [250] h2
theorem awO (p:Bs) (Y:l9) (hm:D6 Y 1 30=true) (hp:G0 p=true):abj [⟨p,[Y]⟩] p=true/\aaf [⟨p,[Y]⟩] p=Y:=by
 have hb:Q3 [⟨p,[Y]⟩]=true:=(asa _).2 ⟨by simp,fun b hb=>by simp only [List.mem_singleton] at hb; subst hb; exact ⟨hp,by simp,by simpa using hm⟩,fun i j hi hj=>by simp at hj; omega⟩
 have h1:List.any ([⟨p,[Y]⟩]:List y0) (G4 p)=true:=by simp [G4]
 have h2:List.findIdx (G4 p) ([⟨p,[Y]⟩]:List y0)=0:=by simp [List.findIdx_cons,G4]
 have ht:abj [⟨p,[Y]⟩] p=true:=by
  unfold abj
  rw [hb,h1,h2]; rfl
 refine ⟨ht,?_⟩
 unfold aaf
 rw [if_pos ht,h2]; rfl
theorem agp (n:Nat):∀ (a:List Bs),(∀ l ∈ a,l.length<=n)->(F2 a).length<=(n+3)*a.length
 | [],_=>by simp [F2]
 | l::a,h=>by
   have h1:=h l (by simp)
   have h2:=agp n a (fun q hq=>h q (by simp [hq]))
   simp only [F2,List.length_append,List.length_cons,List.length_nil,Nat.mul_add,Nat.mul_one]
   omega
theorem azt (a b:List Bs):J4 (a++b)=J4 a++J4 b:=by simp [J4]
theorem aCO (L:List Bs) (T0:Bs) (v3 v4 v5:V) (H:VH) (hL:L.length<=300) (hl:∀ l ∈ L,l.length<=200) (hT:T0.length<=1000) :
 j8 (l6 abS [.sl false (vT L),.str T0,.int .i64 0,v3,v4,v5] H) fun r=>r=(0,[.str (T0++J4 L),v3,v4,v5],H):=by
 refine j8.loop (I:=fun n st G=>∃ i:Nat,n=L.length-i/\i<=L.length/\G=H/\st=[.sl false (vT L),.str (T0++J4 (L.take i)),.int .i64 (i:Nat),v3,v4,v5]) ?_ L.length _ H ⟨0,by omega,by omega,rfl,by simp [J4]⟩
 rintro n st G ⟨i,rfl,hi,rfl,rfl⟩
 rw [ahM]
 by_cases hlt:i<L.length
 ·have j1:=P8 false L .i64 i hlt
  have e3:b7 (.int .i64) .add (.int .i64 (i:Int)) (.int .i64 1)=some (.int .i64 ((i+1:Nat):Int)):=A0 _ i 1 (by omega)
  have hl200:=hl _ (List.getElem_mem hlt)
  have htake:J4 (L.take (i+1))=J4 (L.take i)++[115,97,121,32]++L[i]++[10]:=by
   rw [List.take_succ_eq_append_getElem hlt,azt]
   simp [J4,adm]
  have htkl:(J4 (L.take i)).length<=205*(L.take i).length:=ain fun l h=>hl l (List.mem_of_mem_take h)
  have hti:(L.take i).length<=300:=by simp; omega
  have w1:=D9 .str (T0++J4 (L.take i)) [115,97,121,32] (by simp; omega)
  have w2:=D9 .str (T0++J4 (L.take i)++[115,97,121,32]) L[i] (by simp; omega)
  have w3:=D9 .str (T0++J4 (L.take i)++[115,97,121,32]++L[i]) [10] (by simp; omega)
  simp only [c9,j1,e3,w1,w2,w3,show ((i:Int)<(L.length:Int)) from by omega]
  exact j8.here ⟨L.length-(i+1),by omega,i+1,rfl,by omega,rfl,by rw [htake]; simp only [List.append_assoc]⟩
 ·have:i=L.length:=by omega
  subst this
  simp only [c9,List.take_length,show ¬ ((L.length:Int)<(L.length:Int)) from by omega]
  exact j8.here rfl
theorem endLoop (L:List Bs) (b:Bool) (x v3 v4:V) (H:VH) (hL:L.length<=300) (hl:∀ l ∈ L,l.length<=200) :
 j8 (l6 abH [x,.str [],.int .i64 0,v3,v4,.sl b (vT L)] H) fun r=>r=(0,[x,.str (F2 L)],H):=by
 refine j8.loop (I:=fun n st G=>∃ i:Nat,n=L.length-i/\i<=L.length/\G=H/\st=[x,.str (F2 (L.take i)),.int .i64 (i:Nat),v3,v4,.sl b (vT L)]) ?_ L.length _ H ⟨0,by omega,by omega,rfl,by simp [F2]⟩
 rintro n st G ⟨i,rfl,hi,rfl,rfl⟩
 rw [ahD]
 by_cases hlt:i<L.length
 ·have j1:=P8 false L .i64 i hlt
  have e3:b7 (.int .i64) .add (.int .i64 (i:Int)) (.int .i64 1)=some (.int .i64 ((i+1:Nat):Int)):=A0 _ i 1 (by omega)
  have hl200:=hl _ (List.getElem_mem hlt)
  have htake:F2 (L.take (i+1))=F2 (L.take i)++[62,32]++L[i]++[10]:=by
   rw [List.take_succ_eq_append_getElem hlt,aj7]
   simp [F2]
  have htkl:(F2 (L.take i)).length<=(200+3)*(L.take i).length:=agp 200 _ fun l h=>hl l (List.mem_of_mem_take h)
  have hti:(L.take i).length<=300:=by simp; omega
  have w1:=D9 .str (F2 (L.take i)) [62,32] (by simp; omega)
  have w2:=D9 .str (F2 (L.take i)++[62,32]) L[i] (by simp; omega)
  have w3:=D9 .str (F2 (L.take i)++[62,32]++L[i]) [10] (by simp; omega)
  simp only [c9,j1,e3,w1,w2,w3,show ((i:Int)<(L.length:Int)) from by omega]
  exact j8.here ⟨L.length-(i+1),by omega,i+1,rfl,by omega,rfl,by rw [htake]⟩
 ·have:i=L.length:=by omega
  subst this
  simp only [c9,List.take_length,show ¬ ((L.length:Int)<(L.length:Int)) from by omega]
  exact j8.here rfl
theorem aw7 (m:l9) (hm:TnM m) (hb:L4 m=true) (hh:aaj m.lines<5) (h30:m.lines.length ≠ 30) (p:Bs) (r:List Bs) (hto:m.to=p::r) :
 ∃ A:Bs,A ≠ []/\A.length<=30000/\qc Z4 [.str ((bxT++p++[10,115,97,121,32,72,69,76,79,32,120,46,111,114,103,10])++J4 (D2 m)++[112,97,115,115,10,116,97,107,101,32]++p++[10])]=some (.str (A++(F2 m.lines++[101,110,100,10]))):=by
 have hb2:=hb
 unfold L4 at hb2
 rw [Bool.and_eq_true] at hb2
 have hmv:=hb2.1
 have hmo:=(acB m 1 30).1 hmv
 have hpp:G0 p=true:=hmo.2.2.2.1 p (by rw [hto]; simp)
 have hpl:=(aeS hpp).2
 have hp10:(10:UInt8) ∉ p:=fun h=>by have:=(aeS hpp).1 10 h; revert this; decide
 have hlen:(D2 m).length<=50:=by
  have h1:=hmo.2.2.1
  have h2:=hmo.2.2.2.2.1
  unfold D2
  rw [if_pos hb]
  simp [K3]; omega
 have htx:A6 (M7 G3 W3)=true:=axe atX (by decide +kernel) (by decide)
 have htB:Z3 m G3 W3=true:=by
  unfold Z3
  rw [hmv,atX,show V7 G3=true from by decide +kernel,decide_eq_false h30,decide_eq_false (by omega)]; rfl
 have htM:traceM m G3 W3=⟨m.from_,m.to,M7 G3 W3::m.lines⟩:=by unfold traceM; rw [if_pos htB]
 have hlT:∀ t ∈ M7 G3 W3::m.lines,A6 t=true:=fun t ht=>by
  rcases List.mem_cons.1 ht with rfl | ht
  ·exact htx
  ·exact hmo.2.2.2.2.2 t ht
 have hnl:((M7 G3 W3::m.lines).length:Int)<=30:=by have:=hmo.2.2.2.2.1; simp; omega
 have hX:D6 ⟨m.from_,m.to,M7 G3 W3::m.lines⟩ 1 30=true:=(acB _ 1 30).2 ⟨hmo.1,hmo.2.1,hmo.2.2.1,hmo.2.2.2.1,hnl,hlT⟩
 have hY:D6 ⟨m.from_,[p],M7 G3 W3::m.lines⟩ 1 30=true:=(acB _ 1 30).2 ⟨hmo.1,by simp,by simp,fun t ht=>by simp only [List.mem_singleton] at ht; subst ht; exact hpp,hnl,hlT⟩
 obtain ⟨q,hq,hdl⟩:=azm ⟨m.from_,m.to,M7 G3 W3::m.lines⟩ p r hto hX hpp
 have hr9:r.length<=9:=by have:=hmo.2.2.1; rw [hto] at this; simp at this; omega
 obtain ⟨o1,g1⟩:=aFl p hpp (by omega)
 have hF:V5 noS acf=(⟨1,[120,46,111,114,103],noM,[]⟩,250):=rfl
 have hr:V8 noS [] (acf::D2 m)=some (⟨1,[120,46,111,114,103],noM,[m]⟩,[250]++aph m):=by
  simp only [V8]
  rw [if_pos (akv (by show (0:Int) ≠ 5; decide) (by decide)),hF]
  simp only [show ¬ ((250:Int)=0) from by decide,if_false]
  rw [arO hb (by simp)]
  simp
 have htl:=alQ hr
 have hno:∀ l ∈ acf::D2 m,(10:UInt8) ∉ l:=fun l hl=>ayl (htl l hl)
 have hl2:∀ l ∈ acf::D2 m,l.length<=200:=fun l hl=>acX (htl l hl)
 have hv0:SOk noS:=(avL noS).1 aDj
 have hT:=ain hl2
 have hO:=atq (acf::D2 m) noS
 have hal:(acf::D2 m).length<=51:=by simp; omega
 have st1:=ar4 (.sl o1 (vR eX [⟨p,[]⟩])) W3 (acf::D2 m) 200 noS _ [] _ hv0 (SzS.none _) (by omega) hl2 hr
 have hsm:adg [⟨p,[]⟩]:=⟨by simp,fun b hb=>by
  simp only [List.mem_singleton] at hb
  subst hb
  exact ⟨by simp; omega,by simp,by simp⟩⟩
 have hto9:m.to.length<=10:=by rw [hto]; simp; omega
 obtain ⟨_,p2⟩:=az4 [⟨p,[]⟩] m W3 (.sl o1 (vR eX [⟨p,[]⟩])) (.int .i64 1) (.str [120,46,111,114,103]) (.str []) (.sl true []) (.sl true []) true (cO m) (by simp only [c9]) (by simp only [X8,K4,c9]) hm.sm (by have:=hmo.2.2.2.2.1; omega) hsm (by simp; omega) (fun t ht=>by have:=(aeS (hmo.2.2.2.1 t ht)).2; omega) (by omega)
 rw [htM,hdl] at p2
 obtain ⟨o,z,p3⟩:=p2 htB (fun c hc=>by
  rcases List.mem_cons.1 hc with rfl | hc
  ·omega
  ·obtain ⟨_,_,rfl⟩:=List.mem_map.1 hc; omega) (by simp; omega)
 have hcl:=ah9 (250::q.map fun _=>550) (fun c hc=>by
  rcases List.mem_cons.1 hc with rfl | hc
  ·omega
  ·obtain ⟨_,_,rfl⟩:=List.mem_map.1 hc; omega)
 obtain ⟨t1,t2⟩:=awO p ⟨m.from_,[p],M7 G3 W3::m.lines⟩ hY hpp
 have hfl:m.from_.length<=200:=hm.1
 have hsm2:adg [⟨p,[⟨m.from_,[p],M7 G3 W3::m.lines⟩]⟩]:=⟨by simp,fun b hb=>by
  simp only [List.mem_singleton] at hb
  subst hb
  exact ⟨by simp; omega,by simp,fun m' hm'=>by
   simp only [List.mem_singleton] at hm'
   subst hm'
   exact ⟨by simp; omega,⟨by simp,fun s hs=>by simp only [List.mem_singleton] at hs; subst hs; omega⟩,⟨by simp at hnl ⊢; omega,fun s hs=>by have:=acX (hlT s hs); omega⟩⟩⟩⟩
 obtain ⟨G',p4⟩:=avi [⟨p,[⟨m.from_,[p],M7 G3 W3::m.lines⟩]⟩] p (.sl o (vR eX [⟨p,[⟨m.from_,[p],M7 G3 W3::m.lines⟩]⟩])) ([.int .i64 1,.str [120,46,111,114,103],.str [],.sl true [],.sl true [],.sl true []]++cD W3) z (by simp only [c9]) hsm2 t1 (by rw [t2]; show m.from_.length<=1000; omega) (by rw [t2]; show (M7 G3 W3::m.lines).length<=1000; omega) (by rw [t2]; intro s hs; have:=acX (hlT s hs); omega)
 rw [t2] at p4
 have hsp:j7 10 ((bxT++p++[10,115,97,121,32,72,69,76,79,32,120,46,111,114,103,10])++J4 (D2 m)++[112,97,115,115,10,116,97,107,101,32]++p++[10])=(bxT++p)::(((acf::D2 m).map fun l=>adm++l)++[aej,tkT++p,[]]):=by
  have e:(bxT++p++[10,115,97,121,32,72,69,76,79,32,120,46,111,114,103,10])++J4 (D2 m)++[112,97,115,115,10,116,97,107,101,32]++p++[10]=(bxT++p)++[10]++(J4 (acf::D2 m)++(aej++[10]++((tkT++p)++[10]++[]))):=by
   simp [J4,adm,acf,aej,tkT,bxT]
  rw [e,afY (by simp only [List.mem_append,not_or]; exact ⟨by decide,hp10⟩),arH hno,afY (by decide),afY (by simp only [List.mem_append,not_or]; exact ⟨by decide,hp10⟩)]
  rfl
 have st:Steps ((bxT++p)::(((acf::D2 m).map fun l=>adm++l)++[aej,tkT++p,[]])) [cG (.sl true []) abx W3] _ _ :=
  .step (by simp [bxT]) g1 (st1.app (.step (by simp [aej]) (aFj _ _ _ _ _ _ _ _ _ _ p3) (.step (by simp [tkT]) (aEl p (by omega) _ _ p4) (.skip (.nil _)))))
 have hlo:=agp 200 (M7 G3 W3::m.lines) (fun l h=>acX (hlT l h))
 have hlo1:=agp 200 m.lines (fun l h=>acX (hmo.2.2.2.2.2 l h))
 have hnl':(M7 G3 W3::m.lines).length<=30:=by omega
 have fin:=au1 hsp (by simp [bxT]; simp at hT hal; simp [J4,adm,acf] at hT; simp [J4,adm]; omega) (by simp; omega) st (by simp [okL,aet,ahR,aed] at *; omega)
 refine ⟨okL++(aqK noS (acf::D2 m)++((aet++aaJ (250::q.map fun _=>550)++[10]++ahR)++(aed++m.from_++[62,10]++([62,32]++M7 G3 W3++[10])))),by simp [okL],?_,?_⟩
 ·have:=acX htx
  simp [okL,aet,ahR,aed] at *; omega
 ·rw [fin]
  simp [F2]
theorem aq9 (u:V) (h:ahs (.sl (.int .u8)) u):∃ H,cv ab4 [u] []=some (.bool true,H):=by
 obtain ⟨xs,rfl⟩:=aFw h
 suffices hg:j8 (cv ab4 [.sl false (vB xs)] []) fun r=>r.1 = .bool true by
  obtain ⟨⟨v,H⟩,e,h⟩:=hg
  cases h
  exact ⟨H,e⟩
 rw [ajR]
 simp only [c9,decide_eq_true_eq]
 refine j8.ite (fun h=>?_) (fun h=>?_)
 ·exact j8.here rfl
 ·refine (apB xs).bind ?_
  rintro _ H1 ⟨m,rfl,hm⟩
  have s1:=aoI m hm.sm
  have s2:=anQ m hm.sm
  have s3:=an7 m hm.sm
  obtain ⟨hL,hLl⟩:=axf hm
  have q1:=ayk (D2 m) (D2 m) (by omega)
  simp only [K4] at s1 s2 s3
  by_cases hb:L4 m=true
  ·have hb2:=hb
   unfold L4 at hb2
   rw [Bool.and_eq_true] at hb2
   have hmv:=hb2.1
   have hmo:=(acB m 1 30).1 hmv
   have hch:chN m=aaj m.lines:=by unfold chN; rw [if_pos hmv]
   rw [hmv,hch] at s3
   rw [hb] at s1 s2
   by_cases hh:5<=aaj m.lines
   ·simp only [c9,X8,s1,s2,s3,q1,show ((aaj m.lines:Nat):Int)>=5 from by omega]
    exact j8.here rfl
   by_cases h30:m.lines.length=30
   ·simp only [c9,X8,s1,s2,s3,q1,show ¬ (((aaj m.lines:Nat):Int)>=5) from by omega,show ((m.lines.length:Nat):Int)=30 from by omega]
    exact j8.here rfl
   obtain ⟨p,r,hto⟩:∃ p r,m.to=p::r:=by
    cases hx:m.to with
    | nil=>have:=hmo.2.1; rw [hx] at this; simp at this
    | cons p r=>exact ⟨p,r,rfl⟩
   have hpp:G0 p=true:=hmo.2.2.2.1 p (by rw [hto]; simp)
   have hpl:=(aeS hpp).2
   obtain ⟨A,hA,hAl,fin⟩:=aw7 m hm hb (by omega) h30 p r hto
   have hLt:∀ l ∈ D2 m,l.length<=200:=fun l hl=>by
    have h1:V8 noS [] (acf::D2 m)=some (⟨1,[120,46,111,114,103],noM,[m]⟩,[250]++aph m):=by
     have hF:V5 noS acf=(⟨1,[120,46,111,114,103],noM,[]⟩,250):=rfl
     simp only [V8]
     rw [if_pos (akv (by show (0:Int) ≠ 5; decide) (by decide)),hF]
     simp only [show ¬ ((250:Int)=0) from by decide,if_false]
     rw [arO hb (by simp)]
     simp
    exact acX (alQ h1 l (by simp [hl]))
   have hTl:=ain hLt
   have hml:∀ l ∈ m.lines,l.length<=200:=fun l hl=>acX (hmo.2.2.2.2.2 l hl)
   have hmn:m.lines.length<=30:=by have:=hmo.2.2.2.2.1; omega
   have hEl:=agp 200 m.lines hml
   have i0:y8 1 (.sl false (vT m.to)) (.int .i64 0)=some (.J3 [.str p] 0):=by rw [hto]; rfl
   have u1:=D9 .str bxT p (by simp [bxT]; omega)
   have u2:=D9 .str (bxT++p) [10,115,97,121,32,72,69,76,79,32,120,46,111,114,103,10] (by simp [bxT]; omega)
   have hT0:(bxT++p++[10,115,97,121,32,72,69,76,79,32,120,46,111,114,103,10]).length<=1000:=by simp [bxT]; omega
   have hbx:([98,111,120,32]:Bs)=bxT:=rfl
   rw [hbx]
   generalize hT:bxT++p++[10,115,97,121,32,72,69,76,79,32,120,46,111,114,103,10]=T0 at *
   simp only [c9,X8,s1,s2,s3,q1,i0,u1,u2,show ¬ (((aaj m.lines:Nat):Int)>=5) from by omega,show ¬ (((m.lines.length:Nat):Int)=30) from by omega]
   refine (aCO (D2 m) T0 _ _ _ _ (by omega) hLt hT0).bind ?_
   rintro _ rfl
   have w1:=D9 .str (T0++J4 (D2 m)) [112,97,115,115,10,116,97,107,101,32] (by simp; omega)
   have w2:=D9 .str (T0++J4 (D2 m)++[112,97,115,115,10,116,97,107,101,32]) p (by simp; omega)
   have w3:=D9 .str (T0++J4 (D2 m)++[112,97,115,115,10,116,97,107,101,32]++p) [10] (by simp; omega)
   simp only [c9,i0,w1,w2,w3,fin]
   refine (endLoop m.lines _ _ _ _ _ (by omega) hml).bind ?_
   rintro _ rfl
   generalize F2 m.lines=E0 at *
   have w4:=D9 .str E0 [101,110,100,10] (by simp; omega)
   generalize hEE:E0++[101,110,100,10]=E at *
   have hEl2:E.length<=7000:=by rw [<-hEE]; simp; omega
   have hpos:=List.length_pos_iff.2 hA
   have v1:b7 (.int .i64) .sub (.int .i64 ((A++E).length:Nat)) (.int .i64 (E.length:Nat))=some (.int .i64 (A.length:Nat)):=by
    rw [ac7 (.int .i64) (A++E).length E.length (by simp) (by simp; omega)]; simp
   have v2:C9 (.str (A++E)) (some (.int .i64 (A.length:Nat))) none=some (.str E):=by
    rw [aee (A++E) .i64 A.length (by simp),List.drop_left]
   have v3:(((A++E).length:Nat):Int)>(E.length:Nat):=by simp; omega
   simp only [c9,w4,v1,v2,v3]
   exact j8.here rfl
  ·have hb':L4 m=false:=by simpa using hb
   rw [hb'] at s1 s2
   simp only [c9,X8,s1,s2,q1]
   exact j8.here rfl
end Go.Proofs.YtaapfgpeeghmeaaGreatDoor.Q
