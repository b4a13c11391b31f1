/- The law: traces are told. -/
import Derived.Test.YtaapfgpeeghmeaaGreatDoorScriptTraceCg0takeZ
import Derived.Test.YtaapfgpeeghmeaaGreatDoorFnScriptTraceK5
namespace Go.Proofs.YtaapfgpeeghmeaaGreatDoor.Q
open Go Go.AM
set_option linter.unusedSimpArgs false
set_option linter.unusedVariables false
set_option linter.unusedSectionVars false
def K3:Bs:=[97,64,98]
def B0:V := .sl false [[.str K3,.sl false []]]
def sA:List V:=[.int .i64 1,.str [120],.str [],.sl true [],.sl true [],.sl true []]
def sB:List V:=[.int .i64 2,.str [120],.str [],.sl true [],.sl true [],.sl true []]
def sC:List V:=[.int .i64 3,.str [120],.str [],.sl true [[.str K3]],.sl true [],.sl true []]
def sD:List V:=[.int .i64 4,.str [120],.str [],.sl true [[.str K3]],.sl true [],.sl true []]
def aAT:List V:=[.str [],.sl true [[.str K3]],.sl true []]
def ab1:Bs:=[50,53,48,32,111,107,10]
def anq:Bs:=[51,53,52,32,103,111,32,111,110,10]
def auL:Bs:=[98,111,120,32,97,64,98]
def apK:Bs:=[115,97,121,32,72,69,76,79,32,120]
def apY:Bs:=[115,97,121,32,77,65,73,76,32,70,82,79,77,58,60,62]
def apE:Bs:=[115,97,121,32,82,67,80,84,32,84,79,58,60,97,64,98,62]
def apR:Bs:=[115,97,121,32,68,65,84,65]
def at4:Bs:=[115,97,121,32,46]
def ae2:Bs:=[112,97,115,115]
def amE:Bs:=[116,97,107,101,32,97,64,98]
set_option maxRecDepth 100000 in
theorem k0 (d:Dt):cv E8 [.ptr 0 0,.str auL] [cG (.sl true []) acJ d]=some (.str okL,[cG B0 acJ d]):=adH 100 (by kernel_rfl)
set_option maxRecDepth 100000 in
theorem k1 (d:Dt):cv E8 [.ptr 0 0,.str apK] [cG B0 acJ d]=some (.str ab1,[cG B0 sA d]):=adH 100 (by kernel_rfl)
set_option maxRecDepth 100000 in
theorem k2 (d:Dt):cv E8 [.ptr 0 0,.str apY] [cG B0 sA d]=some (.str ab1,[cG B0 sB d]):=adH 100 (by kernel_rfl)
set_option maxRecDepth 100000 in
theorem k3 (d:Dt):cv E8 [.ptr 0 0,.str apE] [cG B0 sB d]=some (.str ab1,[cG B0 sC d]):=adH 100 (by kernel_rfl)
set_option maxRecDepth 100000 in
theorem k4 (d:Dt):cv E8 [.ptr 0 0,.str apR] [cG B0 sC d]=some (.str anq,[cG B0 sD d]):=adH 100 (by kernel_rfl)
set_option maxRecDepth 100000 in
theorem k5 (d:Dt):cv E8 [.ptr 0 0,.str at4] [cG B0 sD d]=some (.str ab1,[cG B0 [.int .i64 1,.str [120],.str [],.sl true [],.sl true [],.sl true [aAT]] d]):=adH 100 (by kernel_rfl)
def mT:z7:=⟨[],[K3],[]⟩
def lB:List A3:=[⟨K3,[]⟩]
theorem aCh:aeF lB:=⟨by simp [lB],fun b hb=>by
 simp only [lB,List.mem_singleton] at hb
 subst hb
 exact ⟨by simp [K3],by simp,by simp⟩⟩
theorem aCO:SmM mT:=⟨by simp [mT],⟨by simp [mT],by simp [mT,K3]⟩,⟨by simp [mT],by simp [mT]⟩⟩
theorem aCt {d:Dt} (hv:L0 d=true):X3 mT J9 d=true:=by
 unfold X3
 rw [hv,show L5 mT 1 30=true from by decide +kernel,show afw J9=true from by decide +kernel]
 rfl
theorem aCi {l:Bs} (h:S5 l=true):aeq lB (adw ⟨[],[K3],[l]⟩)=([⟨K3,[⟨[],[K3],[l]⟩]⟩],[250]):=by
 have hm:L5 ⟨[],[K3],[l]⟩ 1 30=true:=by
  show (ae4 []&&(decide (((1:Nat):Int)>=1)&&(decide (((1:Nat):Int)<=10)&&(!(List.any [K3] fun t => !aa9 t)&&(decide (((1:Nat):Int)<=30) && !(List.any [l] fun t => !S5 t))))))=true
  rw [show (List.any [l] fun t => !S5 t)=false from by simp [h]]
  decide +kernel
 have hn:adw ⟨[],[K3],[l]⟩=⟨[],[K3],[l]⟩:=rfl
 rw [hn]
 unfold aeq
 rw [hm,show V7 lB=true from by decide +kernel]
 rfl
theorem aCx {l:Bs} (h:S5 l=true):aaH [⟨K3,[⟨[],[K3],[l]⟩]⟩] K3=true/\Z2 [⟨K3,[⟨[],[K3],[l]⟩]⟩] K3=⟨[],[K3],[l]⟩:=by
 have hm:L5 ⟨[],[K3],[l]⟩ 1 30=true:=by
  show (ae4 []&&(decide (((1:Nat):Int)>=1)&&(decide (((1:Nat):Int)<=10)&&(!(List.any [K3] fun t => !aa9 t)&&(decide (((1:Nat):Int)<=30) && !(List.any [l] fun t => !S5 t))))))=true
  rw [show (List.any [l] fun t => !S5 t)=false from by simp [h]]
  decide +kernel
 have hb:V7 [⟨K3,[⟨[],[K3],[l]⟩]⟩]=true:=by
  have e:ai1 [⟨K3,[⟨[],[K3],[l]⟩]⟩] 0=(!aa9 K3||(decide (4<1)||((decide (0<0) && !ltT K3 K3)||(!L5 ⟨[],[K3],[l]⟩ 1 30||false)))):=rfl
  have e2:V7 [⟨K3,[⟨[],[K3],[l]⟩]⟩]=(decide (1<=8) && !(ai1 [⟨K3,[⟨[],[K3],[l]⟩]⟩] 0||false)):=rfl
  rw [e2,e,hm]
  decide +kernel
 have ht:aaH [⟨K3,[⟨[],[K3],[l]⟩]⟩] K3=true:=by
  unfold aaH
  rw [hb]
  rfl
 refine ⟨ht,?_⟩
 unfold Z2
 rw [if_pos ht]
 rfl
theorem aCI (bv s0 s1 s2 s3 s4 s5:V) (d:Dt) (H:VH) (r:V × VH) (h:cv O1 [.ptr 0 0] (cG bv [s0,s1,s2,s3,s4,s5] d::H)=some r):cv E8 [.ptr 0 0,.str ae2] (cG bv [s0,s1,s2,s3,s4,s5] d::H)=some r:=by
 have e1:qc U2 [.str ae2,.str [32]]=some (.A4 [.str ae2,.str [],.bool false]):=akc 100 (by kernel_rfl)
 rw [ac3]
 simp only [j3,e1]
 rw [ahM]
 simp only [j3,show decide (ae2=[115,97,121])=false from rfl,show decide (ae2=[111,112,101,110])=false from rfl,show decide (ae2=[99,108,101,97,114])=false from rfl,show decide (ae2=[112,97,115,115])=true from rfl,h]
theorem aCb (H:VH) (r:V × VH) (h:cv X7 [.ptr 0 0,.str K3] H=some r):cv E8 [.ptr 0 0,.str amE] H=some r:=by
 have e1:qc U2 [.str amE,.str [32]]=some (.A4 [.str [116,97,107,101],.str K3,.bool true]):=akc 100 (by kernel_rfl)
 have n1:decide (([116,97,107,101]:Bs)=[115,97,121])=false:=rfl
 have n2:decide (([116,97,107,101]:Bs)=[98,111,120])=false:=rfl
 rw [ac3]
 simp only [j3,e1,n1,n2,h]
theorem amC (u:V) (h:ahE (.sl (.int .u8)) u):∃ H,cv abo [u] []=some (.bool true,H):=by
 obtain ⟨xs,rfl⟩:=(auY h).imp fun _ q=>q.1
 suffices hg:l7 (cv abo [.sl false (vB xs)] []) fun r=>r.1 = .bool true by
  obtain ⟨⟨v,H⟩,e,h⟩:=hg
  cases h
  exact ⟨H,e⟩
 rw [ah8]
 simp only [j3,decide_eq_true_eq]
 refine l7.ite (fun h=>?_) (fun h=>?_)
 ·exact l7.here rfl
 ·refine (alS xs).bind ?_
  rintro _ H1 ⟨d,rfl⟩
  have s1:=acZ d
  have s2:=ak8 d
  by_cases hv:L0 d=true
  ·obtain ⟨h10,hne,hlen⟩:=asR hv
   have hf:afp d=G3 d:=by unfold afp; rw [if_pos hv]
   rw [hf] at s1 s2
   have g1:=asb (.sl true []) (.int .i64 0) (.str []) (.str []) (.sl true []) (.sl true []) (.sl true []) dt0 d hv
   have htx:S5 (T7 J9 d)=true:=atU hv (by decide +kernel) (by decide)
   have hll:(T7 J9 d).length<=200:=by
    unfold S5 at htx
    simp only [Bool.and_eq_true,decide_eq_true_eq] at htx
    exact htx.2
   have htB:=aCt hv
   have htM:traceM mT J9 d=⟨[],[K3],[T7 J9 d]⟩:=by unfold traceM; rw [if_pos htB]; rfl
   have hdl:=aCi htx
   obtain ⟨_,p2⟩:=axG lB mT d B0 (.int .i64 1) (.str [120]) (.str []) (.sl true []) (.sl true []) true aAT rfl (by rw [P7]; rfl) aCO (by simp [mT]) aCh (by simp [lB,K3]) (by simp [mT,K3]) (by simp [mT])
   rw [htM,hdl] at p2
   obtain ⟨o,z,p3⟩:=p2 htB (by simp) (by simp)
   obtain ⟨t1,t2⟩:=aCx htx
   have hsm:aeF [⟨K3,[⟨[],[K3],[T7 J9 d]⟩]⟩]:=⟨by simp,fun b hb=>by
    simp only [List.mem_singleton] at hb
    subst hb
    exact ⟨by simp [K3],by simp,fun m hm=>by
     simp only [List.mem_singleton] at hm
     subst hm
     exact ⟨by simp,⟨by simp,by simp [K3]⟩,⟨by simp,fun s hs=>by simp only [List.mem_singleton] at hs; subst hs; omega⟩⟩⟩⟩
   obtain ⟨G',p4⟩:=asj [⟨K3,[⟨[],[K3],[T7 J9 d]⟩]⟩] K3 (.sl o (vR eX [⟨K3,[⟨[],[K3],[T7 J9 d]⟩]⟩])) ([.int .i64 1,.str [120],.str [],.sl true [],.sl true [],.sl true []]++cD d) z (by simp only [j3]) hsm t1 (by rw [t2]; simp) (by rw [t2]; simp) (by rw [t2]; intro q hq; simp only [List.mem_singleton] at hq; subst hq; omega)
   rw [t2] at p4
   have hsp:A0 10 (aaK++G3 d++[10,98,111,120,32,97,64,98,10,115,97,121,32,72,69,76,79,32,120,10,115,97,121,32,77,65,73,76,32,70,82,79,77,58,60,62,10,115,97,121,32,82,67,80,84,32,84,79,58,60,97,64,98,62,10,115,97,121,32,68,65,84,65,10,115,97,121,32,46,10,112,97,115,115,10,116,97,107,101,32,97,64,98,10])=[aaK++G3 d,auL,apK,apY,apE,apR,at4,ae2,amE,[]]:=by
    have a1:aaK++G3 d++[10,98,111,120,32,97,64,98,10,115,97,121,32,72,69,76,79,32,120,10,115,97,121,32,77,65,73,76,32,70,82,79,77,58,60,62,10,115,97,121,32,82,67,80,84,32,84,79,58,60,97,64,98,62,10,115,97,121,32,68,65,84,65,10,115,97,121,32,46,10,112,97,115,115,10,116,97,107,101,32,97,64,98,10]=(aaK++G3 d)++10::[98,111,120,32,97,64,98,10,115,97,121,32,72,69,76,79,32,120,10,115,97,121,32,77,65,73,76,32,70,82,79,77,58,60,62,10,115,97,121,32,82,67,80,84,32,84,79,58,60,97,64,98,62,10,115,97,121,32,68,65,84,65,10,115,97,121,32,46,10,112,97,115,115,10,116,97,107,101,32,97,64,98,10]:=rfl
    rw [a1,abp (by simp only [List.mem_append,not_or]; exact ⟨by decide,h10⟩)]
    congr 1
   have st:Steps [aaK++G3 d,auL,apK,apY,apE,apR,at4,ae2,amE,[]] [cG (.sl true []) acJ dt0] _ _ :=
    .step (by simp [aaK]) g1 (.step (by simp [auL]) (k0 d) (.step (by simp [apK]) (k1 d) (.step (by simp [apY]) (k2 d) (.step (by simp [apE]) (k3 d) (.step (by simp [apR]) (k4 d) (.step (by simp [at4]) (k5 d)
     (.step (by simp [ae2]) (aCI _ _ _ _ _ _ _ _ _ _ p3) (.step (by simp [amE]) (aCb _ _ p4) (.skip (.nil _))))))))))
   have hE:∃ A:Bs,A ≠ []/\A.length<=200/\((G3 d++[10])++(okL++(ab1++(ab1++(ab1++(anq++(ab1++((ael++Y1 [250]++[10]++ahp)++((aea++[]++[62,10]++O8 [T7 J9 d]++[101,110,100,10])++[])))))))))=A++([112,97,115,115,101,100,32,50,53,48,10,101,110,100,10,102,114,111,109,32,60,62,10,62,32,82,101,99,101,105,118,101,100,58,32,98,121,32,103,97,116,101,46,101,120,97,109,112,108,101,59,32]++G3 d++[10,101,110,100,10]):=by
    refine ⟨G3 d++[10]++(okL++(ab1++(ab1++(ab1++(anq++ab1))))),by simp,by simp [okL,ab1,anq]; omega,?_⟩
    have h1:Y1 [250]=[32,50,53,48]:=by decide +kernel
    rw [h1]
    simp [okL,ab1,anq,ael,ahp,aea,O8,T7,acK,J9]
   obtain ⟨A,hA,hAl,hE⟩:=hE
   rw [hE] at st
   have fin:=asl hsp (by simp [aaK]; omega) (by simp) st (by simp; omega)
   have w1:=N2 .str aaK (G3 d) (by simp [aaK]; omega)
   have w2:=N2 .str (aaK++G3 d) [10,98,111,120,32,97,64,98,10,115,97,121,32,72,69,76,79,32,120,10,115,97,121,32,77,65,73,76,32,70,82,79,77,58,60,62,10,115,97,121,32,82,67,80,84,32,84,79,58,60,97,64,98,62,10,115,97,121,32,68,65,84,65,10,115,97,121,32,46,10,112,97,115,115,10,116,97,107,101,32,97,64,98,10] (by simp [aaK]; omega)
   have w3:=N2 .str [112,97,115,115,101,100,32,50,53,48,10,101,110,100,10,102,114,111,109,32,60,62,10,62,32,82,101,99,101,105,118,101,100,58,32,98,121,32,103,97,116,101,46,101,120,97,109,112,108,101,59,32] (G3 d) (by simp; omega)
   have w4:=N2 .str ([112,97,115,115,101,100,32,50,53,48,10,101,110,100,10,102,114,111,109,32,60,62,10,62,32,82,101,99,101,105,118,101,100,58,32,98,121,32,103,97,116,101,46,101,120,97,109,112,108,101,59,32]++G3 d) [10,101,110,100,10] (by simp; omega)
   have hdw:([100,97,116,101,32]:Bs)=aaK:=rfl
   rw [C4] at s1 s2 ⊢
   generalize hEE:[112,97,115,115,101,100,32,50,53,48,10,101,110,100,10,102,114,111,109,32,60,62,10,62,32,82,101,99,101,105,118,101,100,58,32,98,121,32,103,97,116,101,46,101,120,97,109,112,108,101,59,32]++G3 d++[10,101,110,100,10]=E at *
   have hEl:E.length<=200:=by rw [<-hEE]; simp; omega
   have hpos:=List.length_pos_iff.2 hA
   have v1:b7 (.int .i64) .sub (.int .i64 ((A++E).length:Nat)) (.int .i64 (E.length:Nat))=some (.int .i64 (A.length:Nat)):=by
    rw [ahR (.int .i64) (A++E).length E.length (by simp) (by simp; omega)]; simp
   have v2:H5 (.str (A++E)) (some (.int .i64 (A.length:Nat))) none=some (.str E):=by
    rw [auk (A++E) .i64 A.length (by simp),List.drop_left]
   have v3:(((A++E).length:Nat):Int)>(E.length:Nat):=by simp; omega
   rw [hdw]
   clear st p3 p4 p2 hdl htM hsp g1 hE hEE t1 t2 hsm htx hll htB hdw hlen hf
   generalize G3 d=F at *
   generalize aaK=W at *
   simp only [List.cons_append,List.nil_append] at w3 w4
   simp only [j3,s1,s2,hne,w1,w2,w3,w4,fin,v1,v2,v3]
   exact l7.here rfl
  ·have hf:afp d=[]:=by unfold afp; rw [if_neg hv]
   rw [hf] at s1 s2
   rw [C4] at s1 s2 ⊢
   simp only [j3,s1,s2]
   exact l7.here rfl
end Go.Proofs.YtaapfgpeeghmeaaGreatDoor.Q
