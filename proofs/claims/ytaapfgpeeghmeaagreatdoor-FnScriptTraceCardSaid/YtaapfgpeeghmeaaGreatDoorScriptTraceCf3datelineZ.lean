/- Contracts: a line that sets the date; the law: scripts have dates. -/
import Derived.Test.YtaapfgpeeghmeaaGreatDoorScriptTraceCf2parsedateZ
import Derived.Test.YtaapfgpeeghmeaaGreatDoorFnScriptTraceK5
namespace Go.Proofs.YtaapfgpeeghmeaaGreatDoor.Q
open Go Go.AM
set_option linter.unusedSimpArgs false
set_option linter.unusedVariables false
set_option linter.unusedSectionVars false
def aaK:Bs:=[100,97,116,101,32]
theorem aCy (b a0 a1 a2 a3 a4 a5 z0 z1 z2 z3 z4 z5 z6 c0 c1 c2 c3 c4 c5 c6:V):K8 (.ptr 0 7) [c0,c1,c2,c3,c4,c5,c6] [[b,a0,a1,a2,a3,a4,a5,z0,z1,z2,z3,z4,z5,z6]]=some [[b,a0,a1,a2,a3,a4,a5,c0,c1,c2,c3,c4,c5,c6]]:=by exact id rfl
theorem asR {d:Dt} (hv:L0 d=true):(10:UInt8) ∉ G3 d/\G3 d ≠ []/\(G3 d).length<=60:=by
 obtain ⟨k,j,dd,hh,mm,ss,q1,q2,q3,q4,q5,q6,q7,q8,q9,q10,q11,q12,q13,q14,q15⟩:=ach hv
 have bd:=S9 d.y d.mo
 have d1:=aBz dd (by omega) q9
 have d2:=aAU k q7
 have t1:=adu hh (by omega)
 have t2:=adu mm (by omega)
 have t3:=adu ss (by omega)
 have z1:=adu (d.z.natAbs / 60) (by omega)
 have z2:=adu (d.z.natAbs % 60) (by omega)
 have mf:=aqC j q8
 have wf:=atr _ (Nat.mod_lt (dbI d.y d.mo d.d).toNat (show 0<7 by omega))
 have hwd:wdT d=aaI.getD ((dbI d.y d.mo d.d).toNat % 7) []:=rfl
 rw [<-hwd] at wf
 simp only [Bool.and_eq_true,decide_eq_true_eq] at d1 d2 t1 t2 t3 z1 z2 mf wf
 have pr:∀ {s:Bs},(s.all fun b => !wrB b.toNat)=true->(10:UInt8) ∉ s:=fun h hm=>by
  have:=List.all_eq_true.1 h _ hm
  exact absurd this (by decide)
 have hR:afs d=l5 dd 1++32::(U3.getD j []++32::(l5 (1970+k) 4++32::((l5 hh 2++58::(l5 mm 2++58::l5 ss 2))++32::W8 d.z))):=by
  unfold afs
  rw [q1,q2,q3,q4,q5,q6]
  simp only [Int.toNat_natCast]
  have:(((j+1:Nat):Int)-1).toNat=j:=by omega
  rw [this]
 refine ⟨?_,by rw [adR]; simp,?_⟩
 ·rw [adR,hR]
  unfold W8
  have c1:=V9 (c:=10) d1.1.2 (by decide); have c2:=V9 (c:=10) d2.1.2 (by decide); have c3:=V9 (c:=10) t1.1.2 (by decide); have c4:=V9 (c:=10) t2.1.2 (by decide)
  have c5:=V9 (c:=10) t3.1.2 (by decide); have c6:=V9 (c:=10) z1.1.2 (by decide); have c7:=V9 (c:=10) z2.1.2 (by decide)
  have hs:(10:UInt8) ≠ (if d.z<0 then 45 else 43):=by split<;>decide
  simp only [List.mem_append,List.mem_cons,List.not_mem_nil,not_or]
  exact ⟨⟨pr wf.2,by decide,not_false⟩,by decide,c1,by decide,pr mf.2,by decide,c2,by decide,⟨c3,by decide,c4,by decide,c5⟩,by decide,hs,c6,c7⟩
 ·rw [adR,hR]
  unfold W8
  have:=wf.1.2; have:=mf.1.2; have:=t1.1.1; have:=t2.1.1; have:=t3.1.1; have:=z1.1.1; have:=z2.1.1; have:=d1.1.1.2; have:=d2.1.1
  simp only [List.length_append,List.length_cons,List.length_nil]
  omega
theorem asb (b s0 s1 s2 s3 s4 s5:V) (d0 d:Dt) (hv:L0 d=true) :
 cv E8 [.ptr 0 0,.str (aaK++G3 d)] [cG b [s0,s1,s2,s3,s4,s5] d0]=some (.str (G3 d++[10]),[cG b [s0,s1,s2,s3,s4,s5] d]):=by
 obtain ⟨h10,hne,hlen⟩:=asR hv
 have e0:=aue (aaK++G3 d) 32 (by simp [aaK]; omega)
 have hw:aaK++G3 d=[100,97,116,101]++[32]++G3 d:=rfl
 obtain ⟨q1,q2⟩:=ayx (c:=32) (a:=[100,97,116,101]) (z:=G3 d) (by decide)
 rw [hw] at e0 ⊢
 rw [q1,q2,decide_eq_true (by simp)] at e0
 have e1:=asv d hv
 have e2:=acZ d
 have hf:afp d=G3 d:=by unfold afp; rw [if_pos hv]
 rw [hf] at e2
 have t1:=N2 .str (G3 d) [10] (by simp; omega)
 rw [ac3]
 simp only [List.cons_append,List.nil_append] at e0 ⊢
 rw [C4] at e1 e2
 simp only [cG,C4,adY,aeR] at *
 have n1:¬ (([100,97,116,101]:Bs)=[115,97,121]):=by decide
 have n2:¬ (([100,97,116,101]:Bs)=[98,111,120]):=by decide
 have n3:¬ (([100,97,116,101]:Bs)=[116,97,107,101]):=by decide
 simp only [j3,e0,decide_eq_true_eq,n1,n2,n3,if_false,e1,aCy,e2,t1]
theorem alS (xs:Bs):Y9 (cv aaV [.sl false (vB xs)] []) (fun v H'=>∃ d,v = .agg (cD d)):=by
 refine Y9.of ?_
 rw [ahq]
 have hd:Y9 (cv abk [.sl false (vB xs)] []) (fun v H'=>∃ d,v = .agg (cD d)):=by
  refine Y9.of ?_
  rw [ah0]
  refine aBp.bind ?_
  rintro _ H0 ⟨rfl,R0⟩
  simp only [j3]
  refine (axt R0 (by omega)).bind ?_
  rintro _ H1 ⟨d,rfl,R1⟩
  have w1:=apn d R1 (by omega)
  simp only [C4] at w1
  simp only [j3,C4]
  refine w1.bind ?_
  rintro _ H2 ⟨d,rfl,R2⟩
  have w2:=apn d R2 (by omega)
  simp only [C4] at w2
  simp only [j3,C4]
  refine w2.bind ?_
  rintro _ H3 ⟨d,rfl,R3⟩
  simp only [j3,C4]
  exact l7.here ⟨d,rfl⟩
 refine hd.bind ?_
 rintro _ H1 ⟨d,rfl⟩
 simp only [j3,C4]
 exact l7.here ⟨d,rfl⟩
end Go.Proofs.YtaapfgpeeghmeaaGreatDoor.Q
