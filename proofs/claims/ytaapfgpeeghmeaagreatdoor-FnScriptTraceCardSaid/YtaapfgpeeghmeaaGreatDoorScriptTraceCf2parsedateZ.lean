/- Contracts: ParseDate reads what FormatDate writes. -/
import Derived.Test.YtaapfgpeeghmeaaGreatDoorScriptTraceCf1dateZ
import Derived.Test.YtaapfgpeeghmeaaGreatDoorFnScriptTraceK5
namespace Go.Proofs.YtaapfgpeeghmeaaGreatDoor.Q
open Go Go.AM
set_option linter.unusedSimpArgs false
set_option linter.unusedVariables false
set_option linter.unusedSectionVars false
set_option maxRecDepth 100000 in
theorem azN:∀ r:Nat,r<7->qc agU [.str (aaI.getD r []),.str [32]]=some (.str (aaI.getD r [])):=fun r h=>by
 obtain rfl | rfl | rfl | rfl | rfl | rfl | rfl:r=0\/r=1\/r=2\/r=3\/r=4\/r=5\/r=6:=by omega
 all_goals exact akc 60 (by kernel_rfl)
set_option maxRecDepth 100000 in
theorem azW:∀ r:Nat,r<7->qc agM [.str (aaI.getD r []),.str (aaI.getD r [])]=some (.bool true):=fun r h=>by
 obtain rfl | rfl | rfl | rfl | rfl | rfl | rfl:r=0\/r=1\/r=2\/r=3\/r=4\/r=5\/r=6:=by omega
 all_goals exact akc 60 (by kernel_rfl)
set_option maxRecDepth 100000 in
theorem axC:∀ (j:Nat),j<12->∀ (D Y T Z:Bs),qc D4 [.sl false (vT ahW),.fn abV [.I8 [.sl false (vT [D,U3.getD j [],Y,T,Z])] 0]]=some (.int .i64 (j:Int)):=fun j h D Y T Z=>by
 obtain rfl | rfl | rfl | rfl | rfl | rfl | rfl | rfl | rfl | rfl | rfl | rfl:j=0\/j=1\/j=2\/j=3\/j=4\/j=5\/j=6\/j=7\/j=8\/j=9\/j=10\/j=11:=by omega
 all_goals exact akc 80 (by kernel_rfl)
theorem aAW (l:List Bs) (G:VH) (h0:0<l.length) (h1:l.length<=1000000) :
 cv M4 [.l8 G.length 0 l.length 1,.fn aap []] (G++[(vR eT l).flatten]) =
  some (.l8 (G++[(vR eT l).flatten]).length 0 (l.filter fun s => !s.isEmpty).length 1,(G++[[]])++[(vR eT (l.filter fun s => !s.isEmpty)).flatten]):=by
 have hm:∀ l:List Bs,(vR eT l).flatten=l.map .str:=fun l=>by induction l with | nil=>rfl | cons s l ih=>show .str s::(vR eT l).flatten=_; rw [ih]; rfl
 show M8 vb _ _ _=_
 rw [afW vb _ _ _ (g:=amY aap) rfl]
 have hk:(G++[(vR eT l).flatten])[G.length]? = some ((vR eT l).flatten):=by simp
 simp only [amY,hk,Option.bind_some]
 rw [hm l,arp]
 simp only [Option.bind_some]
 rw [if_pos ⟨trivial,trivial,trivial,h0,by omega⟩,hm]
 simp
def afs (d:Dt):Bs:=l5 d.d.toNat 1++32::(U3.getD (d.mo-1).toNat []++32::(l5 d.y.toNat 4++32::((l5 d.h.toNat 2++58::(l5 d.mi.toNat 2++58::l5 d.s.toNat 2))++32::W8 d.z)))
theorem adR (d:Dt):G3 d=wdT d++[44]++(32::afs d):=by
 unfold G3 afs W8 aey
 by_cases h:d.z<0<;>simp [h]
theorem aqC:∀ j:Nat,j<12->(decide ((32:UInt8) ∉ U3.getD j [])&&decide ((U3.getD j []).length=3)&&((U3.getD j []).all fun b => !wrB b.toNat))=true:=by decide
theorem atr:∀ j:Nat,j<7->(decide ((44:UInt8) ∉ aaI.getD j [])&&decide ((aaI.getD j []).length=3)&&((aaI.getD j []).all fun b => !wrB b.toNat))=true:=by decide
theorem agG {s:Bs} (h:(s.all fun b=>acY b.toNat)=true):(s.all fun b => !wrB b.toNat)=true:=by
 rw [List.all_eq_true] at h ⊢
 intro b hb
 have:=h b hb
 simp only [acY,wrB,decide_eq_true_eq,Bool.not_eq_true',decide_eq_false_iff_not] at this ⊢
 omega
theorem ayx {c:UInt8} {a z:Bs} (h:c ∉ a):adz c (a++[c]++z)=a/\ac7 c (a++[c]++z)=z:=by
 have hi:(a++[c]++z).idxOf c=a.length:=by
  rw [List.append_assoc,List.idxOf_append,if_neg h]; simp
 have hm:c ∈ a++[c]++z:=by simp
 unfold adz ac7
 rw [if_pos hm,if_pos hm,hi]
 constructor<;>simp
theorem aA1 (k o n e:Nat):A8 (.l8 k o n e)=some (.l8 k o n e):=by exact id rfl
theorem asv (d:Dt) (hv:L0 d=true):pc acX [.str (G3 d)]=some (.A4 [.agg (cD d),.bool true]):=by
 obtain ⟨k,j,dd,hh,mm,ss,q1,q2,q3,q4,q5,q6,q7,q8,q9,q10,q11,q12,q13,q14,q15⟩:=ach hv
 have bd:=S9 d.y d.mo
 have d1:=aBz dd (by omega) q9
 have d2:=aAU k q7
 have t1:=adu hh (by omega)
 have t2:=adu mm (by omega)
 have t3:=adu ss (by omega)
 have z1:=adu (d.z.natAbs / 60) (by omega)
 have z2:=adu (d.z.natAbs % 60) (by omega)
 have mf:=aqC j q8
 have hr7:(dbI d.y d.mo d.d).toNat % 7<7:=Nat.mod_lt _ (by omega)
 have wf:=atr _ hr7
 have w1:=azN _ hr7
 have w2:=azW _ hr7
 have w3:=agt d hv
 have hwd:wdT d=aaI.getD ((dbI d.y d.mo d.d).toNat % 7) []:=rfl
 rw [<-hwd] at wf w1 w2
 simp only [Bool.and_eq_true,decide_eq_true_eq] at d1 d2 t1 t2 t3 z1 z2 mf wf
 obtain ⟨⟨⟨d1l,d1m⟩,d1a⟩,d1v⟩:=d1
 obtain ⟨⟨d2l,d2a⟩,d2v⟩:=d2
 have g1:=adD (l5 dd 1) 1 2 (by omega) d1a (by omega) (by omega)
 have g2:=adD (l5 (1970+k) 4) 4 4 (by omega) d2a (by omega) (by omega)
 rw [d1v] at g1
 rw [d2v] at g2
 have g3:=asA hh mm ss (by omega) (by omega) (by omega)
 have g4:=asq d.z q14 q15
 have e9:=aag d
 rw [hv] at e9
 have hT:32 ∉ l5 hh 2++58::(l5 mm 2++58::l5 ss 2):=by
  have h1:=V9 (c:=32) t1.1.2 (by decide)
  have h2:=V9 (c:=32) t2.1.2 (by decide)
  have h3:=V9 (c:=32) t3.1.2 (by decide)
  simp only [List.mem_append,List.mem_cons,not_or]
  exact ⟨h1,by decide,h2,by decide,h3⟩
 have hZ:(32:UInt8) ∉ W8 d.z:=by
  have h1:=V9 (c:=32) z1.1.2 (by decide)
  have h2:=V9 (c:=32) z2.1.2 (by decide)
  unfold W8
  simp only [List.mem_append,List.mem_cons,not_or]
  exact ⟨by split<;>decide,h1,h2⟩
 have hR:afs d=l5 dd 1++32::(U3.getD j []++32::(l5 (1970+k) 4++32::((l5 hh 2++58::(l5 mm 2++58::l5 ss 2))++32::W8 d.z))):=by
  unfold afs
  rw [q1,q2,q3,q4,q5,q6]
  simp only [Int.toNat_natCast]
  have:(((j+1:Nat):Int)-1).toNat=j:=by omega
  rw [this]
 have hsp:A0 32 (32::afs d)=[[],l5 dd 1,U3.getD j [],l5 (1970+k) 4,l5 hh 2++58::(l5 mm 2++58::l5 ss 2),W8 d.z]:=by
  have h0:=abp (c:=32) (a:=[]) (z:=afs d) (by simp)
  rw [List.nil_append] at h0
  rw [h0,hR,abp (V9 d1a (by decide)),abp mf.1.1,abp (V9 d2a (by decide)),abp hT,adT _ _ hZ]
 have hlen:(G3 d).length<=60:=by
  rw [adR,hR]
  unfold W8
  have:=wf.1.2; have:=mf.1.2; have:=t1.1.1; have:=t2.1.1; have:=t3.1.1; have:=z1.1.1; have:=z2.1.1
  simp only [List.length_append,List.length_cons,List.length_nil]
  omega
 have htx:S5 (G3 d)=true:=by
  have ha:((G3 d).all fun b => !wrB b.toNat)=true:=by
   rw [adR,hR]
   unfold W8
   have c1:=agG d1a; have c2:=agG d2a; have c3:=agG t1.1.2; have c4:=agG t2.1.2; have c5:=agG t3.1.2; have c6:=agG z1.1.2; have c7:=agG z2.1.2
   have hs:(!wrB (((if d.z<0 then 45 else 43:UInt8)).toNat:Int))=true:=by split<;>decide
   simp only [List.all_append,List.all_cons,List.all_nil,c1,c2,c3,c4,c5,c6,c7,wf.2,mf.2,hs,Bool.and_true,Bool.true_and]
   decide
  unfold S5
  rw [decide_eq_true (by omega),Bool.and_true]
  rw [List.all_eq_true] at ha
  simp only [Bool.not_eq_true',List.any_eq_false]
  intro b hb
  have:=ha b hb
  simpa using this
 have e1:=alA (G3 d) (by omega)
 rw [htx] at e1
 have e2:=aue (G3 d) 44 (by omega)
 obtain ⟨u1,u2⟩:=ayx (z:=32::afs d) wf.1.1
 rw [<-adR] at u1 u2
 have hm:(44:UInt8) ∈ G3 d:=by rw [adR]; simp
 rw [u1,u2,decide_eq_true hm] at e2
 have hfr:(afs d).length<=60:=by rw [adR] at hlen; simp only [List.length_append,List.length_cons] at hlen; omega
 have e3:=azS (32::afs d) 32 [] (by simp; omega)
 rw [hsp] at e3
 have e4:=aAW [[],l5 dd 1,U3.getD j [],l5 (1970+k) 4,l5 hh 2++58::(l5 mm 2++58::l5 ss 2),W8 d.z] [] (by simp) (by simp)
 have n1:l5 dd 1 ≠ []:=fun e=>by rw [e] at d1l; simp at d1l
 have n2:U3.getD j [] ≠ []:=fun e=>by have:=mf.1.2; rw [e] at this; simp at this
 have n3:l5 (1970+k) 4 ≠ []:=fun e=>by rw [e] at d2l; simp at d2l
 have hfl:([[],l5 dd 1,U3.getD j [],l5 (1970+k) 4,l5 hh 2++58::(l5 mm 2++58::l5 ss 2),W8 d.z].filter fun s:Bs => !s.isEmpty)=[l5 dd 1,U3.getD j [],l5 (1970+k) 4,l5 hh 2++58::(l5 mm 2++58::l5 ss 2),W8 d.z]:=by
  have c:∀ {s:Bs},s ≠ []->s.isEmpty=false:=fun {s} h=>by cases s with | nil=>exact absurd rfl h | cons=>rfl
  simp only [List.filter_cons,c n1,c n2,c n3,List.isEmpty_nil,Bool.not_true,Bool.not_false,if_true,Bool.false_eq_true,if_false,List.filter_nil,c (show l5 hh 2++58::(l5 mm 2++58::l5 ss 2) ≠ [] by simp),c (show W8 d.z ≠ [] by simp [W8])]
 rw [hfl] at e4
 have e5:=axC j q8 (l5 dd 1) (l5 (1970+k) 4) (l5 hh 2++58::(l5 mm 2++58::l5 ss 2)) (W8 d.z)
 have mb:agi o6 12 1 (.gp 0 0)=some (.sl false (vT ahW)):=rfl
 have a1:b7 (.int .i64) .add (.int .i64 (j:Nat)) (.int .i64 1)=some (.int .i64 ((j+1:Nat):Int)):=C6 _ j 1 (by omega)
 generalize l5 dd 1=D at *
 generalize U3.getD j []=M at *
 generalize l5 (1970+k) 4=Y at *
 generalize l5 hh 2++58::(l5 mm 2++58::l5 ss 2)=T at *
 generalize W8 d.z=Z at *
 have e4':cv M4 [.l8 0 0 6 1,.fn aap []] [[.str [],.str D,.str M,.str Y,.str T,.str Z]]=some (.l8 1 0 5 1,[[],[.str D,.str M,.str Y,.str T,.str Z]]):=e4
 have e3':pcg J4 [] [.str (32::afs d),.str [32]]=some (.l8 0 0 6 1,[[.str [],.str D,.str M,.str Y,.str T,.str Z]]):=e3
 have o1:K8 (.ptr 2 0) [.l8 1 0 5 1] [[],[.str D,.str M,.str Y,.str T,.str Z],[.sl true []]]=some [[],[.str D,.str M,.str Y,.str T,.str Z],[.l8 1 0 5 1]]:=rfl
 have o2:B2 o6 false false 1 (.ptr 2 0) [[],[.str D,.str M,.str Y,.str T,.str Z],[.l8 1 0 5 1]]=some (.l8 1 0 5 1,[[],[.str D,.str M,.str Y,.str T,.str Z],[.l8 1 0 5 1]]):=rfl
 have i0:A6 1 (.l8 1 0 5 1) (.int .i64 0)=some (.ptr 1 0):=rfl
 have i2:A6 1 (.l8 1 0 5 1) (.int .i64 2)=some (.ptr 1 2):=rfl
 have i3:A6 1 (.l8 1 0 5 1) (.int .i64 3)=some (.ptr 1 3):=rfl
 have i4:A6 1 (.l8 1 0 5 1) (.int .i64 4)=some (.ptr 1 4):=rfl
 have l0:B2 o6 false false 1 (.ptr 1 0) [[],[.str D,.str M,.str Y,.str T,.str Z],[.l8 1 0 5 1]]=some (.str D,[[],[.str D,.str M,.str Y,.str T,.str Z],[.l8 1 0 5 1]]):=rfl
 have l2:B2 o6 false false 1 (.ptr 1 2) [[],[.str D,.str M,.str Y,.str T,.str Z],[.l8 1 0 5 1]]=some (.str Y,[[],[.str D,.str M,.str Y,.str T,.str Z],[.l8 1 0 5 1]]):=rfl
 have l3:B2 o6 false false 1 (.ptr 1 3) [[],[.str D,.str M,.str Y,.str T,.str Z],[.l8 1 0 5 1]]=some (.str T,[[],[.str D,.str M,.str Y,.str T,.str Z],[.l8 1 0 5 1]]):=rfl
 have e5':qcd D4 [[],[.str D,.str M,.str Y,.str T,.str Z],[.l8 1 0 5 1]] [.sl false (vT ahW),.fn abV [.ptr 2 0]]=some (.int .i64 (j:Int)):=e5
 have lv:D6 (.l8 1 0 5 1)=some (.int .i64 5):=rfl
 have hl2:([[],[.str D,.str M,.str Y,.str T,.str Z]]:VH).length=2:=rfl
 have hl3:([[],[.str D,.str M,.str Y,.str T,.str Z],[.l8 1 0 5 1]]:VH).length=3:=rfl
 have ap2:([[],[.str D,.str M,.str Y,.str T,.str Z]]:VH)++[[.sl true []]]=[[],[.str D,.str M,.str Y,.str T,.str Z],[.sl true []]]:=rfl
 have ap3:([[],[.str D,.str M,.str Y,.str T,.str Z],[.l8 1 0 5 1]]:VH)++[[.int .i64 0,.int .i64 0,.int .i64 0]]=[[],[.str D,.str M,.str Y,.str T,.str Z],[.l8 1 0 5 1],[.int .i64 0,.int .i64 0,.int .i64 0]]:=rfl
 have o3:∀ x y z:V,K8 (.ptr 3 0) [x,y,z] [[],[.str D,.str M,.str Y,.str T,.str Z],[.l8 1 0 5 1],[.int .i64 0,.int .i64 0,.int .i64 0]]=some [[],[.str D,.str M,.str Y,.str T,.str Z],[.l8 1 0 5 1],[x,y,z]]:=fun _ _ _=>rfl
 have o4:∀ x y z:V,B2 o6 false false 1 (.ptr 2 0) [[],[.str D,.str M,.str Y,.str T,.str Z],[.l8 1 0 5 1],[x,y,z]]=some (.l8 1 0 5 1,[[],[.str D,.str M,.str Y,.str T,.str Z],[.l8 1 0 5 1],[x,y,z]]):=fun _ _ _=>rfl
 have l4:∀ x y z:V,B2 o6 false false 1 (.ptr 1 4) [[],[.str D,.str M,.str Y,.str T,.str Z],[.l8 1 0 5 1],[x,y,z]]=some (.str Z,[[],[.str D,.str M,.str Y,.str T,.str Z],[.l8 1 0 5 1],[x,y,z]]):=fun _ _ _=>rfl
 have y0:X9 3 1 (.ptr 3 0) (.int .i64 0)=some (.ptr 3 0):=rfl
 have y1:X9 3 1 (.ptr 3 0) (.int .i64 1)=some (.ptr 3 1):=rfl
 have y2:X9 3 1 (.ptr 3 0) (.int .i64 2)=some (.ptr 3 2):=rfl
 have v0:∀ (x y z:Int),B2 o6 false false 1 (.ptr 3 0) [[],[.str D,.str M,.str Y,.str T,.str Z],[.l8 1 0 5 1],[.int .i64 x,.int .i64 y,.int .i64 z]]=some (.int .i64 x,[[],[.str D,.str M,.str Y,.str T,.str Z],[.l8 1 0 5 1],[.int .i64 x,.int .i64 y,.int .i64 z]]):=fun _ _ _=>rfl
 have v1:∀ (x y z:Int),B2 o6 false false 1 (.ptr 3 1) [[],[.str D,.str M,.str Y,.str T,.str Z],[.l8 1 0 5 1],[.int .i64 x,.int .i64 y,.int .i64 z]]=some (.int .i64 y,[[],[.str D,.str M,.str Y,.str T,.str Z],[.l8 1 0 5 1],[.int .i64 x,.int .i64 y,.int .i64 z]]):=fun _ _ _=>rfl
 have v2:∀ (x y z:Int),B2 o6 false false 1 (.ptr 3 2) [[],[.str D,.str M,.str Y,.str T,.str Z],[.l8 1 0 5 1],[.int .i64 x,.int .i64 y,.int .i64 z]]=some (.int .i64 z,[[],[.str D,.str M,.str Y,.str T,.str Z],[.l8 1 0 5 1],[.int .i64 x,.int .i64 y,.int .i64 z]]):=fun _ _ _=>rfl
 rw [C4] at e9 w3 ⊢
 rw [q1,q2,q3,q4,q5,q6] at e9 w3 ⊢
 refine abJ (H:=[[],[.str D,.str M,.str Y,.str T,.str Z],[.l8 1 0 5 1],[.int .i64 (hh:Nat),.int .i64 (mm:Nat),.int .i64 (ss:Nat)]]) ?_ (by simp only [j3]) (by simp only [j3])
 show cv _ _ _=_
 rw [akV]
 simp only [j3,e1,e2,e3',e4',aA1,hl2,ap2,o1,o2,lv,i0,l0,g1,mb,e5',a1,i2,l2,g2,i3,l3,g3,hl3,ap3,o3,o4,i4,l4,g4,y0,y1,y2,v0,v1,v2,Q1,e9,w1,w2,w3]
end Go.Proofs.YtaapfgpeeghmeaaGreatDoor.Q
