/- Contracts: dates as texts. -/
import Derived.Test.YtpbgpeojlfdpoaaGreatDoorExactTraceMailCc2validZ
namespace Go.Proofs.YtpbgpeojlfdpoaaGreatDoor.Q
open Go Go.AM
set_option linter.unusedSimpArgs false
set_option linter.unusedVariables false
set_option linter.unusedSectionVars false
def agX:List Bs:=[[84,104,117],[70,114,105],[83,97,116],[83,117,110],[77,111,110],[84,117,101],[87,101,100]]
def aeg:List Bs:=[[74,97,110],[70,101,98],[77,97,114],[65,112,114],[77,97,121],[74,117,110],[74,117,108],[65,117,103],[83,101,112],[79,99,116],[78,111,118],[68,101,99]]
def wdT (d:Dt):Bs:=agX.getD ((dbI d.y d.mo d.d).toNat % 7) []
def ajY (z:Int):Bs:=if z<0 then [32,45] else [32,43]
def afg (d:Dt):Bs:=wdT d++[44,32]++B5 d.d.toNat 1++[32]++aeg.getD (d.mo-1).toNat []++[32]++B5 d.y.toNat 4++[32]++B5 d.h.toNat 2++[58]++B5 d.mi.toNat 2++[58]++B5 d.s.toNat 2++ajY d.z++B5 (d.z.natAbs / 60) 2++B5 (d.z.natAbs % 60) 2
def ah2 (d:Dt):Bs:=if L7 d=true then afg d else []
theorem D5 (n k:Nat):(B5 n k).length<=n+k:=by have:=aoZ (n+k) n k []; simpa [B5] using this
theorem awr:∀ n:Nat,n<100->B5 (n / 10) 1++B5 (n % 10) 1=B5 n 2:=by decide +kernel
theorem aut:∀ k:Nat,k<130->B5 (1970+k) 4=B5 (1970+k) 1:=by decide +kernel
theorem aiq:∀ r:Nat,(agX.getD r []).length<=3:=fun r=>by
 by_cases h:r<7
 ·have:∀ r:Nat,r<7->(agX.getD r []).length<=3:=by decide
  exact this r h
 ·simp [agX,List.getD_eq_getElem?_getD,List.getElem?_eq_none (show ([[84,104,117],[70,114,105],[83,97,116],[83,117,110],[77,111,110],[84,117,101],[87,101,100]]:List Bs).length<=r by simp; omega)]
theorem akb:∀ r:Nat,(aeg.getD r []).length<=3:=fun r=>by
 by_cases h:r<12
 ·have:∀ r:Nat,r<12->(aeg.getD r []).length<=3:=by decide
  exact this r h
 ·simp [aeg,List.getD_eq_getElem?_getD,List.getElem?_eq_none (show ([[74,97,110],[70,101,98],[77,97,114],[65,112,114],[77,97,121],[74,117,110],[74,117,108],[65,117,103],[83,101,112],[79,99,116],[78,111,118],[68,101,99]]:List Bs).length<=r by simp; omega)]
theorem aqI (o:Bool) (l:List Bs) (i:Nat) (h:i<l.length):C3 1 (.sl o (vT l)) (.int .i64 (i:Int))=some (.I6 [.str (l.getD i [])] 0):=by
 have:=Z9 o l .i64 i h
 rw [List.getD_eq_getElem?_getD,List.getElem?_eq_getElem h]
 exact this
theorem aeY {d:Dt} (h:L7 d=true):∃ (k j dd hh mm ss:Nat),d.y=((1970+k:Nat):Int)/\d.mo=((j+1:Nat):Int)/\d.d=(dd:Nat)/\d.h=(hh:Nat)/\d.mi=(mm:Nat)/\d.s=(ss:Nat)/\k<130/\j<12/\1<=dd/\(dd:Int)<=Y8 d.y d.mo/\hh<=23/\mm<=59/\ss<=59 ∧ -720<=d.z/\d.z<=840:=by
 unfold L7 abG at h
 simp only [Bool.and_eq_true,decide_eq_true_eq] at h
 obtain ⟨⟨hd1,hd2,h1,h2,h3,h4,h5,h6,h7,h8⟩,_⟩:=h
 obtain ⟨hy,hm⟩:=ajT (y:=d.y) (m:=d.mo) (by omega)
 exact ⟨(d.y-1970).toNat,(d.mo-1).toNat,d.d.toNat,d.h.toNat,d.mi.toNat,d.s.toNat,by omega,by omega,by omega,by omega,by omega,by omega,by omega,by omega,by omega,by omega,by omega,by omega,by omega,h7,h8⟩
theorem ay6:∀ (r:Nat),r<7->aeX 7 1 (.agg [(.str [84,104,117]),(.str [70,114,105]),(.str [83,97,116]),(.str [83,117,110]),(.str [77,111,110]),(.str [84,117,101]),(.str [87,101,100])]) (.int .i64 (r:Int))=some (.str (agX.getD r [])):=fun r h=>by
 obtain rfl | rfl | rfl | rfl | rfl | rfl | rfl:r=0\/r=1\/r=2\/r=3\/r=4\/r=5\/r=6:=by omega
 all_goals rfl
theorem akt (d:Dt) (h:L7 d=true):qc abT [.agg (cD d)]=some (.str (wdT d)):=by
 have e0:=acs d
 rw [h] at e0
 obtain ⟨k,j,dd,hh,mm,ss,q1,q2,q3,q4,q5,q6,q7,q8,q9,q10,q11,q12,q13,q14⟩:=aeY h
 have bd:=aaJ d.y d.mo
 have e1:=ah7 d.y d.mo d.d (by omega) (by omega) (by omega)
 have b0:=al6 (y:=d.y) (m:=d.mo) (d:=d.d) (by omega) (by omega) (by omega)
 obtain ⟨b,hb⟩:∃ b:Nat,dbI d.y d.mo d.d=b:=⟨_,(Int.toNat_of_nonneg b0.1).symm⟩
 have e2:b9 (.int .i64) .rem (.int .i64 (b:Nat)) (.int .i64 7)=some (.int .i64 ((b % 7:Nat):Int)):=aec _ b 7 (by omega)
 have e3:=ay6 (b % 7) (Nat.mod_lt _ (by omega))
 simp only [y9] at e0
 refine o7 (H:=[]) ?_ (by simp only [y9,g9]) rfl
 show cv _ _ _=_
 rw [ajg]
 unfold wdT
 rw [hb] at e1 ⊢
 simp only [y9,g9,e0,e1,e2,e3,Int.toNat_natCast]
theorem akr (d:Dt) (h:L7 d=true):qc abU [.agg (cD d)]=some (.str (wdT d)):=by
 have e0:=aci d
 rw [h] at e0
 have hf:abG d=true:=by
  unfold L7 at h
  rw [Bool.and_eq_true] at h
  exact h.1
 have e1:=aju d hf
 obtain ⟨k,j,dd,hh,mm,ss,q1,q2,q3,q4,q5,q6,q7,q8,q9,q10,q11,q12,q13,q14⟩:=aeY h
 have bd:=aaJ d.y d.mo
 have b0:=al6 (y:=d.y) (m:=d.mo) (d:=d.d) (by omega) (by omega) (by omega)
 obtain ⟨b,hb⟩:∃ b:Nat,dbI d.y d.mo d.d=b:=⟨_,(Int.toNat_of_nonneg b0.1).symm⟩
 have hs:abb d=b*86400+hh*3600+mm*60+ss-d.z*60:=by unfold abb; rw [hb,q4,q5,q6]
 have e2:=aeC (.int .i64) d.z 60 (by omega) (by omega)
 have e3:=aaO (.int .i64) (abb d) (d.z*60) (by omega) (by omega)
 have hsum:abb d+d.z*60=((b*86400+hh*3600+mm*60+ss:Nat):Int):=by omega
 rw [hsum] at e3
 have e4:b9 (.int .i64) .quo (.int .i64 ((b*86400+hh*3600+mm*60+ss:Nat):Int)) (.int .i64 86400)=some (.int .i64 (((b*86400+hh*3600+mm*60+ss) / 86400:Nat):Int)):=ae5 _ _ 86400 (by omega) (by omega)
 rw [show (b*86400+hh*3600+mm*60+ss) / 86400=b by omega] at e4
 have e5:b9 (.int .i64) .rem (.int .i64 (b:Nat)) (.int .i64 7)=some (.int .i64 ((b % 7:Nat):Int)):=aec _ b 7 (by omega)
 have e6:C3 1 (.sl false [[.str [84,104,117]],[.str [70,114,105]],[.str [83,97,116]],[.str [83,117,110]],[.str [77,111,110]],[.str [84,117,101]],[.str [87,101,100]]]) (.int .i64 ((b % 7:Nat):Int))=_:=aqI false agX (b % 7) (by have:=Nat.mod_lt b (show 0<7 by omega); simp [agX]; omega)
 simp only [y9] at e0 e1
 refine o7 (H:=[]) ?_ (by simp only [y9,g9]) rfl
 show cv _ _ _=_
 rw [ai9]
 unfold wdT
 rw [hb]
 simp only [y9,g9,e0,e1,e2,e3,e4,e5,e6,Int.toNat_natCast]
theorem aw8:∀ (r:Nat) (H:VH),r<12->O2 I7 false false 1 (.gp 0 r) H=some (.str (aeg.getD r []),H):=fun r H h=>by
 obtain rfl | rfl | rfl | rfl | rfl | rfl | rfl | rfl | rfl | rfl | rfl | rfl:r=0\/r=1\/r=2\/r=3\/r=4\/r=5\/r=6\/r=7\/r=8\/r=9\/r=10\/r=11:=by omega
 all_goals rfl
theorem ai8 (d:Dt):qc abe [.agg (cD d)]=some (.str (ah2 d)):=by
 have e0:=acs d
 refine o7 (H:=[]) ?_ (by simp only [y9,g9]) rfl
 show cv _ _ _=_
 rw [ah1]
 unfold ah2
 by_cases hv:L7 d=true
 ·rw [if_pos hv]
  rw [hv] at e0
  have e1:=akt d hv
  obtain ⟨k,j,dd,hh,mm,ss,q1,q2,q3,q4,q5,q6,q7,q8,q9,q10,q11,q12,q13,q14⟩:=aeY hv
  have bd:=aaJ d.y d.mo
  have e2:qc A3 [.int .i64 (dd:Nat),.int .i64 1]=_:=aa9 dd 1 (by omega) (by omega)
  have e3:b9 (.int .i64) .sub (.int .i64 ((j+1:Nat):Int)) (.int .i64 1)=some (.int .i64 (j:Nat)):=ahI _ (j+1) 1 (by omega) (by omega)
  have e4:agj 12 1 (.gp 0 0) (.int .i64 (j:Nat))=some (.gp 0 (0+j*1)):=by
   simp only [agj]
   rw [if_pos ⟨by omega,by omega⟩]; rfl
  rw [show 0+j*1=j by omega] at e4
  have e5:=fun H=>aw8 j H q8
  have e6:qc A3 [.int .i64 ((1970+k:Nat):Int),.int .i64 4]=_:=aa9 (1970+k) 4 (by omega) (by omega)
  have e7:qc A3 [.int .i64 (hh:Nat),.int .i64 2]=_:=aa9 hh 2 (by omega) (by omega)
  have e8:qc A3 [.int .i64 (mm:Nat),.int .i64 2]=_:=aa9 mm 2 (by omega) (by omega)
  have e9:qc A3 [.int .i64 (ss:Nat),.int .i64 2]=_:=aa9 ss 2 (by omega) (by omega)
  have hz:d.z.natAbs<=840:=by omega
  have e10:b9 (.int .i64) .quo (.int .i64 (d.z.natAbs:Nat)) (.int .i64 60)=some (.int .i64 ((d.z.natAbs / 60:Nat):Int)):=ae5 _ d.z.natAbs 60 (by omega) (by omega)
  have e11:b9 (.int .i64) .rem (.int .i64 (d.z.natAbs:Nat)) (.int .i64 60)=some (.int .i64 ((d.z.natAbs % 60:Nat):Int)):=aec _ d.z.natAbs 60 (by omega)
  have e12:qc A3 [.int .i64 ((d.z.natAbs / 60:Nat):Int),.int .i64 2]=_:=aa9 (d.z.natAbs / 60) 2 (by omega) (by omega)
  have e13:qc A3 [.int .i64 ((d.z.natAbs % 60:Nat):Int),.int .i64 2]=_:=aa9 (d.z.natAbs % 60) 2 (by omega) (by omega)
  have w0:(wdT d).length<=3:=aiq _
  have w1:=akb j
  have w2:=D5 dd 1
  have w3:=D5 (1970+k) 4
  have w4:=D5 hh 2
  have w5:=D5 mm 2
  have w6:=D5 ss 2
  have w7:=D5 (d.z.natAbs / 60) 2
  have w8:=D5 (d.z.natAbs % 60) 2
  have hres:afg d=wdT d++[44,32]++B5 dd 1++[32]++aeg.getD j []++[32]++B5 (1970+k) 4++[32]++B5 hh 2++[58]++B5 mm 2++[58]++B5 ss 2++ajY d.z++B5 (d.z.natAbs / 60) 2++B5 (d.z.natAbs % 60) 2:=by
   unfold afg
   rw [q1,q2,q3,q4,q5,q6]
   rw [show (((j+1:Nat):Int)-1).toNat=j by omega]
   simp only [Int.toNat_natCast]
  rw [hres]
  simp only [y9,q1,q2,q3,q4,q5,q6] at e0 e1
  have add:∀ (a b:Bs),a.length<=100000->b.length<=10000->b9 .str .add (.str a) (.str b)=some (.str (a++b)):=fun a b h1 h2=>aal .str a b (by omega)
  have hzn:d.z<0->E7 .neg (.int .i64 d.z)=some (.int .i64 (d.z.natAbs:Nat)):=fun hz=>by
   rw [avA _ (by omega) (by omega)]
   congr 2; omega
  have hzp:¬ d.z<0->d.z=(d.z.natAbs:Nat):=fun hz=>by omega
  generalize wdT d=p0 at *
  generalize aeg.getD j []=p1 at *
  generalize B5 dd 1=p2 at *
  generalize B5 (1970+k) 4=p3 at *
  generalize B5 hh 2=p4 at *
  generalize B5 mm 2=p5 at *
  generalize B5 ss 2=p6 at *
  generalize B5 (d.z.natAbs / 60) 2=p7 at *
  generalize B5 (d.z.natAbs % 60) 2=p8 at *
  have a1:=add p0 [44,32] (by omega) (by simp)
  have a2:=add (p0++[44,32]) p2 (by simp; omega) (by omega)
  have a3:=add (p0++[44,32]++p2) [32] (by simp; omega) (by simp)
  have a4:=add (p0++[44,32]++p2++[32]) p1 (by simp; omega) (by omega)
  have a5:=add (p0++[44,32]++p2++[32]++p1) [32] (by simp; omega) (by simp)
  have a6:=add (p0++[44,32]++p2++[32]++p1++[32]) p3 (by simp; omega) (by omega)
  have a7:=add (p0++[44,32]++p2++[32]++p1++[32]++p3) [32] (by simp; omega) (by simp)
  have a8:=add (p0++[44,32]++p2++[32]++p1++[32]++p3++[32]) p4 (by simp; omega) (by omega)
  have a9:=add (p0++[44,32]++p2++[32]++p1++[32]++p3++[32]++p4) [58] (by simp; omega) (by simp)
  have a10:=add (p0++[44,32]++p2++[32]++p1++[32]++p3++[32]++p4++[58]) p5 (by simp; omega) (by omega)
  have a11:=add (p0++[44,32]++p2++[32]++p1++[32]++p3++[32]++p4++[58]++p5) [58] (by simp; omega) (by simp)
  have a12:=add (p0++[44,32]++p2++[32]++p1++[32]++p3++[32]++p4++[58]++p5++[58]) p6 (by simp; omega) (by omega)
  have a13:=fun (s:Bs) (hs:s.length=2)=>add (p0++[44,32]++p2++[32]++p1++[32]++p3++[32]++p4++[58]++p5++[58]++p6) s (by simp; omega) (by omega)
  have a14:=fun (s:Bs) (hs:s.length=2)=>add (p0++[44,32]++p2++[32]++p1++[32]++p3++[32]++p4++[58]++p5++[58]++p6++s) p7 (by simp; omega) (by omega)
  have a15:=fun (s:Bs) (hs:s.length=2)=>add (p0++[44,32]++p2++[32]++p1++[32]++p3++[32]++p4++[58]++p5++[58]++p6++s++p7) p8 (by simp; omega) (by omega)
  unfold ajY
  by_cases hz:d.z<0
  ·have b1:=a13 [32,45] rfl
   have b2:=a14 [32,45] rfl
   have b3:=a15 [32,45] rfl
   simp only [y9,g9,q1,q2,q3,q4,q5,q6,e0,e1,e2,e3,e4,e5,e6,e7,e8,e9,e10,e11,e12,e13,hz,hzn hz,a1,a2,a3,a4,a5,a6,a7,a8,a9,a10,a11,a12,b1,b2,b3]
  ·have b1:=a13 [32,43] rfl
   have b2:=a14 [32,43] rfl
   have b3:=a15 [32,43] rfl
   have hzz:=hzp hz
   generalize d.z.natAbs=zn at *
   rw [hzz] at e0 e1
   simp only [y9,g9,q1,q2,q3,q4,q5,q6,hzz,e0,e1,e2,e3,e4,e5,e6,e7,e8,e9,e10,e11,e12,e13,show ¬ ((zn:Nat):Int)<0 from by omega,a1,a2,a3,a4,a5,a6,a7,a8,a9,a10,a11,a12,b1,b2,b3]
 ·simp only [y9] at e0
  simp only [y9,g9,e0,hv]
theorem agr (n:Nat) (hn:n<100):qc P8 [.int .i64 (n:Nat)]=some (.str (B5 n 2)):=by
 have e1:b9 (.int .i64) .quo (.int .i64 (n:Nat)) (.int .i64 10)=some (.int .i64 ((n / 10:Nat):Int)):=ae5 _ n 10 (by omega) (by omega)
 have e2:b9 (.int .i64) .rem (.int .i64 (n:Nat)) (.int .i64 10)=some (.int .i64 ((n % 10:Nat):Int)):=aec _ n 10 (by omega)
 have e3:=ag8 (n / 10) (by omega)
 have e4:=ag8 (n % 10) (by omega)
 have w1:=D5 (n / 10) 1
 have w2:=D5 (n % 10) 1
 have e5:=aal .str (B5 (n / 10) 1) (B5 (n % 10) 1) (by omega)
 rw [awr n hn] at e5
 refine o7 (H:=[]) ?_ (by simp only [g9]) rfl
 show cv _ _ _=_
 rw [anE]
 simp only [g9,e1,e2,e3,e4,e5]
theorem ar6:pc acw []=some (.sl true (vT aeg)):=by
 refine ahi (H:=[]) ?_ (by simp only [g9]) (by simp only [g9])
 show cv _ _ _=_
 rw [akN]
 rfl
theorem ajk (d:Dt):qc aa7 [.agg (cD d)]=some (.str (ah2 d)):=by
 have e0:=aci d
 refine o7 (H:=[]) ?_ (by simp only [y9,g9]) rfl
 show cv _ _ _=_
 rw [aiG]
 unfold ah2
 by_cases hv:L7 d=true
 ·rw [if_pos hv]
  rw [hv] at e0
  have e1:=akr d hv
  obtain ⟨k,j,dd,hh,mm,ss,q1,q2,q3,q4,q5,q6,q7,q8,q9,q10,q11,q12,q13,q14⟩:=aeY hv
  have bd:=aaJ d.y d.mo
  have e2:=ag8 dd (by omega)
  have e3:b9 (.int .i64) .sub (.int .i64 ((j+1:Nat):Int)) (.int .i64 1)=some (.int .i64 (j:Nat)):=ahI _ (j+1) 1 (by omega) (by omega)
  have e4:=aqI true aeg j (by simp [aeg]; omega)
  have e5:=ar6
  have e6:=ag8 (1970+k) (by omega)
  rw [<-aut k q7] at e6
  have e7:=agr hh (by omega)
  have e8:=agr mm (by omega)
  have e9:=agr ss (by omega)
  have hz:d.z.natAbs<=840:=by omega
  have e10:b9 (.int .i64) .quo (.int .i64 (d.z.natAbs:Nat)) (.int .i64 60)=some (.int .i64 ((d.z.natAbs / 60:Nat):Int)):=ae5 _ d.z.natAbs 60 (by omega) (by omega)
  have e11:b9 (.int .i64) .rem (.int .i64 (d.z.natAbs:Nat)) (.int .i64 60)=some (.int .i64 ((d.z.natAbs % 60:Nat):Int)):=aec _ d.z.natAbs 60 (by omega)
  have e12:=agr (d.z.natAbs / 60) (by omega)
  have e13:=agr (d.z.natAbs % 60) (by omega)
  have w0:(wdT d).length<=3:=aiq _
  have w1:=akb j
  have w2:=D5 dd 1
  have w3:=D5 (1970+k) 4
  have w4:=D5 hh 2
  have w5:=D5 mm 2
  have w6:=D5 ss 2
  have w7:=D5 (d.z.natAbs / 60) 2
  have w8:=D5 (d.z.natAbs % 60) 2
  have hres:afg d=wdT d++[44,32]++B5 dd 1++[32]++aeg.getD j []++[32]++B5 (1970+k) 4++[32]++B5 hh 2++[58]++B5 mm 2++[58]++B5 ss 2++ajY d.z++B5 (d.z.natAbs / 60) 2++B5 (d.z.natAbs % 60) 2:=by
   unfold afg
   rw [q1,q2,q3,q4,q5,q6]
   rw [show (((j+1:Nat):Int)-1).toNat=j by omega]
   simp only [Int.toNat_natCast]
  rw [hres]
  simp only [y9,q1,q2,q3,q4,q5,q6] at e0 e1
  have add:∀ (a b:Bs),a.length<=100000->b.length<=10000->b9 .str .add (.str a) (.str b)=some (.str (a++b)):=fun a b h1 h2=>aal .str a b (by omega)
  have hzn:d.z<0->E7 .neg (.int .i64 d.z)=some (.int .i64 (d.z.natAbs:Nat)):=fun hz=>by
   rw [avA _ (by omega) (by omega)]
   congr 2; omega
  have hzp:¬ d.z<0->d.z=(d.z.natAbs:Nat):=fun hz=>by omega
  generalize wdT d=p0 at *
  generalize aeg.getD j []=p1 at *
  generalize B5 dd 1=p2 at *
  generalize B5 (1970+k) 4=p3 at *
  generalize B5 hh 2=p4 at *
  generalize B5 mm 2=p5 at *
  generalize B5 ss 2=p6 at *
  generalize B5 (d.z.natAbs / 60) 2=p7 at *
  generalize B5 (d.z.natAbs % 60) 2=p8 at *
  have a1:=add p0 [44,32] (by omega) (by simp)
  have a2:=add (p0++[44,32]) p2 (by simp; omega) (by omega)
  have a3:=add (p0++[44,32]++p2) [32] (by simp; omega) (by simp)
  have a4:=add (p0++[44,32]++p2++[32]) p1 (by simp; omega) (by omega)
  have a5:=add (p0++[44,32]++p2++[32]++p1) [32] (by simp; omega) (by simp)
  have a6:=add (p0++[44,32]++p2++[32]++p1++[32]) p3 (by simp; omega) (by omega)
  have a7:=add (p0++[44,32]++p2++[32]++p1++[32]++p3) [32] (by simp; omega) (by simp)
  have a8:=add (p0++[44,32]++p2++[32]++p1++[32]++p3++[32]) p4 (by simp; omega) (by omega)
  have a9:=add (p0++[44,32]++p2++[32]++p1++[32]++p3++[32]++p4) [58] (by simp; omega) (by simp)
  have a10:=add (p0++[44,32]++p2++[32]++p1++[32]++p3++[32]++p4++[58]) p5 (by simp; omega) (by omega)
  have a11:=add (p0++[44,32]++p2++[32]++p1++[32]++p3++[32]++p4++[58]++p5) [58] (by simp; omega) (by simp)
  have a12:=add (p0++[44,32]++p2++[32]++p1++[32]++p3++[32]++p4++[58]++p5++[58]) p6 (by simp; omega) (by omega)
  have a16:=add (p0++[44,32]++p2++[32]++p1++[32]++p3++[32]++p4++[58]++p5++[58]++p6) [32] (by simp; omega) (by simp)
  have a13:=fun (c:UInt8)=>add (p0++[44,32]++p2++[32]++p1++[32]++p3++[32]++p4++[58]++p5++[58]++p6++[32]) [c] (by simp; omega) (by simp)
  have a14:=fun (s:Bs) (hs:s.length=2)=>add (p0++[44,32]++p2++[32]++p1++[32]++p3++[32]++p4++[58]++p5++[58]++p6++s) p7 (by simp; omega) (by omega)
  have a15:=fun (s:Bs) (hs:s.length=2)=>add (p0++[44,32]++p2++[32]++p1++[32]++p3++[32]++p4++[58]++p5++[58]++p6++s++p7) p8 (by simp; omega) (by omega)
  have cc:∀ (q:Bs) (c:UInt8),q++[32]++[c]=q++[32,c]:=fun q c=>by simp
  unfold ajY
  by_cases hz:d.z<0
  ·have b1:=a13 45
   rw [cc] at b1
   have b2:=a14 [32,45] rfl
   have b3:=a15 [32,45] rfl
   simp only [y9,g9,q1,q2,q3,q4,q5,q6,e0,e1,e2,e3,e4,e5,e6,e7,e8,e9,e10,e11,e12,e13,hz,hzn hz,a1,a2,a3,a4,a5,a6,a7,a8,a9,a10,a11,a12,a16,b1,b2,b3]
  ·have b1:=a13 43
   rw [cc] at b1
   have b2:=a14 [32,43] rfl
   have b3:=a15 [32,43] rfl
   have hzz:=hzp hz
   generalize d.z.natAbs=zn at *
   rw [hzz] at e0 e1
   simp only [y9,g9,q1,q2,q3,q4,q5,q6,hzz,e0,e1,e2,e3,e4,e5,e6,e7,e8,e9,e10,e11,e12,e13,show ¬ ((zn:Nat):Int)<0 from by omega,a1,a2,a3,a4,a5,a6,a7,a8,a9,a10,a11,a12,a16,b1,b2,b3]
 ·simp only [y9] at e0
  simp only [y9,g9,e0,hv]
end Go.Proofs.YtpbgpeojlfdpoaaGreatDoor.Q
