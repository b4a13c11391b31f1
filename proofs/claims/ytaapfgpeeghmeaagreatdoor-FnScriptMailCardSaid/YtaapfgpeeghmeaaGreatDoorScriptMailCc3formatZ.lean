/- Contracts: dates as texts. -/
import Derived.Test.YtaapfgpeeghmeaaGreatDoorScriptMailCc2validZ
namespace Go.Proofs.YtaapfgpeeghmeaaGreatDoor.Q
open Go Go.AM
set_option linter.unusedSimpArgs false
set_option linter.unusedVariables false
set_option linter.unusedSectionVars false
def amr:List Bs:=[[84,104,117],[70,114,105],[83,97,116],[83,117,110],[77,111,110],[84,117,101],[87,101,100]]
def akk:List Bs:=[[74,97,110],[70,101,98],[77,97,114],[65,112,114],[77,97,121],[74,117,110],[74,117,108],[65,117,103],[83,101,112],[79,99,116],[78,111,118],[68,101,99]]
def wdT (d:Dt):Bs:=amr.getD ((dbI d.y d.mo d.d).toNat % 7) []
def aiS (z:Int):Bs:=if z<0 then [32,45] else [32,43]
def agI (d:Dt):Bs:=wdT d++[44,32]++H7 d.d.toNat 1++[32]++akk.getD (d.mo-1).toNat []++[32]++H7 d.y.toNat 4++[32]++H7 d.h.toNat 2++[58]++H7 d.mi.toNat 2++[58]++H7 d.s.toNat 2++aiS d.z++H7 (d.z.natAbs / 60) 2++H7 (d.z.natAbs % 60) 2
def axj (d:Dt):Bs:=if aaD d=true then agI d else []
theorem O7 (n k:Nat):(H7 n k).length<=n+k:=by have:=aul (n+k) n k []; simpa [H7] using this
theorem amg:∀ r:Nat,(amr.getD r []).length<=3:=fun r=>by
 by_cases h:r<7
 ·have:∀ r:Nat,r<7->(amr.getD r []).length<=3:=by decide
  exact this r h
 ·simp [amr,List.getD_eq_getElem?_getD,List.getElem?_eq_none (show ([[84,104,117],[70,114,105],[83,97,116],[83,117,110],[77,111,110],[84,117,101],[87,101,100]]:List Bs).length<=r by simp; omega)]
theorem aoi:∀ r:Nat,(akk.getD r []).length<=3:=fun r=>by
 by_cases h:r<12
 ·have:∀ r:Nat,r<12->(akk.getD r []).length<=3:=by decide
  exact this r h
 ·simp [akk,List.getD_eq_getElem?_getD,List.getElem?_eq_none (show ([[74,97,110],[70,101,98],[77,97,114],[65,112,114],[77,97,121],[74,117,110],[74,117,108],[65,117,103],[83,101,112],[79,99,116],[78,111,118],[68,101,99]]:List Bs).length<=r by simp; omega)]
theorem akg {d:Dt} (h:aaD d=true):∃ (k j dd hh mm ss:Nat),d.y=((1970+k:Nat):Int)/\d.mo=((j+1:Nat):Int)/\d.d=(dd:Nat)/\d.h=(hh:Nat)/\d.mi=(mm:Nat)/\d.s=(ss:Nat)/\k<130/\j<12/\1<=dd/\(dd:Int)<=aaU d.y d.mo/\hh<=23/\mm<=59/\ss<=59 ∧ -720<=d.z/\d.z<=840:=by
 unfold aaD aqZ at h
 simp only [Bool.and_eq_true,decide_eq_true_eq] at h
 obtain ⟨⟨hd1,hd2,h1,h2,h3,h4,h5,h6,h7,h8⟩,_⟩:=h
 obtain ⟨hy,hm⟩:=atn (y:=d.y) (m:=d.mo) (by omega)
 exact ⟨(d.y-1970).toNat,(d.mo-1).toNat,d.d.toNat,d.h.toNat,d.mi.toNat,d.s.toNat,by omega,by omega,by omega,by omega,by omega,by omega,by omega,by omega,by omega,by omega,by omega,by omega,by omega,h7,h8⟩
theorem aFi:∀ (r:Nat),r<7->ahu 7 1 (.agg [(.str [84,104,117]),(.str [70,114,105]),(.str [83,97,116]),(.str [83,117,110]),(.str [77,111,110]),(.str [84,117,101]),(.str [87,101,100])]) (.int .i64 (r:Int))=some (.str (amr.getD r [])):=fun r h=>by
 obtain rfl | rfl | rfl | rfl | rfl | rfl | rfl:r=0\/r=1\/r=2\/r=3\/r=4\/r=5\/r=6:=by omega
 all_goals rfl
theorem aoL (d:Dt) (h:aaD d=true):qc adU [.agg (cD d)]=some (.str (wdT d)):=by
 have e0:=ab9 d
 rw [h] at e0
 obtain ⟨k,j,dd,hh,mm,ss,q1,q2,q3,q4,q5,q6,q7,q8,q9,q10,q11,q12,q13,q14⟩:=akg h
 have bd:=adC d.y d.mo
 have e1:=alV d.y d.mo d.d (by omega) (by omega) (by omega)
 have b0:=azu (y:=d.y) (m:=d.mo) (d:=d.d) (by omega) (by omega) (by omega)
 obtain ⟨b,hb⟩:∃ b:Nat,dbI d.y d.mo d.d=b:=⟨_,(Int.toNat_of_nonneg b0.1).symm⟩
 have e2:b7 (.int .i64) .rem (.int .i64 (b:Nat)) (.int .i64 7)=some (.int .i64 ((b % 7:Nat):Int)):=afq _ b 7 (by omega)
 have e3:=aFi (b % 7) (Nat.mod_lt _ (by omega))
 simp only [L3] at e0
 refine y4 (H:=[]) ?_ (by simp only [L3,c9]) rfl
 show cv _ _ _=_
 rw [amY]
 unfold wdT
 rw [hb] at e1 ⊢
 simp only [L3,c9,e0,e1,e2,e3,Int.toNat_natCast]
theorem aDF:∀ (r:Nat) (H:VH),r<12->y5 l5 false false 1 (.gp 0 r) H=some (.str (akk.getD r []),H):=fun r H h=>by
 obtain rfl | rfl | rfl | rfl | rfl | rfl | rfl | rfl | rfl | rfl | rfl | rfl:r=0\/r=1\/r=2\/r=3\/r=4\/r=5\/r=6\/r=7\/r=8\/r=9\/r=10\/r=11:=by omega
 all_goals rfl
theorem amS (d:Dt):qc aa8 [.agg (cD d)]=some (.str (axj d)):=by
 have e0:=ab9 d
 refine y4 (H:=[]) ?_ (by simp only [L3,c9]) rfl
 show cv _ _ _=_
 rw [amj]
 unfold axj
 by_cases hv:aaD d=true
 ·rw [if_pos hv]
  rw [hv] at e0
  have e1:=aoL d hv
  obtain ⟨k,j,dd,hh,mm,ss,q1,q2,q3,q4,q5,q6,q7,q8,q9,q10,q11,q12,q13,q14⟩:=akg hv
  have bd:=adC d.y d.mo
  have e2:qc B5 [.int .i64 (dd:Nat),.int .i64 1]=_:=abX dd 1 (by omega) (by omega)
  have e3:b7 (.int .i64) .sub (.int .i64 ((j+1:Nat):Int)) (.int .i64 1)=some (.int .i64 (j:Nat)):=ac7 _ (j+1) 1 (by omega) (by omega)
  have e4:ajp 12 1 (.gp 0 0) (.int .i64 (j:Nat))=some (.gp 0 (0+j*1)):=by
   simp only [ajp]
   rw [if_pos ⟨by omega,by omega⟩]; rfl
  rw [show 0+j*1=j by omega] at e4
  have e5:=fun H=>aDF j H q8
  have e6:qc B5 [.int .i64 ((1970+k:Nat):Int),.int .i64 4]=_:=abX (1970+k) 4 (by omega) (by omega)
  have e7:qc B5 [.int .i64 (hh:Nat),.int .i64 2]=_:=abX hh 2 (by omega) (by omega)
  have e8:qc B5 [.int .i64 (mm:Nat),.int .i64 2]=_:=abX mm 2 (by omega) (by omega)
  have e9:qc B5 [.int .i64 (ss:Nat),.int .i64 2]=_:=abX ss 2 (by omega) (by omega)
  have hz:d.z.natAbs<=840:=by omega
  have e10:b7 (.int .i64) .quo (.int .i64 (d.z.natAbs:Nat)) (.int .i64 60)=some (.int .i64 ((d.z.natAbs / 60:Nat):Int)):=ahS _ d.z.natAbs 60 (by omega) (by omega)
  have e11:b7 (.int .i64) .rem (.int .i64 (d.z.natAbs:Nat)) (.int .i64 60)=some (.int .i64 ((d.z.natAbs % 60:Nat):Int)):=afq _ d.z.natAbs 60 (by omega)
  have e12:qc B5 [.int .i64 ((d.z.natAbs / 60:Nat):Int),.int .i64 2]=_:=abX (d.z.natAbs / 60) 2 (by omega) (by omega)
  have e13:qc B5 [.int .i64 ((d.z.natAbs % 60:Nat):Int),.int .i64 2]=_:=abX (d.z.natAbs % 60) 2 (by omega) (by omega)
  have w0:(wdT d).length<=3:=amg _
  have w1:=aoi j
  have w2:=O7 dd 1
  have w3:=O7 (1970+k) 4
  have w4:=O7 hh 2
  have w5:=O7 mm 2
  have w6:=O7 ss 2
  have w7:=O7 (d.z.natAbs / 60) 2
  have w8:=O7 (d.z.natAbs % 60) 2
  have hres:agI d=wdT d++[44,32]++H7 dd 1++[32]++akk.getD j []++[32]++H7 (1970+k) 4++[32]++H7 hh 2++[58]++H7 mm 2++[58]++H7 ss 2++aiS d.z++H7 (d.z.natAbs / 60) 2++H7 (d.z.natAbs % 60) 2:=by
   unfold agI
   rw [q1,q2,q3,q4,q5,q6]
   rw [show (((j+1:Nat):Int)-1).toNat=j by omega]
   simp only [Int.toNat_natCast]
  rw [hres]
  simp only [L3,q1,q2,q3,q4,q5,q6] at e0 e1
  have add:∀ (a b:Bs),a.length<=100000->b.length<=10000->b7 .str .add (.str a) (.str b)=some (.str (a++b)):=fun a b h1 h2=>D9 .str a b (by omega)
  have hzn:d.z<0->C4 .neg (.int .i64 d.z)=some (.int .i64 (d.z.natAbs:Nat)):=fun hz=>by
   rw [aFh _ (by omega) (by omega)]
   congr 2; omega
  have hzp:¬ d.z<0->d.z=(d.z.natAbs:Nat):=fun hz=>by omega
  generalize wdT d=p0 at *
  generalize akk.getD j []=p1 at *
  generalize H7 dd 1=p2 at *
  generalize H7 (1970+k) 4=p3 at *
  generalize H7 hh 2=p4 at *
  generalize H7 mm 2=p5 at *
  generalize H7 ss 2=p6 at *
  generalize H7 (d.z.natAbs / 60) 2=p7 at *
  generalize H7 (d.z.natAbs % 60) 2=p8 at *
  have a1:=add p0 [44,32] (by omega) (by simp)
  have a2:=add (p0++[44,32]) p2 (by simp; omega) (by omega)
  have a3:=add (p0++[44,32]++p2) [32] (by simp; omega) (by simp)
  have a4:=add (p0++[44,32]++p2++[32]) p1 (by simp; omega) (by omega)
  have a5:=add (p0++[44,32]++p2++[32]++p1) [32] (by simp; omega) (by simp)
  have a6:=add (p0++[44,32]++p2++[32]++p1++[32]) p3 (by simp; omega) (by omega)
  have a7:=add (p0++[44,32]++p2++[32]++p1++[32]++p3) [32] (by simp; omega) (by simp)
  have a8:=add (p0++[44,32]++p2++[32]++p1++[32]++p3++[32]) p4 (by simp; omega) (by omega)
  have a9:=add (p0++[44,32]++p2++[32]++p1++[32]++p3++[32]++p4) [58] (by simp; omega) (by simp)
  have a10:=add (p0++[44,32]++p2++[32]++p1++[32]++p3++[32]++p4++[58]) p5 (by simp; omega) (by omega)
  have a11:=add (p0++[44,32]++p2++[32]++p1++[32]++p3++[32]++p4++[58]++p5) [58] (by simp; omega) (by simp)
  have a12:=add (p0++[44,32]++p2++[32]++p1++[32]++p3++[32]++p4++[58]++p5++[58]) p6 (by simp; omega) (by omega)
  have a13:=fun (s:Bs) (hs:s.length=2)=>add (p0++[44,32]++p2++[32]++p1++[32]++p3++[32]++p4++[58]++p5++[58]++p6) s (by simp; omega) (by omega)
  have a14:=fun (s:Bs) (hs:s.length=2)=>add (p0++[44,32]++p2++[32]++p1++[32]++p3++[32]++p4++[58]++p5++[58]++p6++s) p7 (by simp; omega) (by omega)
  have a15:=fun (s:Bs) (hs:s.length=2)=>add (p0++[44,32]++p2++[32]++p1++[32]++p3++[32]++p4++[58]++p5++[58]++p6++s++p7) p8 (by simp; omega) (by omega)
  unfold aiS
  by_cases hz:d.z<0
  ·have b1:=a13 [32,45] rfl
   have b2:=a14 [32,45] rfl
   have b3:=a15 [32,45] rfl
   simp only [L3,c9,q1,q2,q3,q4,q5,q6,e0,e1,e2,e3,e4,e5,e6,e7,e8,e9,e10,e11,e12,e13,hz,hzn hz,a1,a2,a3,a4,a5,a6,a7,a8,a9,a10,a11,a12,b1,b2,b3]
  ·have b1:=a13 [32,43] rfl
   have b2:=a14 [32,43] rfl
   have b3:=a15 [32,43] rfl
   have hzz:=hzp hz
   generalize d.z.natAbs=zn at *
   rw [hzz] at e0 e1
   simp only [L3,c9,q1,q2,q3,q4,q5,q6,hzz,e0,e1,e2,e3,e4,e5,e6,e7,e8,e9,e10,e11,e12,e13,show ¬ ((zn:Nat):Int)<0 from by omega,a1,a2,a3,a4,a5,a6,a7,a8,a9,a10,a11,a12,b1,b2,b3]
 ·simp only [L3] at e0
  simp only [L3,c9,e0,hv]
end Go.Proofs.YtaapfgpeeghmeaaGreatDoor.Q
