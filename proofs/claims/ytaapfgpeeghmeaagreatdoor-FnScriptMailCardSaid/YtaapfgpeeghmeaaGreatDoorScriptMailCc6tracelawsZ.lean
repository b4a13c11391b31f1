/- The laws of traces. -/
import Derived.Test.YtaapfgpeeghmeaaGreatDoorScriptMailCc5traceZ
namespace Go.Proofs.YtaapfgpeeghmeaaGreatDoor.Q
open Go Go.AM
set_option linter.unusedSimpArgs false
set_option linter.unusedVariables false
set_option linter.unusedSectionVars false
def plB (s:Bs):Bool:=s.all fun b => !wrB b.toNat
theorem aqX (s t:Bs):plB (s++t)=(plB s&&plB t):=by simp [plB,List.all_append]
theorem aC2:∀ n:Nat,n<10->plB [dgB n]=true:=by decide
theorem av0:∀ (f n k:Nat) (out:Bs),plB out=true->plB (adP f n k out)=true
 | 0,n,k,out,h=>h
 | f+1,n,k,out,h=>by
   simp only [adP]
   split
   ·refine av0 f _ _ _ ?_
    have:=aC2 (n % 10) (by omega)
    have e:dgB (n % 10)::out=[dgB (n % 10)]++out:=rfl
    rw [e,aqX,this,h]; rfl
   ·exact h
theorem aCL (n k:Nat):plB (H7 n k)=true:=av0 _ _ _ _ rfl
theorem ahW:∀ n:Nat,n<100->(H7 n 2).length<=2:=by decide +kernel
theorem aAV:∀ n:Nat,n<100->(H7 n 1).length<=2:=by decide +kernel
theorem aAo:∀ k:Nat,k<130->(H7 (1970+k) 4).length<=4:=by decide +kernel
theorem aAd:∀ r:Nat,r<7->plB (amr.getD r [])=true:=by decide
theorem aCr:∀ r:Nat,r<12->plB (akk.getD r [])=true:=by decide
theorem aCd {d:Dt} (h:aaD d=true):plB (agI d)=true/\(agI d).length<=40:=by
 obtain ⟨k,j,dd,hh,mm,ss,q1,q2,q3,q4,q5,q6,q7,q8,q9,q10,q11,q12,q13,q14⟩:=akg h
 have bd:=adC d.y d.mo
 have w0:(wdT d).length<=3:=amg _
 have w1:=aoi j
 have w2:=aAV dd (by omega)
 have w3:=aAo k q7
 have w4:=ahW hh (by omega)
 have w5:=ahW mm (by omega)
 have w6:=ahW ss (by omega)
 have w7:=ahW (d.z.natAbs / 60) (by omega)
 have w8:=ahW (d.z.natAbs % 60) (by omega)
 have w9:(aiS d.z).length=2:=by unfold aiS; split<;>rfl
 have hres:agI d=wdT d++[44,32]++H7 dd 1++[32]++akk.getD j []++[32]++H7 (1970+k) 4++[32]++H7 hh 2++[58]++H7 mm 2++[58]++H7 ss 2++aiS d.z++H7 (d.z.natAbs / 60) 2++H7 (d.z.natAbs % 60) 2:=by
  unfold agI
  rw [q1,q2,q3,q4,q5,q6]
  rw [show (((j+1:Nat):Int)-1).toNat=j by omega]
  simp only [Int.toNat_natCast]
 rw [hres]
 have o0:plB (wdT d)=true:=aAd _ (Nat.mod_lt _ (by omega))
 have o1:plB (aiS d.z)=true:=by unfold aiS; split<;>rfl
 refine ⟨?_,?_⟩
 ·simp only [aqX,o0,o1,aCr j q8,aCL,Bool.true_and]; rfl
 ·simp only [List.length_append,List.length_cons,List.length_nil]; omega
theorem axe {h:Bs} {d:Dt} (hv:aaD d=true) (ho:plB h=true) (hl:h.length<=60):A6 (M7 h d)=true:=by
 obtain ⟨f1,f2⟩:=aCd hv
 have e:plB (M7 h d)=true:=by
  unfold M7
  simp only [aqX,ho,f1,Bool.and_true]; rfl
 unfold A6
 have hlen:(M7 h d).length<=200:=by
  unfold M7 aek
  simp only [List.length_append,List.length_cons,List.length_nil]; omega
 rw [decide_eq_true hlen,Bool.and_true]
 unfold plB at e
 rw [Bool.not_eq_true',List.any_eq_false]
 rw [List.all_eq_true] at e
 intro b hb
 have:=e b hb
 simpa using this
theorem aAG (m:l9) (o:List V) (h:m8 o=cM m):m8 o=[.str m.from_,.sl false (vT m.to),.sl false (vT m.lines)]:=by rw [h,K4]
theorem aDO (a b c:V):C5 3 (.agg [a,b,c])=some [a,b,c]:=by exact id rfl
end Go.Proofs.YtaapfgpeeghmeaaGreatDoor.Q
