/- The laws of traces. -/
import Derived.Test.YtaapfgpeeghmeaaGreatDoorScriptTraceCc5traceZ
namespace Go.Proofs.YtaapfgpeeghmeaaGreatDoor.Q
open Go Go.AM
set_option linter.unusedSimpArgs false
set_option linter.unusedVariables false
set_option linter.unusedSectionVars false
def plB (s:Bs):Bool:=s.all fun b => !wrB b.toNat
theorem aoF (s t:Bs):plB (s++t)=(plB s&&plB t):=by simp [plB,List.all_append]
theorem aA4:∀ n:Nat,n<10->plB [dgB n]=true:=by decide
theorem ata:∀ (f n k:Nat) (out:Bs),plB out=true->plB (aaz f n k out)=true
 | 0,n,k,out,h=>h
 | f+1,n,k,out,h=>by
   simp only [aaz]
   split
   ·refine ata f _ _ _ ?_
    have:=aA4 (n % 10) (by omega)
    have e:dgB (n % 10)::out=[dgB (n % 10)]++out:=rfl
    rw [e,aoF,this,h]; rfl
   ·exact h
theorem azu (n k:Nat):plB (l5 n k)=true:=ata _ _ _ _ rfl
theorem agx:∀ n:Nat,n<100->(l5 n 2).length<=2:=by decide +kernel
theorem axs:∀ n:Nat,n<100->(l5 n 1).length<=2:=by decide +kernel
theorem axV:∀ k:Nat,k<130->(l5 (1970+k) 4).length<=4:=by decide +kernel
theorem ayg:∀ r:Nat,r<7->plB (aaI.getD r [])=true:=by decide
theorem azo:∀ r:Nat,r<12->plB (U3.getD r [])=true:=by decide
theorem azZ {d:Dt} (h:L0 d=true):plB (G3 d)=true/\(G3 d).length<=40:=by
 obtain ⟨k,j,dd,hh,mm,ss,q1,q2,q3,q4,q5,q6,q7,q8,q9,q10,q11,q12,q13,q14⟩:=ach h
 have bd:=S9 d.y d.mo
 have w0:(wdT d).length<=3:=agV _
 have w1:=aiu j
 have w2:=axs dd (by omega)
 have w3:=axV k q7
 have w4:=agx hh (by omega)
 have w5:=agx mm (by omega)
 have w6:=agx ss (by omega)
 have w7:=agx (d.z.natAbs / 60) (by omega)
 have w8:=agx (d.z.natAbs % 60) (by omega)
 have w9:(aey d.z).length=2:=by unfold aey; split<;>rfl
 have hres:G3 d=wdT d++[44,32]++l5 dd 1++[32]++U3.getD j []++[32]++l5 (1970+k) 4++[32]++l5 hh 2++[58]++l5 mm 2++[58]++l5 ss 2++aey d.z++l5 (d.z.natAbs / 60) 2++l5 (d.z.natAbs % 60) 2:=by
  unfold G3
  rw [q1,q2,q3,q4,q5,q6]
  rw [show (((j+1:Nat):Int)-1).toNat=j by omega]
  simp only [Int.toNat_natCast]
 rw [hres]
 have o0:plB (wdT d)=true:=ayg _ (Nat.mod_lt _ (by omega))
 have o1:plB (aey d.z)=true:=by unfold aey; split<;>rfl
 refine ⟨?_,?_⟩
 ·simp only [aoF,o0,o1,azo j q8,azu,Bool.true_and]; rfl
 ·simp only [List.length_append,List.length_cons,List.length_nil]; omega
theorem atU {h:Bs} {d:Dt} (hv:L0 d=true) (ho:plB h=true) (hl:h.length<=60):S5 (T7 h d)=true:=by
 obtain ⟨f1,f2⟩:=azZ hv
 have e:plB (T7 h d)=true:=by
  unfold T7
  simp only [aoF,ho,f1,Bool.and_true]; rfl
 unfold S5
 have hlen:(T7 h d).length<=200:=by
  unfold T7 acK
  simp only [List.length_append,List.length_cons,List.length_nil]; omega
 rw [decide_eq_true hlen,Bool.and_true]
 unfold plB at e
 rw [Bool.not_eq_true',List.any_eq_false]
 rw [List.all_eq_true] at e
 intro b hb
 have:=e b hb
 simpa using this
theorem axE (m:z7) (o:List V) (h:o9 o=cM m):o9 o=[.str m.from_,.sl false (vT m.to),.sl false (vT m.lines)]:=by rw [h,P7]
theorem aA6 (a b c:V):C9 3 (.agg [a,b,c])=some [a,b,c]:=by exact id rfl
end Go.Proofs.YtaapfgpeeghmeaaGreatDoor.Q
