/- Contracts: rows of valid mails. -/
import Derived.Test.YtaapfgpeeghmeaaGreatDoorScriptTraceC62speakZ
namespace Go.Proofs.YtaapfgpeeghmeaaGreatDoor.Q
open Go Go.AM
set_option linter.unusedSimpArgs false
set_option linter.unusedVariables false
set_option linter.unusedSectionVars false
theorem ar2 (g:Nat) (p:z7->Bool) (l:List z7) (hg:∀ s ∈ l,qc g [.agg (cM s)]=some (.bool (p s))) (hl:l.length<=1000000000):qc J7 [.sl false (vR eM l),.fn g []]=some (.int .i64 (if l.any p=true then ((l.findIdx p:Nat):Int) else -1)):=by
 refine B7 (H:=[]) ?_ (by simp only [j3]) rfl
 show cv _ _ _=_
 rw [abf]
 have loop:=alY (B:=F1) (S:=fun i=>[.sl false (vR eM l),.fn g [],.int .i64 l.length,.int .i64 (i:Nat)]) (H:=[]) (m0:=0) (m1:=1) (vs0:=[]) l p
  (fun i hi=>by
   have i1:=avq false l .i64 i hi
   have e1:=hg l[i] (List.getElem_mem hi)
   simp only [P7] at e1
   have e2:b7 (.int .i64) .add (.int .i64 (i:Int)) (.int .i64 1)=some (.int .i64 ((i+1:Nat):Int)):=C6 _ i 1 (by omega)
   rw [O3]
   simp only [j3,i1,e1,e2,show ((i:Int)<(l.length:Int)) from by omega])
  (by
   rw [O3]
   simp only [j3,show ¬ ((l.length:Int)<(l.length:Int)) from by omega])
 have loop':z8 F1 [.sl false (vR eM l),.fn g [],.int .i64 l.length,.int .i64 0] []=_:=loop
 simp only [j3,loop']
 by_cases h:l.any p=true<;>simp only [j3,h]
theorem anw (g:Nat) (p:z7->Bool) (l:List z7) (hg:∀ s ∈ l,qc g [.agg (cM s)]=some (.bool (p s))) (hl:l.length<=1000000000):qc I9 [.sl false (vR eM l),.fn g []]=some (.bool (l.any p)):=by
 have e1:=ar2 g p l hg hl
 refine B7 (H:=[]) ?_ (by simp only [j3]) rfl
 show cv _ _ _=_
 rw [aaC]
 simp only [j3,e1]
 by_cases h:l.any p=true
 ·simp only [h,if_true]
  rw [decide_eq_true (show (((l.findIdx p:Nat):Int)>=0) from by omega)]
 ·have h':l.any p=false:=by simpa using h
  simp [h']
theorem aoI (m:z7) (h:SmM m):qc Z3 [.agg (cM m)]=some (.bool (!L5 m 1 30)):=by
 have e1:=adC m h
 simp only [P7] at e1
 refine B7 (H:=[]) ?_ (by simp only [j3]) rfl
 show cv _ _ _=_
 rw [aiU]
 simp only [j3,e1]
theorem aqj (l:List z7) (n:Int) (h:ajD l):qc ack [.sl false (vR eM l),.int .i64 n]=some (.bool (decide ((l.length:Int)<=n) && !l.any fun m => !L5 m 1 30)):=by
 have hl:=h.1
 have e2:=anw Z3 (fun m => !L5 m 1 30) l (fun m hm=>aoI m (h.2 m hm)) (by omega)
 refine B7 (H:=[]) ?_ (by simp only [j3]) rfl
 show cv _ _ _=_
 rw [ake]
 by_cases h:(l.length:Int)<=n
 ·simp only [j3,e2,h,Bool.true_and]
 ·simp only [j3,h,Bool.false_and]
end Go.Proofs.YtaapfgpeeghmeaaGreatDoor.Q
