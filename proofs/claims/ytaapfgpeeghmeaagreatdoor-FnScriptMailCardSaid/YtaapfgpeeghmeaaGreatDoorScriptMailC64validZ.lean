/- Contracts: rows of valid mails. -/
import Derived.Test.YtaapfgpeeghmeaaGreatDoorScriptMailC62speakZ
namespace Go.Proofs.YtaapfgpeeghmeaaGreatDoor.Q
open Go Go.AM
set_option linter.unusedSimpArgs false
set_option linter.unusedVariables false
set_option linter.unusedSectionVars false
theorem at0 (g:Nat) (p:l9->Bool) (l:List l9) (hg:∀ s ∈ l,qc g [.agg (cM s)]=some (.bool (p s))) (hl:l.length<=1000000000):qc K0 [.sl false (vR eM l),.fn g []]=some (.int .i64 (if l.any p=true then ((l.findIdx p:Nat):Int) else -1)):=by
 refine y4 (H:=[]) ?_ (by simp only [c9]) rfl
 show cv _ _ _=_
 rw [abQ]
 have loop:=anU (B:=F5) (S:=fun i=>[.sl false (vR eM l),.fn g [],.int .i64 l.length,.int .i64 (i:Nat)]) (H:=[]) (m0:=0) (m1:=1) (vs0:=[]) l p
  (fun i hi=>by
   have i1:=axR false l .i64 i hi
   have e1:=hg l[i] (List.getElem_mem hi)
   simp only [K4] at e1
   have e2:b7 (.int .i64) .add (.int .i64 (i:Int)) (.int .i64 1)=some (.int .i64 ((i+1:Nat):Int)):=A0 _ i 1 (by omega)
   rw [P0]
   simp only [c9,i1,e1,e2,show ((i:Int)<(l.length:Int)) from by omega])
  (by
   rw [P0]
   simp only [c9,show ¬ ((l.length:Int)<(l.length:Int)) from by omega])
 have loop':l6 F5 [.sl false (vR eM l),.fn g [],.int .i64 l.length,.int .i64 0] []=_:=loop
 simp only [c9,loop']
 by_cases h:l.any p=true<;>simp only [c9,h]
theorem apu (g:Nat) (p:l9->Bool) (l:List l9) (hg:∀ s ∈ l,qc g [.agg (cM s)]=some (.bool (p s))) (hl:l.length<=1000000000):qc J1 [.sl false (vR eM l),.fn g []]=some (.bool (l.any p)):=by
 have e1:=at0 g p l hg hl
 refine y4 (H:=[]) ?_ (by simp only [c9]) rfl
 show cv _ _ _=_
 rw [abe]
 simp only [c9,e1]
 by_cases h:l.any p=true
 ·simp only [h,if_true]
  rw [decide_eq_true (show (((l.findIdx p:Nat):Int)>=0) from by omega)]
 ·have h':l.any p=false:=by simpa using h
  simp [h']
theorem aqA (m:l9) (h:Z7 m):qc aad [.agg (cM m)]=some (.bool (!D6 m 1 30)):=by
 have e1:=aaz m h
 simp only [K4] at e1
 refine y4 (H:=[]) ?_ (by simp only [c9]) rfl
 show cv _ _ _=_
 rw [aj1]
 simp only [c9,e1]
theorem amh (l:List l9) (n:Int) (h:amc l):qc aa1 [.sl false (vR eM l),.int .i64 n]=some (.bool (decide ((l.length:Int)<=n) && !l.any fun m => !D6 m 1 30)):=by
 have hl:=h.1
 have e2:=apu aad (fun m => !D6 m 1 30) l (fun m hm=>aqA m (h.2 m hm)) (by omega)
 refine y4 (H:=[]) ?_ (by simp only [c9]) rfl
 show cv _ _ _=_
 rw [amd]
 by_cases h:(l.length:Int)<=n
 ·simp only [c9,e2,h,Bool.true_and]
 ·simp only [c9,h,Bool.false_and]
end Go.Proofs.YtaapfgpeeghmeaaGreatDoor.Q
