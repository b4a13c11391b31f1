/- Contracts: valid mailboxes, and how many mails they hold. -/
import Derived.Test.YtaapfgpeeghmeaaGreatDoorScriptTraceC66sessionsZ
namespace Go.Proofs.YtaapfgpeeghmeaaGreatDoor.Q
open Go Go.AM
set_option linter.unusedSimpArgs false
set_option linter.unusedVariables false
set_option linter.unusedSectionVars false
def ltT (a b:Bs):Bool:=Op.bytesLess a b
theorem aCL (tk:TK) (s t:Bs):b7 tk .geq (.str s) (.str t)=some (.bool (!ltT s t)):=by
 simp only [b7,Z8,S3,aep,ofA,Option.bind_some,ByteArray.toList_eq]
 rfl
def C7 (l:List A3) (i:Nat):A3:=l.getD i ⟨[],[]⟩
theorem N3 {l:List A3} {i:Nat} (h:i<l.length):C7 l i=l[i]:=by
 unfold C7
 rw [List.getD_eq_getElem?_getD,List.getElem?_eq_getElem h]; rfl
def ai1 (l:List A3) (i:Nat):Bool := !aa9 (C7 l i).path||(decide (4<(C7 l i).y7.length)||((decide (0<i) && !ltT (C7 l (i-1)).path (C7 l i).path)||(C7 l i).y7.any fun m => !L5 m 1 30))
def V7 (l:List A3):Bool:=decide (l.length<=8) && !(List.range l.length).any (ai1 l)
theorem azp {B:List V->VH->Option (Option Nat × List V × VH)} {S:Nat->List V} {H:VH} {m0 m1:Nat} {vs0 vs1:List V} (n:Nat) (p:Nat->Bool) (hr:∀ i,i<n->B (S i) H=if p i=true then some (some m1,vs1,H) else some (none,S (i+1),H))
 (he:B (S n) H=some (some m0,vs0,H)):z8 B (S 0) H=if (List.range n).any p=true then some (m1,vs1,H) else some (m0,vs0,H) :=
 arL (List.range n) p (fun i hi=>by
  have h:i<n:=by simpa using hi
  rw [List.getElem_range]; exact hr i h) (by rw [List.length_range]; exact he)
theorem afK (l:List A3) (h:aeF l):qc aaM [.sl false (vR eX l)]=some (.bool (V7 l)):=by
 have hl:=h.1
 refine B7 (H:=[]) ?_ (by simp only [j3]) rfl
 show cv _ _ _=_
 rw [ako]
 have loop:=azp (B:=aaL) (S:=fun i=>[.sl false (vR eX l),.sl false (vR eX l),.int .i64 (l.length:Nat),.int .i64 (i:Nat)]) (H:=[]) (m0:=0) (m1:=1) (vs0:=[.sl false (vR eX l)]) (vs1:=[.bool false]) l.length (ai1 l)
  (fun i hi=>by
   have i1:=ahU false l .i64 i hi
   have hs:=h.2 _ (List.getElem_mem hi)
   have hp:=hs.1
   have e1:=ams l[i].path (by omega)
   have e2:=aqj l[i].y7 4 hs.2
   have e3:b7 (.int .i64) .add (.int .i64 (i:Int)) (.int .i64 1)=some (.int .i64 ((i+1:Nat):Int)):=C6 _ i 1 (by omega)
   rw [ad0]
   unfold ai1
   rw [N3 hi]
   by_cases h1:aa9 l[i].path=true
   ·by_cases h2:4<l[i].y7.length
    ·have k2:(decide ((l[i].y7.length:Int)<=4) && !l[i].y7.any fun m => !L5 m 1 30)=false:=by rw [decide_eq_false (by omega),Bool.false_and]
     rw [k2] at e2
     simp only [j3,i1,e1,e2,h1,h2,show ((i:Int)<(l.length:Int)) from by omega,Bool.true_or,Bool.or_true]
    ·have k2:decide ((l[i].y7.length:Int)<=4)=true:=decide_eq_true (by omega)
     rw [k2,Bool.true_and] at e2
     by_cases h3:(l[i].y7.any fun m => !L5 m 1 30)=true
     ·rw [h3] at e2
      simp only [j3,i1,e1,e2,h1,h2,h3,show ((i:Int)<(l.length:Int)) from by omega,Bool.true_or,Bool.or_true]
     ·have h3':(l[i].y7.any fun m => !L5 m 1 30)=false:=by simpa using h3
      rw [h3'] at e2
      by_cases h4:0<i
      ·have i2:=ahU false l .i64 (i-1) (by omega)
       have e4:b7 (.int .i64) .sub (.int .i64 (i:Int)) (.int .i64 1)=some (.int .i64 ((i-1:Nat):Int)):=ahR _ i 1 (by omega) (by omega)
       have e5:=aCL .str (l[i-1]'(by omega)).path l[i].path
       rw [N3 (l:=l) (i:=i-1) (by omega)]
       by_cases h5:ltT (l[i-1]'(by omega)).path l[i].path=true
       ·simp only [j3,i1,i2,e1,e2,e3,e4,e5,h1,h2,h3',h4,h5,show ((i:Int)>0) from by omega,show ((i:Int)<(l.length:Int)) from by omega,Bool.or_false,Bool.and_false,Bool.or_self]
       ·have h5':ltT (l[i-1]'(by omega)).path l[i].path=false:=by simpa using h5
        simp only [j3,i1,i2,e1,e2,e3,e4,e5,h1,h2,h3',h4,h5',show ((i:Int)>0) from by omega,show ((i:Int)<(l.length:Int)) from by omega,Bool.or_false,Bool.and_self,Bool.or_true]
      ·simp only [j3,i1,e1,e2,e3,h1,h2,h3',h4,show ¬ ((i:Int)>0) from by omega,show ((i:Int)<(l.length:Int)) from by omega,Bool.or_false,Bool.false_and,Bool.or_self]
   ·have h1':aa9 l[i].path=false:=by simpa using h1
    simp only [j3,i1,e1,h1',show ((i:Int)<(l.length:Int)) from by omega,Bool.true_or])
  (by
   rw [ad0]
   simp only [j3,show ¬ ((l.length:Int)<(l.length:Int)) from by omega])
 have loop':z8 aaL [.sl false (vR eX l),.sl false (vR eX l),.int .i64 (l.length:Nat),.int .i64 0] []=_:=loop
 unfold V7
 simp only [j3,loop']
 by_cases h1:(List.range l.length).any (ai1 l)=true
 ·simp only [j3,h1,Bool.and_false]
 ·have h1':(List.range l.length).any (ai1 l)=false:=by simpa using h1
  simp only [j3,h1',Bool.and_true]
  by_cases h2:l.length<=8
  ·rw [decide_eq_true h2,decide_eq_true (show (l.length:Int)<=8 from by omega)]
  ·rw [decide_eq_false h2,decide_eq_false (show ¬ (l.length:Int)<=8 from by omega)]
end Go.Proofs.YtaapfgpeeghmeaaGreatDoor.Q
