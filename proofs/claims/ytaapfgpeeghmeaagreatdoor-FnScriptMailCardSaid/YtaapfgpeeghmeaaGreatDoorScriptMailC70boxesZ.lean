/- Contracts: valid mailboxes, and how many mails they hold. -/
import Derived.Test.YtaapfgpeeghmeaaGreatDoorScriptMailC68sizeZ
namespace Go.Proofs.YtaapfgpeeghmeaaGreatDoor.Q
open Go Go.AM
set_option linter.unusedSimpArgs false
set_option linter.unusedVariables false
set_option linter.unusedSectionVars false
def W2 (a b:Bs):Bool:=Op.bytesLess a b
theorem aE4 (tk:TK) (s t:Bs):b7 tk .geq (.str s) (.str t)=some (.bool (!W2 s t)):=by
 simp only [b7,toA,V6,afs,ofA,Option.bind_some,ByteArray.toList_eq]
 rfl
def C8 (l:List y0) (i:Nat):y0:=l.getD i ⟨[],[]⟩
theorem K6 {l:List y0} {i:Nat} (h:i<l.length):C8 l i=l[i]:=by
 unfold C8
 rw [List.getD_eq_getElem?_getD,List.getElem?_eq_getElem h]; rfl
def ajY (l:List y0) (i:Nat):Bool := !G0 (C8 l i).path||(decide (4<(C8 l i).o8.length)||((decide (0<i) && !W2 (C8 l (i-1)).path (C8 l i).path)||(C8 l i).o8.any fun m => !D6 m 1 30))
def Q3 (l:List y0):Bool:=decide (l.length<=8) && !(List.range l.length).any (ajY l)
theorem aCi {B:List V->VH->Option (Option Nat × List V × VH)} {S:Nat->List V} {H:VH} {m0 m1:Nat} {vs0 vs1:List V} (n:Nat) (p:Nat->Bool) (hr:∀ i,i<n->B (S i) H=if p i=true then some (some m1,vs1,H) else some (none,S (i+1),H))
 (he:B (S n) H=some (some m0,vs0,H)):l6 B (S 0) H=if (List.range n).any p=true then some (m1,vs1,H) else some (m0,vs0,H) :=
 adl (List.range n) p (fun i hi=>by
  have h:i<n:=by simpa using hi
  rw [List.getElem_range]; exact hr i h) (by rw [List.length_range]; exact he)
theorem adX (l:List y0) (h:adg l):qc X5 [.sl false (vR eX l)]=some (.bool (Q3 l)):=by
 have hl:=h.1
 refine y4 (H:=[]) ?_ (by simp only [c9]) rfl
 show cv _ _ _=_
 rw [als]
 have loop:=aCi (B:=aa3) (S:=fun i=>[.sl false (vR eX l),.sl false (vR eX l),.int .i64 (l.length:Nat),.int .i64 (i:Nat)]) (H:=[]) (m0:=0) (m1:=1) (vs0:=[.sl false (vR eX l)]) (vs1:=[.bool false]) l.length (ajY l)
  (fun i hi=>by
   have i1:=ajj false l .i64 i hi
   have hs:=h.2 _ (List.getElem_mem hi)
   have hp:=hs.1
   have e1:=ajK l[i].path (by omega)
   have e2:=amh l[i].o8 4 hs.2
   have e3:b7 (.int .i64) .add (.int .i64 (i:Int)) (.int .i64 1)=some (.int .i64 ((i+1:Nat):Int)):=A0 _ i 1 (by omega)
   rw [aeN]
   unfold ajY
   rw [K6 hi]
   by_cases h1:G0 l[i].path=true
   ·by_cases h2:4<l[i].o8.length
    ·have k2:(decide ((l[i].o8.length:Int)<=4) && !l[i].o8.any fun m => !D6 m 1 30)=false:=by rw [decide_eq_false (by omega),Bool.false_and]
     rw [k2] at e2
     simp only [c9,i1,e1,e2,h1,h2,show ((i:Int)<(l.length:Int)) from by omega,Bool.true_or,Bool.or_true]
    ·have k2:decide ((l[i].o8.length:Int)<=4)=true:=decide_eq_true (by omega)
     rw [k2,Bool.true_and] at e2
     by_cases h3:(l[i].o8.any fun m => !D6 m 1 30)=true
     ·rw [h3] at e2
      simp only [c9,i1,e1,e2,h1,h2,h3,show ((i:Int)<(l.length:Int)) from by omega,Bool.true_or,Bool.or_true]
     ·have h3':(l[i].o8.any fun m => !D6 m 1 30)=false:=by simpa using h3
      rw [h3'] at e2
      by_cases h4:0<i
      ·have i2:=ajj false l .i64 (i-1) (by omega)
       have e4:b7 (.int .i64) .sub (.int .i64 (i:Int)) (.int .i64 1)=some (.int .i64 ((i-1:Nat):Int)):=ac7 _ i 1 (by omega) (by omega)
       have e5:=aE4 .str (l[i-1]'(by omega)).path l[i].path
       rw [K6 (l:=l) (i:=i-1) (by omega)]
       by_cases h5:W2 (l[i-1]'(by omega)).path l[i].path=true
       ·simp only [c9,i1,i2,e1,e2,e3,e4,e5,h1,h2,h3',h4,h5,show ((i:Int)>0) from by omega,show ((i:Int)<(l.length:Int)) from by omega,Bool.or_false,Bool.and_false,Bool.or_self]
       ·have h5':W2 (l[i-1]'(by omega)).path l[i].path=false:=by simpa using h5
        simp only [c9,i1,i2,e1,e2,e3,e4,e5,h1,h2,h3',h4,h5',show ((i:Int)>0) from by omega,show ((i:Int)<(l.length:Int)) from by omega,Bool.or_false,Bool.and_self,Bool.or_true]
      ·simp only [c9,i1,e1,e2,e3,h1,h2,h3',h4,show ¬ ((i:Int)>0) from by omega,show ((i:Int)<(l.length:Int)) from by omega,Bool.or_false,Bool.false_and,Bool.or_self]
   ·have h1':G0 l[i].path=false:=by simpa using h1
    simp only [c9,i1,e1,h1',show ((i:Int)<(l.length:Int)) from by omega,Bool.true_or])
  (by
   rw [aeN]
   simp only [c9,show ¬ ((l.length:Int)<(l.length:Int)) from by omega])
 have loop':l6 aa3 [.sl false (vR eX l),.sl false (vR eX l),.int .i64 (l.length:Nat),.int .i64 0] []=_:=loop
 unfold Q3
 simp only [c9,loop']
 by_cases h1:(List.range l.length).any (ajY l)=true
 ·simp only [c9,h1,Bool.and_false]
 ·have h1':(List.range l.length).any (ajY l)=false:=by simpa using h1
  simp only [c9,h1',Bool.and_true]
  by_cases h2:l.length<=8
  ·rw [decide_eq_true h2,decide_eq_true (show (l.length:Int)<=8 from by omega)]
  ·rw [decide_eq_false h2,decide_eq_false (show ¬ (l.length:Int)<=8 from by omega)]
end Go.Proofs.YtaapfgpeeghmeaaGreatDoor.Q
