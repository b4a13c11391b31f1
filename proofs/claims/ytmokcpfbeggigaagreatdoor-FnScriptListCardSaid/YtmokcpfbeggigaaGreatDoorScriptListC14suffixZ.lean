/- Contracts: a byte at the end of a text. -/
import Derived.Test.YtmokcpfbeggigaaGreatDoorScriptListC12wordsZ
namespace Go.Proofs.YtmokcpfbeggigaaGreatDoor.Q
open Go Go.AM
set_option linter.unusedSimpArgs false
set_option linter.unusedVariables false
set_option linter.unusedSectionVars false
theorem aoH (s:Bs) (c:UInt8) (hs:s.length<=1000000000):qc J4 [.str s,.str [c]]=some (.bool (decide (s.getLast? = some c))):=by
 refine y1 (H:=[]) ?_ (by simp only [b8]) rfl
 show cv _ _ _=_
 rw [abx]
 by_cases h:1<=s.length
 ·have e1:a8 (.int .i64) .sub (.int .i64 (s.length:Int)) (.int .i64 1)=some (.int .i64 ((s.length-1:Nat):Int)):=adC _ s.length 1 h (by omega)
  have p2:=ade s .i64 (s.length-1) (by omega)
  have hd:s.drop (s.length-1)=[s[s.length-1]'(by omega)]:=by
   rw [List.drop_eq_getElem_cons (by omega),show s.length-1+1=s.length from by omega,List.drop_length]
  have hz:s.getLast? = some (s[s.length-1]'(by omega)):=by rw [List.getLast?_eq_getElem?,List.getElem?_eq_getElem (by omega)]
  rw [hd] at p2
  have k:([s[s.length-1]'(by omega)]=[c])<->(some (s[s.length-1]'(by omega))=some c):=by simp
  simp only [b8,List.length_cons,List.length_nil,show (((0+1:Nat)):Int)=1 from rfl,e1,p2,hz,k,show ((s.length:Int)>=1) from by omega]
 ·have:s=[]:=List.length_eq_zero_iff.1 (by omega)
  subst this
  simp only [b8,List.length_cons,List.length_nil,show ¬ (((0:Nat):Int)>=((0+1:Nat):Int)) from by omega]
  rfl
theorem an1 (s:Bs) (c:UInt8) (hs:s.length<=1000000000):qc J7 [.str s,.str [c]]=some (.w5 [.str (if s.getLast? = some c then s.take (s.length-1) else s),.bool (decide (s.getLast? = some c))]):=by
 have e0:=aoH s c hs
 refine y1 (H:=[]) ?_ (by simp only [b8]) (by simp only [b8])
 show cv _ _ _=_
 rw [abz]
 by_cases h:s.getLast? = some c
 ·have hl:1<=s.length:=by cases s with | nil=>cases h | cons a s=>simp
  have e1:a8 (.int .i64) .sub (.int .i64 (s.length:Int)) (.int .i64 1)=some (.int .i64 ((s.length-1:Nat):Int)):=adC _ s.length 1 hl (by omega)
  have p2:=agp s .i64 (s.length-1) (by omega)
  simp only [b8,e0,h,List.length_cons,List.length_nil,show (((0+1:Nat)):Int)=1 from rfl,e1,p2]
 ·simp only [b8,e0,h]
theorem apz (s:Bs) (c:UInt8) (hs:s.length<=1000000000):qc Z4 [.str s,.str [c]]=some (.w5 [.str (if s.getLast? = some c then s.take (s.length-1) else s),.bool (decide (s.getLast? = some c))]):=by
 have e0:=an1 s c hs
 refine y1 (H:=[]) ?_ (by simp only [b8]) (by simp only [b8])
 show cv _ _ _=_
 rw [agW]
 simp only [b8,e0]
end Go.Proofs.YtmokcpfbeggigaaGreatDoor.Q
