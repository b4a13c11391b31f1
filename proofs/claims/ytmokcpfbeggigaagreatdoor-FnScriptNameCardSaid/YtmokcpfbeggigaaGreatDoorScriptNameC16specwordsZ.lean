/- Contracts: bytes, words, texts cut at a byte, in the reference. -/
import Derived.Test.YtmokcpfbeggigaaGreatDoorScriptNameC12wordsZ
namespace Go.Proofs.YtmokcpfbeggigaaGreatDoor.Q
open Go Go.AM
set_option linter.unusedSimpArgs false
set_option linter.unusedVariables false
set_option linter.unusedSectionVars false
def agb (c:Int):Bool:=decide (97<=c/\c<=122\/65<=c/\c<=90\/48<=c/\c<=57)
theorem aoH (c:Int):qc aaD [.int .u8 c]=some (.bool (agb c)):=by
 refine y5 (H:=[]) ?_ rfl rfl
 show cv _ _ _=_
 rw [ah2]
 simp only [j0,decide_eq_true_eq,agb]
 repeat' (first | (exact congrArg (fun b=>some (V.bool b,([]:VH))) (decide_eq_true (by omega)).symm) | (exact congrArg (fun b=>some (V.bool b,([]:VH))) (decide_eq_false (by omega)).symm) | (exact congrArg (fun b=>some (V.bool b,([]:VH))) (decide_eq_decide.2 (by omega))) | (refine arK (fun h=>?_) (fun h=>?_)))
theorem air (s:Bs) (hs:s.length<=1000000000):qc aab [.str s]=some (.bool (aat s)):=by
 refine y5 (H:=[]) ?_ (by simp only [j0]) rfl
 show cv _ _ _=_
 rw [ag1]
 have loop:=aqe (B:=R4) (S:=fun i=>[.str s,.int .i64 (i:Nat)]) (H:=[]) (m0:=0) (m1:=1) (vs0:=[.str s]) (vs1:=[.bool false]) (s.take 201) (fun b=>wrB b.toNat)
  (fun i hi=>by
   have hi':i<s.length/\i<201:=by simp at hi; omega
   have i1:=R5 s .i64 i hi'.1
   have e2:a8 (.int .i64) .add (.int .i64 (i:Int)) (.int .i64 1)=some (.int .i64 ((i+1:Nat):Int)):=C0 _ i 1 (by omega)
   rw [aa5]
   simp only [j0,i1,e2,wrB,List.getElem_take,show ((i:Int)<(s.length:Int)) from by omega,show ((i:Int)<=200) from by omega]
   by_cases e:(s[i].toNat:Int)<32
   ·simp only [j0,e,true_or]
   ·by_cases e3:(s[i].toNat:Int)>126
    ·simp only [j0,e,e3,show (126:Int)<(s[i].toNat:Int) from e3,or_true]
    ·simp only [j0,e,e2,e3,show ¬ (126:Int)<(s[i].toNat:Int) from e3,or_false])
  (by
   rw [aa5]
   by_cases h:s.length<=200
   ·have:(s.take 201).length=s.length:=by simp; omega
    simp only [j0,this,show ¬ ((s.length:Int)<(s.length:Int)) from by omega]
   ·have:(s.take 201).length=201:=by simp; omega
    by_cases h2:(((201:Nat):Int)<(s.length:Int))
    ·simp only [j0,this,h2,show ¬ (((201:Nat):Int)<=200) from by decide]
    ·simp only [j0,this,h2])
 have loop':p5 R4 [.str s,.int .i64 0] []=_:=loop
 simp only [j0,loop']
 by_cases h:s.length<=200
 ·have ht:s.take 201=s:=List.take_of_length_le (by omega)
  rw [ht]
  unfold aat
  by_cases hb:(s.any fun b=>wrB b.toNat)=true
  ·simp only [j0,hb,Bool.false_and]
  ·simp only [j0,hb,h,show ((s.length:Int)<=200) from by omega,Bool.and_true]
   try simp [hb]
 ·have:aat s=false:=by unfold aat; rw [decide_eq_false (by omega),Bool.and_false]
  rw [this]
  by_cases hb:((s.take 201).any fun b=>wrB b.toNat)=true
  ·simp only [j0,hb]
  ·simp only [j0,hb,show ¬ ((s.length:Int)<=200) from by omega]
end Go.Proofs.YtmokcpfbeggigaaGreatDoor.Q
