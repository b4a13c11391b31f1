/- Contracts: bytes, words, texts cut at a byte, in the reference. -/
import Derived.Test.YtaapfgpeeghmeaaGreatDoorScriptTraceC12wordsZ
namespace Go.Proofs.YtaapfgpeeghmeaaGreatDoor.Q
open Go Go.AM
set_option linter.unusedSimpArgs false
set_option linter.unusedVariables false
set_option linter.unusedSectionVars false
def ahz (b:UInt8):UInt8:=if 65<=b.toNat/\b.toNat<=90 then b+32 else b
def abX (s:Bs):Bs:=s.map ahz
theorem axO {b:UInt8} (h1:65<=(b.toNat:Int)) (h2:(b.toNat:Int)<=90):((ahz b).toNat:Int)=(b.toNat:Int)+32:=by
 unfold ahz
 rw [if_pos (by omega),UInt8.toNat_add]
 have:(32:UInt8).toNat=32:=rfl
 omega
theorem atp {b:UInt8} (h:¬ (65<=(b.toNat:Int)/\(b.toNat:Int)<=90)):ahz b=b:=by
 unfold ahz
 rw [if_neg (by omega)]
def adv (s:Bs) (i:Nat):Bs:=(s.take i).map ahz++s.drop i
theorem alV (s:Bs) (i:Nat):(adv s i).length=s.length:=by simp [adv]; omega
theorem ap4 (s:Bs) (i:Nat) (h:i<s.length):(adv s i)[i]'(by rw [alV]; exact h)=s[i]:=by
 simp only [adv]
 rw [List.getElem_append_right (by simp; omega)]
 simp only [List.length_map,List.length_take,List.getElem_drop]
 congr 1; omega
theorem apg (s:Bs) (i:Nat) (h:i<s.length):(adv s i).set i (ahz s[i])=adv s (i+1):=by
 have h0:((s.take i).map ahz).length=i:=by simp; omega
 conv=>lhs; rw [adv,List.drop_eq_getElem_cons h,List.set_append_right _ _ (by omega),h0,Nat.sub_self,List.set_cons_zero]
 rw [adv,List.take_succ_eq_append_getElem h,List.map_append,List.append_assoc]
 rfl
theorem axK (s:Bs):adv s s.length=abX s:=by simp [adv,abX]
end Go.Proofs.YtaapfgpeeghmeaaGreatDoor.Q
