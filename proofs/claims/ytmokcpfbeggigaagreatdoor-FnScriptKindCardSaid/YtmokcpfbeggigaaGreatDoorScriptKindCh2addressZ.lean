/- Contracts: addresses are read and written. -/
import Derived.Test.YtmokcpfbeggigaaGreatDoorScriptKindCh1wordsZ
namespace Go.Proofs.YtmokcpfbeggigaaGreatDoor.Q
open Go Go.AM
set_option linter.unusedSimpArgs false
set_option linter.unusedVariables false
set_option linter.unusedSectionVars false
def aaA (l:List Bs):Nat:=(l.map fun t=>t.length+1).sum
theorem an2 (a b:List Bs):aaA (a++b)=aaA a+aaA b:=by simp [aaA]
theorem afW {s:Bs} {i:Nat} {ap:Bool} {acc ws:List Bs} (h:B3 s i ap acc=some ws):aaA ws<=aaA acc+2*(s.length-i):=by
 rw [B3] at h
 split at h
 ·rename_i hi
  split at h
  ·have:=afW h; omega
  ·split at h
   ·cases h
   ·split at h
    ·split at h
     ·cases h
     ·rename_i r hr
      have h1:=afb (t:=r.1) (k:=r.2) hr
      rw [List.length_drop] at h1
      have:=afW h
      rw [an2] at this
      have e:aaA [r.1]=r.1.length+1:=by simp [aaA]
      omega
    ·split at h
     ·cases h
     ·rename_i hk
      have hge:=abI (s:=s) (i:=i)
      have:=afW h
      rw [an2] at this
      have e:aaA [(s.drop i).take (A4 s i-i)]=A4 s i-i+1:=by
       have:=hge.2 (by omega)
       simp [aaA]; omega
      have:=hge.2 (by omega)
      omega
 ·cases h; omega
termination_by s.length-i
decreasing_by
 ·omega
 ·omega
 ·have:=abI (s:=s) (i:=i); omega
end Go.Proofs.YtmokcpfbeggigaaGreatDoor.Q
