/- Contracts: sessions and mailboxes of exact statements. -/
import Derived.Test.YtaapfgpeeghmeaaGreatDoorScriptTraceC32drawsZ
namespace Go.Proofs.YtaapfgpeeghmeaaGreatDoor.Q
open Go Go.AM
set_option linter.unusedSimpArgs false
set_option linter.unusedVariables false
set_option linter.unusedSectionVars false
def ajD (l:List z7):Prop:=l.length<=1049600/\∀ m ∈ l,SmM m
def SmS (s:E4):Prop:=s.host.length<=1049600/\SmM s.G9/\ajD s.done
def SmX (b:A3):Prop:=b.path.length<=1049600/\ajD b.y7
def aeF (l:List A3):Prop:=l.length<=1049600/\∀ m ∈ l,SmX m
def aB3 (s:E4) (n:Int):Int:=if n-s.host.length<0 then -1 else if szM s.G9 (n-s.host.length)<0 then -1 else if ajp s.done (szM s.G9 (n-s.host.length))<0 then -1 else ajp s.done (szM s.G9 (n-s.host.length))
def szX (b:A3) (n:Int):Int:=if n-b.path.length<0 then -1 else if ajp b.y7 (n-b.path.length)<0 then -1 else ajp b.y7 (n-b.path.length)
def aAZ (l:List A3) (n:Int):Int:=if n-l.length<0 then -1 else ajK szX l (n-l.length)
theorem az0 {l:List z7} {n:Int} (h:0<=n):ajp l n<=n:=by
 unfold ajp
 split
 ·omega
 ·have:=as3 (f:=szM) (l:=l) (fun a _ k hk=>aqd hk) (n:=n-l.length) (by omega)
  omega
theorem aCc {s:A3} {n:Int} (h:0<=n):szX s n<=n:=by
 unfold szX
 split
 ·omega
 ·have h1:=az0 (l:=s.y7) (n:=n-s.path.length) (by omega)
  split<;>omega
theorem ajD.of {l:List z7} {n:Int} (h:0<=n) (hn:n<=1049600) (h2:0<=ajp l n):ajD l:=by
 unfold ajp at h2
 split at h2
 ·omega
 ·refine ⟨by omega,fun s hs=>?_⟩
  obtain ⟨k,h3,h4,h5⟩:=ami (f:=szM) (l:=l) (fun a _ k hk=>aqd hk) (n:=n-l.length) (by omega) h2 s hs
  exact SmM.of h3 (by omega) h5
theorem SmS.of {s:E4} {n:Int} (h:0<=n) (hn:n<=1049600) (h2:0<=aB3 s n):SmS s:=by
 unfold aB3 at h2
 split at h2
 ·omega
 ·split at h2
  ·omega
  ·have h5:=aqd (m:=s.G9) (n:=n-s.host.length) (by omega)
   split at h2
   ·omega
   ·exact ⟨by omega,SmM.of (n:=n-s.host.length) (by omega) (by omega) (by omega),ajD.of (n:=szM s.G9 (n-s.host.length)) (by omega) (by omega) h2⟩
theorem SmX.of {s:A3} {n:Int} (h:0<=n) (hn:n<=1049600) (h2:0<=szX s n):SmX s:=by
 unfold szX at h2
 split at h2
 ·omega
 ·split at h2
  ·omega
  ·exact ⟨by omega,ajD.of (n:=n-s.path.length) (by omega) (by omega) (by omega)⟩
theorem aeF.of {l:List A3} {n:Int} (h:0<=n) (hn:n<=1049600) (h2:0<=aAZ l n):aeF l:=by
 unfold aAZ at h2
 split at h2
 ·omega
 ·refine ⟨by omega,fun s hs=>?_⟩
  obtain ⟨k,h3,h4,h5⟩:=ami (f:=szX) (l:=l) (fun a _ k hk=>aCc hk) (n:=n-l.length) (by omega) h2 s hs
  exact SmX.of h3 (by omega) h5
end Go.Proofs.YtaapfgpeeghmeaaGreatDoor.Q
