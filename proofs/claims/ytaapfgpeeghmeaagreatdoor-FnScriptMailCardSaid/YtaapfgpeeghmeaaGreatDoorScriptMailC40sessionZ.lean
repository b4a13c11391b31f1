/- Contracts: sessions and mailboxes of exact statements. -/
import Derived.Test.YtaapfgpeeghmeaaGreatDoorScriptMailC32drawsZ
namespace Go.Proofs.YtaapfgpeeghmeaaGreatDoor.Q
open Go Go.AM
set_option linter.unusedSimpArgs false
set_option linter.unusedVariables false
set_option linter.unusedSectionVars false
def amc (l:List l9):Prop:=l.length<=1049600/\∀ m ∈ l,Z7 m
def SmS (s:y6):Prop:=s.host.length<=1049600/\Z7 s.j0/\amc s.done
def SmX (b:y0):Prop:=b.path.length<=1049600/\amc b.o8
def adg (l:List y0):Prop:=l.length<=1049600/\∀ m ∈ l,SmX m
def aDH (s:y6) (n:Int):Int:=if n-s.host.length<0 then -1 else if szM s.j0 (n-s.host.length)<0 then -1 else if alj s.done (szM s.j0 (n-s.host.length))<0 then -1 else alj s.done (szM s.j0 (n-s.host.length))
def szX (b:y0) (n:Int):Int:=if n-b.path.length<0 then -1 else if alj b.o8 (n-b.path.length)<0 then -1 else alj b.o8 (n-b.path.length)
def aCR (l:List y0) (n:Int):Int:=if n-l.length<0 then -1 else alw szX l (n-l.length)
theorem aCE {l:List l9} {n:Int} (h:0<=n):alj l n<=n:=by
 unfold alj
 split
 ·omega
 ·have:=avI (f:=szM) (l:=l) (fun a _ k hk=>aup hk) (n:=n-l.length) (by omega)
  omega
theorem aEQ {s:y0} {n:Int} (h:0<=n):szX s n<=n:=by
 unfold szX
 split
 ·omega
 ·have h1:=aCE (l:=s.o8) (n:=n-s.path.length) (by omega)
  split<;>omega
theorem amc.of {l:List l9} {n:Int} (h:0<=n) (hn:n<=1049600) (h2:0<=alj l n):amc l:=by
 unfold alj at h2
 split at h2
 ·omega
 ·refine ⟨by omega,fun s hs=>?_⟩
  obtain ⟨k,h3,h4,h5⟩:=aou (f:=szM) (l:=l) (fun a _ k hk=>aup hk) (n:=n-l.length) (by omega) h2 s hs
  exact Z7.of h3 (by omega) h5
theorem SmS.of {s:y6} {n:Int} (h:0<=n) (hn:n<=1049600) (h2:0<=aDH s n):SmS s:=by
 unfold aDH at h2
 split at h2
 ·omega
 ·split at h2
  ·omega
  ·have h5:=aup (m:=s.j0) (n:=n-s.host.length) (by omega)
   split at h2
   ·omega
   ·exact ⟨by omega,Z7.of (n:=n-s.host.length) (by omega) (by omega) (by omega),amc.of (n:=szM s.j0 (n-s.host.length)) (by omega) (by omega) h2⟩
theorem SmX.of {s:y0} {n:Int} (h:0<=n) (hn:n<=1049600) (h2:0<=szX s n):SmX s:=by
 unfold szX at h2
 split at h2
 ·omega
 ·split at h2
  ·omega
  ·exact ⟨by omega,amc.of (n:=n-s.path.length) (by omega) (by omega) (by omega)⟩
theorem adg.of {l:List y0} {n:Int} (h:0<=n) (hn:n<=1049600) (h2:0<=aCR l n):adg l:=by
 unfold aCR at h2
 split at h2
 ·omega
 ·refine ⟨by omega,fun s hs=>?_⟩
  obtain ⟨k,h3,h4,h5⟩:=aou (f:=szX) (l:=l) (fun a _ k hk=>aEQ hk) (n:=n-l.length) (by omega) h2 s hs
  exact SmX.of h3 (by omega) h5
end Go.Proofs.YtaapfgpeeghmeaaGreatDoor.Q
