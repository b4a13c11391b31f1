/- Contracts: sessions and mailboxes of exact statements. -/
import Derived.Test.YtmokcpfbeggigaaGreatDoorScriptListC32drawsZ
namespace Go.Proofs.YtmokcpfbeggigaaGreatDoor.Q
open Go Go.AM
set_option linter.unusedSimpArgs false
set_option linter.unusedVariables false
set_option linter.unusedSectionVars false
def amz (l:List abn):Prop:=l.length<=1049600/\∀ m ∈ l,SmM m
def SmS (s:acR):Prop:=s.host.length<=1049600/\SmM s.Z8/\amz s.done
def SmX (b:Box):Prop:=b.path.length<=1049600/\amz b.ab4
def axl (l:List Box):Prop:=l.length<=1049600/\∀ m ∈ l,SmX m
def aym (s:acR) (n:Int):Int:=if n-s.host.length<0 then -1 else if szM s.Z8 (n-s.host.length)<0 then -1 else if ahn s.done (szM s.Z8 (n-s.host.length))<0 then -1 else ahn s.done (szM s.Z8 (n-s.host.length))
def szX (b:Box) (n:Int):Int:=if n-b.path.length<0 then -1 else if ahn b.ab4 (n-b.path.length)<0 then -1 else ahn b.ab4 (n-b.path.length)
def axQ (l:List Box) (n:Int):Int:=if n-l.length<0 then -1 else aim szX l (n-l.length)
theorem awG {l:List abn} {n:Int} (h:0<=n):ahn l n<=n:=by
 unfold ahn
 split
 ·omega
 ·have:=aqb (f:=szM) (l:=l) (fun a _ k hk=>apm hk) (n:=n-l.length) (by omega)
  omega
theorem axH {s:Box} {n:Int} (h:0<=n):szX s n<=n:=by
 unfold szX
 split
 ·omega
 ·have h1:=awG (l:=s.ab4) (n:=n-s.path.length) (by omega)
  split<;>omega
theorem amz.of {l:List abn} {n:Int} (h:0<=n) (hn:n<=1049600) (h2:0<=ahn l n):amz l:=by
 unfold ahn at h2
 split at h2
 ·omega
 ·refine ⟨by omega,fun s hs=>?_⟩
  obtain ⟨k,h3,h4,h5⟩:=akq (f:=szM) (l:=l) (fun a _ k hk=>apm hk) (n:=n-l.length) (by omega) h2 s hs
  exact SmM.of h3 (by omega) h5
theorem SmS.of {s:acR} {n:Int} (h:0<=n) (hn:n<=1049600) (h2:0<=aym s n):SmS s:=by
 unfold aym at h2
 split at h2
 ·omega
 ·split at h2
  ·omega
  ·have h5:=apm (m:=s.Z8) (n:=n-s.host.length) (by omega)
   split at h2
   ·omega
   ·exact ⟨by omega,SmM.of (n:=n-s.host.length) (by omega) (by omega) (by omega),amz.of (n:=szM s.Z8 (n-s.host.length)) (by omega) (by omega) h2⟩
theorem SmX.of {s:Box} {n:Int} (h:0<=n) (hn:n<=1049600) (h2:0<=szX s n):SmX s:=by
 unfold szX at h2
 split at h2
 ·omega
 ·split at h2
  ·omega
  ·exact ⟨by omega,amz.of (n:=n-s.path.length) (by omega) (by omega) (by omega)⟩
theorem axl.of {l:List Box} {n:Int} (h:0<=n) (hn:n<=1049600) (h2:0<=axQ l n):axl l:=by
 unfold axQ at h2
 split at h2
 ·omega
 ·refine ⟨by omega,fun s hs=>?_⟩
  obtain ⟨k,h3,h4,h5⟩:=akq (f:=szX) (l:=l) (fun a _ k hk=>axH hk) (n:=n-l.length) (by omega) h2 s hs
  exact SmX.of h3 (by omega) h5
end Go.Proofs.YtmokcpfbeggigaaGreatDoor.Q
