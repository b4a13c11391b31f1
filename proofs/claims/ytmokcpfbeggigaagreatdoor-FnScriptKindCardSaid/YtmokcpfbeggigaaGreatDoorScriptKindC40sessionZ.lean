/- Contracts: sessions and mailboxes of exact statements. -/
import Derived.Test.YtmokcpfbeggigaaGreatDoorScriptKindC32drawsZ
namespace Go.Proofs.YtmokcpfbeggigaaGreatDoor.Q
open Go Go.AM
set_option linter.unusedSimpArgs false
set_option linter.unusedVariables false
set_option linter.unusedSectionVars false
def amD (l:List abe):Prop:=l.length<=1049600/\∀ m ∈ l,SmM m
def SmS (s:acy):Prop:=s.host.length<=1049600/\SmM s.X0/\amD s.done
def SmX (b:Box):Prop:=b.path.length<=1049600/\amD b.abK
def awI (l:List Box):Prop:=l.length<=1049600/\∀ m ∈ l,SmX m
def axL (s:acy) (n:Int):Int:=if n-s.host.length<0 then -1 else if szM s.X0 (n-s.host.length)<0 then -1 else if ahZ s.done (szM s.X0 (n-s.host.length))<0 then -1 else ahZ s.done (szM s.X0 (n-s.host.length))
def szX (b:Box) (n:Int):Int:=if n-b.path.length<0 then -1 else if ahZ b.abK (n-b.path.length)<0 then -1 else ahZ b.abK (n-b.path.length)
def axS (l:List Box) (n:Int):Int:=if n-l.length<0 then -1 else ahn szX l (n-l.length)
theorem awq {l:List abe} {n:Int} (h:0<=n):ahZ l n<=n:=by
 unfold ahZ
 split
 ·omega
 ·have:=aqV (f:=szM) (l:=l) (fun a _ k hk=>aou hk) (n:=n-l.length) (by omega)
  omega
theorem axd {s:Box} {n:Int} (h:0<=n):szX s n<=n:=by
 unfold szX
 split
 ·omega
 ·have h1:=awq (l:=s.abK) (n:=n-s.path.length) (by omega)
  split<;>omega
theorem amD.of {l:List abe} {n:Int} (h:0<=n) (hn:n<=1049600) (h2:0<=ahZ l n):amD l:=by
 unfold ahZ at h2
 split at h2
 ·omega
 ·refine ⟨by omega,fun s hs=>?_⟩
  obtain ⟨k,h3,h4,h5⟩:=aki (f:=szM) (l:=l) (fun a _ k hk=>aou hk) (n:=n-l.length) (by omega) h2 s hs
  exact SmM.of h3 (by omega) h5
theorem SmS.of {s:acy} {n:Int} (h:0<=n) (hn:n<=1049600) (h2:0<=axL s n):SmS s:=by
 unfold axL at h2
 split at h2
 ·omega
 ·split at h2
  ·omega
  ·have h5:=aou (m:=s.X0) (n:=n-s.host.length) (by omega)
   split at h2
   ·omega
   ·exact ⟨by omega,SmM.of (n:=n-s.host.length) (by omega) (by omega) (by omega),amD.of (n:=szM s.X0 (n-s.host.length)) (by omega) (by omega) h2⟩
theorem SmX.of {s:Box} {n:Int} (h:0<=n) (hn:n<=1049600) (h2:0<=szX s n):SmX s:=by
 unfold szX at h2
 split at h2
 ·omega
 ·split at h2
  ·omega
  ·exact ⟨by omega,amD.of (n:=n-s.path.length) (by omega) (by omega) (by omega)⟩
theorem awI.of {l:List Box} {n:Int} (h:0<=n) (hn:n<=1049600) (h2:0<=axS l n):awI l:=by
 unfold axS at h2
 split at h2
 ·omega
 ·refine ⟨by omega,fun s hs=>?_⟩
  obtain ⟨k,h3,h4,h5⟩:=aki (f:=szX) (l:=l) (fun a _ k hk=>axd hk) (n:=n-l.length) (by omega) h2 s hs
  exact SmX.of h3 (by omega) h5
end Go.Proofs.YtmokcpfbeggigaaGreatDoor.Q
