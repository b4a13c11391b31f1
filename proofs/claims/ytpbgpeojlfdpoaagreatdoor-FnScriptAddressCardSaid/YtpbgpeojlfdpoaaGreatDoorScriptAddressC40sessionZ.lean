/- Contracts: sessions and mailboxes of exact statements. -/
import Derived.Test.YtpbgpeojlfdpoaaGreatDoorScriptAddressC32drawsZ
namespace Go.Proofs.YtpbgpeojlfdpoaaGreatDoor.Q
open Go Go.AM
set_option linter.unusedSimpArgs false
set_option linter.unusedVariables false
set_option linter.unusedSectionVars false
def alr (l:List aa4):Prop:=l.length<=1049600/\∀ m ∈ l,SmM m
def SmS (s:acz):Prop:=s.host.length<=1049600/\SmM s.Y4/\alr s.done
def SmX (b:Box):Prop:=b.path.length<=1049600/\alr b.acG
def axB (l:List Box):Prop:=l.length<=1049600/\∀ m ∈ l,SmX m
def axE (s:acz) (n:Int):Int:=if n-s.host.length<0 then -1 else if szM s.Y4 (n-s.host.length)<0 then -1 else if ag0 s.done (szM s.Y4 (n-s.host.length))<0 then -1 else ag0 s.done (szM s.Y4 (n-s.host.length))
def szX (b:Box) (n:Int):Int:=if n-b.path.length<0 then -1 else if ag0 b.acG (n-b.path.length)<0 then -1 else ag0 b.acG (n-b.path.length)
def awr (l:List Box) (n:Int):Int:=if n-l.length<0 then -1 else ah5 szX l (n-l.length)
theorem avQ {l:List aa4} {n:Int} (h:0<=n):ag0 l n<=n:=by
 unfold ag0
 split
 ·omega
 ·have:=ap0 (f:=szM) (l:=l) (fun a _ k hk=>anz hk) (n:=n-l.length) (by omega)
  omega
theorem aw2 {s:Box} {n:Int} (h:0<=n):szX s n<=n:=by
 unfold szX
 split
 ·omega
 ·have h1:=avQ (l:=s.acG) (n:=n-s.path.length) (by omega)
  split<;>omega
theorem alr.of {l:List aa4} {n:Int} (h:0<=n) (hn:n<=1049600) (h2:0<=ag0 l n):alr l:=by
 unfold ag0 at h2
 split at h2
 ·omega
 ·refine ⟨by omega,fun s hs=>?_⟩
  obtain ⟨k,h3,h4,h5⟩:=ajB (f:=szM) (l:=l) (fun a _ k hk=>anz hk) (n:=n-l.length) (by omega) h2 s hs
  exact SmM.of h3 (by omega) h5
theorem SmS.of {s:acz} {n:Int} (h:0<=n) (hn:n<=1049600) (h2:0<=axE s n):SmS s:=by
 unfold axE at h2
 split at h2
 ·omega
 ·split at h2
  ·omega
  ·have h5:=anz (m:=s.Y4) (n:=n-s.host.length) (by omega)
   split at h2
   ·omega
   ·exact ⟨by omega,SmM.of (n:=n-s.host.length) (by omega) (by omega) (by omega),alr.of (n:=szM s.Y4 (n-s.host.length)) (by omega) (by omega) h2⟩
theorem SmX.of {s:Box} {n:Int} (h:0<=n) (hn:n<=1049600) (h2:0<=szX s n):SmX s:=by
 unfold szX at h2
 split at h2
 ·omega
 ·split at h2
  ·omega
  ·exact ⟨by omega,alr.of (n:=n-s.path.length) (by omega) (by omega) (by omega)⟩
theorem axB.of {l:List Box} {n:Int} (h:0<=n) (hn:n<=1049600) (h2:0<=awr l n):axB l:=by
 unfold awr at h2
 split at h2
 ·omega
 ·refine ⟨by omega,fun s hs=>?_⟩
  obtain ⟨k,h3,h4,h5⟩:=ajB (f:=szX) (l:=l) (fun a _ k hk=>aw2 hk) (n:=n-l.length) (by omega) h2 s hs
  exact SmX.of h3 (by omega) h5
end Go.Proofs.YtpbgpeojlfdpoaaGreatDoor.Q
