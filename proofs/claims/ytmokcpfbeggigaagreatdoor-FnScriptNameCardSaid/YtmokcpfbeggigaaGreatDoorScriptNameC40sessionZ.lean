/- Contracts: sessions and mailboxes of exact statements. -/
import Derived.Test.YtmokcpfbeggigaaGreatDoorScriptNameC32drawsZ
namespace Go.Proofs.YtmokcpfbeggigaaGreatDoor.Q
open Go Go.AM
set_option linter.unusedSimpArgs false
set_option linter.unusedVariables false
set_option linter.unusedSectionVars false
def aj0 (l:List aac):Prop:=l.length<=1049600/\∀ m ∈ l,SmM m
def SmS (s:abo):Prop:=s.host.length<=1049600/\SmM s.T7/\aj0 s.done
def SmX (b:Box):Prop:=b.path.length<=1049600/\aj0 b.abc
def avh (l:List Box):Prop:=l.length<=1049600/\∀ m ∈ l,SmX m
def auD (s:abo) (n:Int):Int:=if n-s.host.length<0 then -1 else if szM s.T7 (n-s.host.length)<0 then -1 else if afL s.done (szM s.T7 (n-s.host.length))<0 then -1 else afL s.done (szM s.T7 (n-s.host.length))
def szX (b:Box) (n:Int):Int:=if n-b.path.length<0 then -1 else if afL b.abc (n-b.path.length)<0 then -1 else afL b.abc (n-b.path.length)
def aup (l:List Box) (n:Int):Int:=if n-l.length<0 then -1 else af4 szX l (n-l.length)
theorem atn {l:List aac} {n:Int} (h:0<=n):afL l n<=n:=by
 unfold afL
 split
 ·omega
 ·have:=anZ (f:=szM) (l:=l) (fun a _ k hk=>alS hk) (n:=n-l.length) (by omega)
  omega
theorem atM {s:Box} {n:Int} (h:0<=n):szX s n<=n:=by
 unfold szX
 split
 ·omega
 ·have h1:=atn (l:=s.abc) (n:=n-s.path.length) (by omega)
  split<;>omega
theorem aj0.of {l:List aac} {n:Int} (h:0<=n) (hn:n<=1049600) (h2:0<=afL l n):aj0 l:=by
 unfold afL at h2
 split at h2
 ·omega
 ·refine ⟨by omega,fun s hs=>?_⟩
  obtain ⟨k,h3,h4,h5⟩:=aid (f:=szM) (l:=l) (fun a _ k hk=>alS hk) (n:=n-l.length) (by omega) h2 s hs
  exact SmM.of h3 (by omega) h5
theorem SmS.of {s:abo} {n:Int} (h:0<=n) (hn:n<=1049600) (h2:0<=auD s n):SmS s:=by
 unfold auD at h2
 split at h2
 ·omega
 ·split at h2
  ·omega
  ·have h5:=alS (m:=s.T7) (n:=n-s.host.length) (by omega)
   split at h2
   ·omega
   ·exact ⟨by omega,SmM.of (n:=n-s.host.length) (by omega) (by omega) (by omega),aj0.of (n:=szM s.T7 (n-s.host.length)) (by omega) (by omega) h2⟩
theorem SmX.of {s:Box} {n:Int} (h:0<=n) (hn:n<=1049600) (h2:0<=szX s n):SmX s:=by
 unfold szX at h2
 split at h2
 ·omega
 ·split at h2
  ·omega
  ·exact ⟨by omega,aj0.of (n:=n-s.path.length) (by omega) (by omega) (by omega)⟩
theorem avh.of {l:List Box} {n:Int} (h:0<=n) (hn:n<=1049600) (h2:0<=aup l n):avh l:=by
 unfold aup at h2
 split at h2
 ·omega
 ·refine ⟨by omega,fun s hs=>?_⟩
  obtain ⟨k,h3,h4,h5⟩:=aid (f:=szX) (l:=l) (fun a _ k hk=>atM hk) (n:=n-l.length) (by omega) h2 s hs
  exact SmX.of h3 (by omega) h5
end Go.Proofs.YtmokcpfbeggigaaGreatDoor.Q
