/- Contracts: sessions and mailboxes of exact statements. -/
import Derived.Test.YtpbgpeojlfdpoaaGreatDoorExactTraceMailC32drawsZ
namespace Go.Proofs.YtpbgpeojlfdpoaaGreatDoor.Q
open Go Go.AM
set_option linter.unusedSimpArgs false
set_option linter.unusedVariables false
set_option linter.unusedSectionVars false
def ame (l:List s8):Prop:=l.length<=1049600/\∀ m ∈ l,SmM m
def SmS (s:P5):Prop:=s.host.length<=1049600/\SmM s.N1/\ame s.done
def SmX (b:z7):Prop:=b.path.length<=1049600/\ame b.D2
def axn (l:List z7):Prop:=l.length<=1049600/\∀ m ∈ l,SmX m
def axV (s:P5) (n:Int):Int:=if n-s.host.length<0 then -1 else if szM s.N1 (n-s.host.length)<0 then -1 else if ah8 s.done (szM s.N1 (n-s.host.length))<0 then -1 else ah8 s.done (szM s.N1 (n-s.host.length))
def szX (b:z7) (n:Int):Int:=if n-b.path.length<0 then -1 else if ah8 b.D2 (n-b.path.length)<0 then -1 else ah8 b.D2 (n-b.path.length)
def axQ (l:List z7) (n:Int):Int:=if n-l.length<0 then -1 else afa szX l (n-l.length)
theorem aw2 {l:List s8} {n:Int} (h:0<=n):ah8 l n<=n:=by
 unfold ah8
 split
 ·omega
 ·have:=aqK (f:=szM) (l:=l) (fun a _ k hk=>apf hk) (n:=n-l.length) (by omega)
  omega
theorem ayu {s:z7} {n:Int} (h:0<=n):szX s n<=n:=by
 unfold szX
 split
 ·omega
 ·have h1:=aw2 (l:=s.D2) (n:=n-s.path.length) (by omega)
  split<;>omega
theorem ame.of {l:List s8} {n:Int} (h:0<=n) (hn:n<=1049600) (h2:0<=ah8 l n):ame l:=by
 unfold ah8 at h2
 split at h2
 ·omega
 ·refine ⟨by omega,fun s hs=>?_⟩
  obtain ⟨k,h3,h4,h5⟩:=ajV (f:=szM) (l:=l) (fun a _ k hk=>apf hk) (n:=n-l.length) (by omega) h2 s hs
  exact SmM.of h3 (by omega) h5
theorem SmS.of {s:P5} {n:Int} (h:0<=n) (hn:n<=1049600) (h2:0<=axV s n):SmS s:=by
 unfold axV at h2
 split at h2
 ·omega
 ·split at h2
  ·omega
  ·have h5:=apf (m:=s.N1) (n:=n-s.host.length) (by omega)
   split at h2
   ·omega
   ·exact ⟨by omega,SmM.of (n:=n-s.host.length) (by omega) (by omega) (by omega),ame.of (n:=szM s.N1 (n-s.host.length)) (by omega) (by omega) h2⟩
theorem SmX.of {s:z7} {n:Int} (h:0<=n) (hn:n<=1049600) (h2:0<=szX s n):SmX s:=by
 unfold szX at h2
 split at h2
 ·omega
 ·split at h2
  ·omega
  ·exact ⟨by omega,ame.of (n:=n-s.path.length) (by omega) (by omega) (by omega)⟩
theorem axn.of {l:List z7} {n:Int} (h:0<=n) (hn:n<=1049600) (h2:0<=axQ l n):axn l:=by
 unfold axQ at h2
 split at h2
 ·omega
 ·refine ⟨by omega,fun s hs=>?_⟩
  obtain ⟨k,h3,h4,h5⟩:=ajV (f:=szX) (l:=l) (fun a _ k hk=>ayu hk) (n:=n-l.length) (by omega) h2 s hs
  exact SmX.of h3 (by omega) h5
end Go.Proofs.YtpbgpeojlfdpoaaGreatDoor.Q
