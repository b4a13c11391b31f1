/- Contracts: sizes, copies and comparisons of exact statements. -/
import Derived.Test.YtmokcpfbeggigaaGreatDoorScriptNameC16specwordsZ
import Derived.Test.YtmokcpfbeggigaaGreatDoorFnScriptNameK4
namespace Go.Proofs.YtmokcpfbeggigaaGreatDoor.Q
open Go Go.AM
set_option linter.unusedSimpArgs false
set_option linter.unusedVariables false
set_option linter.unusedSectionVars false
def szB (s:Bs) (k:Int):Int:=k-s.length
theorem aqH (s:Bs) (k:Int):szB s k<=k:=by unfold szB; omega
def szT (l:List Bs) (n:Int):Int:=if n-l.length<0 then -1 else af4 szB l (n-l.length)
def szM (m:aac) (n:Int):Int:=if n-m.from_.length<0 then -1 else if szT m.to (n-m.from_.length)<0 then -1 else if szT m.lines (szT m.to (n-m.from_.length))<0 then -1 else szT m.lines (szT m.to (n-m.from_.length))
def afL (l:List aac) (n:Int):Int:=if n-l.length<0 then -1 else af4 szM l (n-l.length)
theorem alv {l:List Bs} {n:Int} (h:0<=n):szT l n<=n:=by
 unfold szT
 split
 ·omega
 ·have:=anZ (f:=szB) (l:=l) (fun a _ k _=>aqH a k) (n:=n-l.length) (by omega)
  omega
theorem avf {l:List Bs} {n:Int} (h:0<=n) (h2:0<=szT l n):(l.length:Int)<=n/\∀ s ∈ l,(s.length:Int)<=n:=by
 unfold szT at h2
 split at h2
 ·omega
 ·refine ⟨by omega,fun s hs=>?_⟩
  obtain ⟨k,h3,h4,h5⟩:=aid (f:=szB) (l:=l) (fun a _ k _=>aqH a k) (n:=n-l.length) (by omega) h2 s hs
  unfold szB at h5; omega
theorem alS {m:aac} {n:Int} (h:0<=n):szM m n<=n:=by
 unfold szM
 split
 ·omega
 ·have h1:=alv (l:=m.to) (n:=n-m.from_.length) (by omega)
  split
  ·omega
  ·have h2:=alv (l:=m.lines) (n:=szT m.to (n-m.from_.length)) (by omega)
   split<;>omega
def SmT (l:List Bs):Prop:=l.length<=1049600/\∀ s ∈ l,s.length<=1049600
def SmM (m:aac):Prop:=m.from_.length<=1049600/\SmT m.to/\SmT m.lines
theorem SmT.of {l:List Bs} {n:Int} (h:0<=n) (hn:n<=1049600) (h2:0<=szT l n):SmT l:=by
 obtain ⟨h3,h4⟩:=avf h h2
 exact ⟨by omega,fun s hs=>by have:=h4 s hs; omega⟩
theorem SmM.of {m:aac} {n:Int} (h:0<=n) (hn:n<=1049600) (h2:0<=szM m n):SmM m:=by
 unfold szM at h2
 split at h2
 ·omega
 ·split at h2
  ·omega
  ·rename_i h3 h4
   have h5:=alv (l:=m.to) (n:=n-m.from_.length) (by omega)
   split at h2
   ·omega
   ·exact ⟨by omega,SmT.of (n:=n-m.from_.length) (by omega) (by omega) (by omega),SmT.of (n:=szT m.to (n-m.from_.length)) (by omega) (by omega) h2⟩
end Go.Proofs.YtmokcpfbeggigaaGreatDoor.Q
