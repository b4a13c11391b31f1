/- Contracts: sessions and mailboxes of exact statements. -/
import Derived.Test.YtpbgpeojlfdpoaaDoorExactSplitMailC32drawsZ
namespace Go.Proofs.YtpbgpeojlfdpoaaDoor.Q
open Go Go.AM
set_option linter.unusedSimpArgs false
set_option linter.unusedVariables false
set_option linter.unusedSectionVars false
def ae5 (l:List j0):Prop:=l.length<=1049600/\∀ m ∈ l,Z6 m
def SmS (s:N8):Prop:=s.host.length<=1049600/\Z6 s.L8/\ae5 s.done
def SmX (b:u4):Prop:=b.path.length<=1049600/\ae5 b.y5
def av4 (l:List u4):Prop:=l.length<=1049600/\∀ m ∈ l,SmX m
def axp (s:N8) (n:Int):Int:=if n-s.host.length<0 then -1 else if szM s.L8 (n-s.host.length)<0 then -1 else if ahE s.done (szM s.L8 (n-s.host.length))<0 then -1 else ahE s.done (szM s.L8 (n-s.host.length))
def szX (b:u4) (n:Int):Int:=if n-b.path.length<0 then -1 else if ahE b.y5 (n-b.path.length)<0 then -1 else ahE b.y5 (n-b.path.length)
def avZ (l:List u4) (n:Int):Int:=if n-l.length<0 then -1 else aef szX l (n-l.length)
theorem au7 {l:List j0} {n:Int} (h:0<=n):ahE l n<=n:=by
 unfold ahE
 split
 ·omega
 ·have:=apv (f:=szM) (l:=l) (fun a _ k hk=>amU hk) (n:=n-l.length) (by omega)
  omega
theorem avC {s:u4} {n:Int} (h:0<=n):szX s n<=n:=by
 unfold szX
 split
 ·omega
 ·have h1:=au7 (l:=s.y5) (n:=n-s.path.length) (by omega)
  split<;>omega
theorem ae5.of {l:List j0} {n:Int} (h:0<=n) (hn:n<=1049600) (h2:0<=ahE l n):ae5 l:=by
 unfold ahE at h2
 split at h2
 ·omega
 ·refine ⟨by omega,fun s hs=>?_⟩
  obtain ⟨k,h3,h4,h5⟩:=aiI (f:=szM) (l:=l) (fun a _ k hk=>amU hk) (n:=n-l.length) (by omega) h2 s hs
  exact Z6.of h3 (by omega) h5
theorem SmS.of {s:N8} {n:Int} (h:0<=n) (hn:n<=1049600) (h2:0<=axp s n):SmS s:=by
 unfold axp at h2
 split at h2
 ·omega
 ·split at h2
  ·omega
  ·have h5:=amU (m:=s.L8) (n:=n-s.host.length) (by omega)
   split at h2
   ·omega
   ·exact ⟨by omega,Z6.of (n:=n-s.host.length) (by omega) (by omega) (by omega),ae5.of (n:=szM s.L8 (n-s.host.length)) (by omega) (by omega) h2⟩
theorem SmX.of {s:u4} {n:Int} (h:0<=n) (hn:n<=1049600) (h2:0<=szX s n):SmX s:=by
 unfold szX at h2
 split at h2
 ·omega
 ·split at h2
  ·omega
  ·exact ⟨by omega,ae5.of (n:=n-s.path.length) (by omega) (by omega) (by omega)⟩
theorem av4.of {l:List u4} {n:Int} (h:0<=n) (hn:n<=1049600) (h2:0<=avZ l n):av4 l:=by
 unfold avZ at h2
 split at h2
 ·omega
 ·refine ⟨by omega,fun s hs=>?_⟩
  obtain ⟨k,h3,h4,h5⟩:=aiI (f:=szX) (l:=l) (fun a _ k hk=>avC hk) (n:=n-l.length) (by omega) h2 s hs
  exact SmX.of h3 (by omega) h5
theorem ase (a b:List j0) (h:ae5 a):qc N6 [.sl false (vR eM a),.sl false (vR eM b)]=some (.bool (decide (a=b))):=by
 have ha:=h.1
 refine s7 (H:=[]) ?_ (by simp only [b9]) rfl
 show cv _ _ _=_
 rw [ajM]
 by_cases hl:a.length=b.length
 ·have loop:=auR (B:=aao) (S:=fun i=>[.sl false (vR eM a),.sl false (vR eM b),.int .i64 (i:Nat)]) (H:=[]) (m0:=0) (m1:=1) (vs0:=[]) (vs1:=[.bool false]) a b hl
   (fun i hi=>by
    have i1:=ahe false a .i64 i hi
    have i2:=ahe false b .i64 i (by omega)
    have e1:=am5 a[i] (b[i]'(by omega)) (h.2 _ (List.getElem_mem hi))
    simp only [N5] at e1
    have e2:a8 (.int .i64) .add (.int .i64 (i:Int)) (.int .i64 1)=some (.int .i64 ((i+1:Nat):Int)):=s9 _ i 1 (by omega)
    rw [adi]
    simp only [b9,i1,i2,e1,e2,show ((i:Int)<(a.length:Int)) from by omega]
    by_cases e:a[i]=b[i]<;>simp only [b9,e])
   (by
    rw [adi]
    simp only [b9,show ¬ ((a.length:Int)<(a.length:Int)) from by omega])
  have loop':j4 aao [.sl false (vR eM a),.sl false (vR eM b),.int .i64 0] []=_:=loop
  simp only [b9,hl,loop']
  by_cases e:a=b<;>simp only [b9,e]
 ·have:a ≠ b:=fun e=>hl (by rw [e])
  simp only [b9,show ¬ ((a.length:Int)=(b.length:Int)) from by omega,this]
end Go.Proofs.YtpbgpeojlfdpoaaDoor.Q
