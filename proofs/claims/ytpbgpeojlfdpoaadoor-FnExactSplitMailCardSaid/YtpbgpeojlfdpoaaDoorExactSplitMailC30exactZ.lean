/- Contracts: sizes, copies and comparisons of exact statements. -/
import Derived.Test.YtpbgpeojlfdpoaaDoorExactSplitMailC16specwordsZ
import Derived.Test.YtpbgpeojlfdpoaaDoorFnExactSplitMailK4
namespace Go.Proofs.YtpbgpeojlfdpoaaDoor.Q
open Go Go.AM
set_option linter.unusedSimpArgs false
set_option linter.unusedVariables false
set_option linter.unusedSectionVars false
def szB (s:Bs) (k:Int):Int:=k-s.length
theorem an0 (s:Bs) (k:Int):szB s k<=k:=by unfold szB; omega
def szT (l:List Bs) (n:Int):Int:=if n-l.length<0 then -1 else aef szB l (n-l.length)
def szM (m:j0) (n:Int):Int:=if n-m.from_.length<0 then -1 else if szT m.to (n-m.from_.length)<0 then -1 else if szT m.lines (szT m.to (n-m.from_.length))<0 then -1 else szT m.lines (szT m.to (n-m.from_.length))
def ahE (l:List j0) (n:Int):Int:=if n-l.length<0 then -1 else aef szM l (n-l.length)
theorem aj3 {l:List Bs} {n:Int} (h:0<=n):szT l n<=n:=by
 unfold szT
 split
 ·omega
 ·have:=apv (f:=szB) (l:=l) (fun a _ k _=>an0 a k) (n:=n-l.length) (by omega)
  omega
theorem awd {l:List Bs} {n:Int} (h:0<=n) (h2:0<=szT l n):(l.length:Int)<=n/\∀ s ∈ l,(s.length:Int)<=n:=by
 unfold szT at h2
 split at h2
 ·omega
 ·refine ⟨by omega,fun s hs=>?_⟩
  obtain ⟨k,h3,h4,h5⟩:=aiI (f:=szB) (l:=l) (fun a _ k _=>an0 a k) (n:=n-l.length) (by omega) h2 s hs
  unfold szB at h5; omega
theorem amU {m:j0} {n:Int} (h:0<=n):szM m n<=n:=by
 unfold szM
 split
 ·omega
 ·have h1:=aj3 (l:=m.to) (n:=n-m.from_.length) (by omega)
  split
  ·omega
  ·have h2:=aj3 (l:=m.lines) (n:=szT m.to (n-m.from_.length)) (by omega)
   split<;>omega
def SmT (l:List Bs):Prop:=l.length<=1049600/\∀ s ∈ l,s.length<=1049600
def Z6 (m:j0):Prop:=m.from_.length<=1049600/\SmT m.to/\SmT m.lines
theorem SmT.of {l:List Bs} {n:Int} (h:0<=n) (hn:n<=1049600) (h2:0<=szT l n):SmT l:=by
 obtain ⟨h3,h4⟩:=awd h h2
 exact ⟨by omega,fun s hs=>by have:=h4 s hs; omega⟩
theorem Z6.of {m:j0} {n:Int} (h:0<=n) (hn:n<=1049600) (h2:0<=szM m n):Z6 m:=by
 unfold szM at h2
 split at h2
 ·omega
 ·split at h2
  ·omega
  ·rename_i h3 h4
   have h5:=aj3 (l:=m.to) (n:=n-m.from_.length) (by omega)
   split at h2
   ·omega
   ·exact ⟨by omega,SmT.of (n:=n-m.from_.length) (by omega) (by omega) (by omega),SmT.of (n:=szT m.to (n-m.from_.length)) (by omega) (by omega) h2⟩
theorem aiv (l:List Bs) (n:Int) (h0:0<=n) (h1:n<=1048576) (hl:l.length<=9223372036854775807) (hm:∀ s ∈ l,s.length<=9223372036854775807):qc P0 [.sl false (vT l),.int .i64 n]=some (.int .i64 (szT l n)):=by
 have hs:=amp (.int .i64) n l.length (by omega) (by omega)
 have run:∃ H,cv P0 [.sl false (vT l),.int .i64 n] []=some (.int .i64 (szT l n),H):=by
  rw [aie]
  unfold szT
  by_cases hn:n-l.length<0
  ·simp only [b9,hs,hn]; exact ⟨_,rfl⟩
  ·simp only [b9,hs,hn]
   obtain ⟨m,hm1,hm2⟩:=axy (m0:=0) (m1:=1) (f:=szB) (B:=T9) (H:=[]) (fun k i=>[.sl false (vT l),.int .i64 k,.int .i64 (i:Nat)]) l (fun a _ k _=>an0 a k)
    (fun i hi k hk1 hk2=>by
     have hid:=M0 false l .i64 i hi
     have hlen:=hm l[i] (List.getElem_mem hi)
     have e1:=amp (.int .i64) k (l[i]).length (by omega) (by omega)
     have e2:a8 (.int .i64) .add (.int .i64 (i:Int)) (.int .i64 1)=some (.int .i64 ((i+1:Nat):Int)):=s9 _ i 1 (by omega)
     rw [ab0]
     simp only [b9,hid,e1,e2,szB,show ((i:Int)<(l.length:Int)) from by omega]
     by_cases e:k-(l[i]).length<0<;>simp only [b9,e])
    (fun k=>by
     rw [ab0]
     simp only [b9,show ¬ ((l.length:Int)<(l.length:Int)) from by omega]) (n-l.length) (by omega) (by omega)
   have hm1':j4 T9 [.sl false (vT l),.int .i64 (n-l.length),.int .i64 0] []=_:=hm1
   rw [hm1']
   rcases hm2 with rfl | rfl<;>simp only [b9]<;>exact ⟨_,rfl⟩
 obtain ⟨H,run⟩:=run
 exact s7 run (by simp only [b9]) rfl
theorem ain (a b:List Bs) (h:a.length<=1049600):qc U4 [.sl false (vT a),.sl false (vT b)]=some (.bool (decide (a=b))):=by
 refine s7 (H:=[]) ?_ (by simp only [b9]) rfl
 show cv _ _ _=_
 rw [ah6]
 by_cases hl:a.length=b.length
 ·have loop:=auR (B:=U3) (S:=fun i=>[.sl false (vT a),.sl false (vT b),.int .i64 (i:Nat)]) (H:=[]) (m0:=0) (m1:=1) (vs0:=[]) (vs1:=[.bool false]) a b hl
   (fun i hi=>by
    have i1:=M0 false a .i64 i hi
    have i2:=M0 false b .i64 i (by omega)
    have e2:a8 (.int .i64) .add (.int .i64 (i:Int)) (.int .i64 1)=some (.int .i64 ((i+1:Nat):Int)):=s9 _ i 1 (by omega)
    rw [acm]
    simp only [b9,i1,i2,e2,show ((i:Int)<(a.length:Int)) from by omega]
    by_cases e:a[i]=b[i]<;>simp only [b9,e])
   (by
    rw [acm]
    simp only [b9,show ¬ ((a.length:Int)<(a.length:Int)) from by omega])
  have loop':j4 U3 [.sl false (vT a),.sl false (vT b),.int .i64 0] []=_:=loop
  simp only [b9,hl,loop']
  by_cases e:a=b<;>simp only [b9,e]
 ·have:a ≠ b:=fun e=>hl (by rw [e])
  simp only [b9,show ¬ ((a.length:Int)=(b.length:Int)) from by omega,this]
theorem as4 (m:j0) (n:Int) (h0:0<=n) (h1:n<=1048576) (hf:m.from_.length<=9223372036854775807) (ht:m.to.length<=9223372036854775807) (htm:∀ s ∈ m.to,s.length<=9223372036854775807) (hl:m.lines.length<=9223372036854775807) (hlm:∀ s ∈ m.lines,s.length<=9223372036854775807) :
 qc V7 [.agg (cM m),.int .i64 n]=some (.int .i64 (szM m n)):=by
 have e1:=amp (.int .i64) n m.from_.length (by omega) (by omega)
 have run:∃ H,cv V7 [.agg (cM m),.int .i64 n] []=some (.int .i64 (szM m n),H):=by
  rw [ak7]
  unfold szM
  by_cases h2:n-m.from_.length<0
  ·simp only [b9,e1,h2]; exact ⟨_,rfl⟩
  ·have e2:=aiv m.to (n-m.from_.length) (by omega) (by omega) ht htm
   have h3:=aj3 (l:=m.to) (n:=n-m.from_.length) (by omega)
   by_cases h4:szT m.to (n-m.from_.length)<0
   ·simp only [b9,e1,h2,e2,h4]; exact ⟨_,rfl⟩
   ·have e3:=aiv m.lines (szT m.to (n-m.from_.length)) (by omega) (by omega) hl hlm
    by_cases h5:szT m.lines (szT m.to (n-m.from_.length))<0
    ·simp only [b9,e1,h2,e2,h4,e3,h5]; exact ⟨_,rfl⟩
    ·simp only [b9,e1,h2,e2,h4,e3,h5]; exact ⟨_,rfl⟩
 obtain ⟨H,run⟩:=run
 exact s7 run (by simp only [b9]) rfl
theorem am5 (a b:j0) (h:Z6 a):qc W5 [.agg (cM a),.agg (cM b)]=some (.bool (decide (a=b))):=by
 have e1:=ain a.to b.to h.2.1.1
 have e2:=ain a.lines b.lines h.2.2.1
 refine s7 (H:=[]) ?_ (by simp only [b9]) rfl
 show cv _ _ _=_
 rw [akV]
 have key:(a=b)<->(a.from_=b.from_/\a.to=b.to/\a.lines=b.lines):=by cases a; cases b; simp
 simp only [b9,e1,e2,key]
 by_cases h1:a.from_=b.from_<;>by_cases h2:a.to=b.to<;>by_cases h3:a.lines=b.lines<;>simp [b9,h1,h2,h3]
def BgT (l:List Bs):Prop:=l.length<=9223372036854775807/\∀ s ∈ l,s.length<=9223372036854775807
def BgM (m:j0):Prop:=m.from_.length<=9223372036854775807/\BgT m.to/\BgT m.lines
def tyT:Ty := .sl .str
def tyM:Ty := .st [.str,tyT,tyT]
theorem av5 {vs:List V} (h:F5 tyT vs):∃ l:List Bs,vs=[.sl false (vT l)]/\BgT l:=by
 simp only [tyT,F5] at h
 obtain ⟨xs,rfl,h1,h2⟩:=h
 have:∀ {l:List (List V)},(∀ x ∈ l,∃ s:Bs,x=[.str s]/\s.length<=maxLen)->∃ m:List Bs,l=vT m/\∀ s ∈ m,s.length<=maxLen:=by
  intro l
  induction l with
  | nil=>intro _; exact ⟨[],rfl,by simp⟩
  | cons a l ih =>
    intro hl
    obtain ⟨s,rfl,hs⟩:=hl a (by simp)
    obtain ⟨m,rfl,hm⟩:=ih (fun x hx=>hl x (by simp [hx]))
    exact ⟨s::m,rfl,fun t ht=>by rcases List.mem_cons.1 ht with rfl | ht; exact hs; exact hm t ht⟩
 obtain ⟨m,rfl,hm⟩:=this h2
 have e:maxLen=9223372036854775807:=rfl
 exact ⟨m,rfl,by rw [P3] at h1; omega,fun s hs=>by have:=hm s hs; omega⟩
theorem ax2 {vs:List V} (h:F5 tyM vs):∃ m:j0,vs=cM m/\BgM m:=by
 simp only [tyM,F5,W1] at h
 obtain ⟨a,b,rfl,⟨f,rfl,hf⟩,c,d,rfl,h1,e,g,rfl,h2,rfl⟩:=h
 obtain ⟨t,rfl,ht⟩:=av5 h1
 obtain ⟨l,rfl,hl⟩:=av5 h2
 have e:maxLen=9223372036854775807:=rfl
 exact ⟨⟨f,t,l⟩,rfl,by show f.length<=_; omega,ht,hl⟩
theorem axM {u:V} (h:agH tyM u):∃ m:j0,u = .agg (cM m)/\BgM m:=by
 obtain ⟨vs,rfl,h⟩:=h
 obtain ⟨m,rfl,hm⟩:=ax2 (vs:=vs) (by simp only [tyM,F5]; exact h)
 exact ⟨m,rfl,hm⟩
end Go.Proofs.YtpbgpeojlfdpoaaDoor.Q
