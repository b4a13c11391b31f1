/- Contracts: addresses are read and written. -/
import Derived.Test.YtmokcpfbeggigaaGreatDoorScriptListCh1wordsZ
namespace Go.Proofs.YtmokcpfbeggigaaGreatDoor.Q
open Go Go.AM
set_option linter.unusedSimpArgs false
set_option linter.unusedVariables false
set_option linter.unusedSectionVars false
def abU (n s:Bs):Option (Bs × Bs × Bs):=match z8 64 s 0 with
 | none=>none
 | some k=>if H8 n (s.take k) (aaF (s.drop (k+1)))=true then some (n,s.take k,aaF (s.drop (k+1))) else none
theorem atW {n s:Bs} (h:z8 64 s 0=none):abU n s=none:=by unfold abU; rw [h]
theorem asr {n s:Bs} {k:Nat} (h:z8 64 s 0=some k):abU n s=if H8 n (s.take k) (aaF (s.drop (k+1)))=true then some (n,s.take k,aaF (s.drop (k+1))) else none:=by unfold abU; rw [h]
def ad3:Option (Bs × Bs × Bs)->List V
 | some a=>[.agg [.str a.1,.str a.2.1,.str a.2.2],.bool true]
 | none=>[.agg [.str [],.str [],.str []],.bool false]
def B2 (a:Bs × Bs × Bs):Bs:=if H8 a.1 a.2.1 a.2.2=false then [] else if a.1=[] then a.2.1++[64]++a.2.2 else D8 a.1++[32,60]++a.2.1++[64]++a.2.2++[62]
theorem afa {n l d:Bs} (h:H8 n l d=true):n.length<=40/\l.length<=30/\d.length<=40:=by
 unfold H8 aaE aaD at h
 simp only [Bool.and_eq_true,decide_eq_true_eq] at h
 exact ⟨h.1.2,h.2.1.1,h.2.2.1⟩
theorem aqJ (a:Bs × Bs × Bs):(B2 a).length<=200:=by
 unfold B2
 by_cases h:H8 a.1 a.2.1 a.2.2=true
 ·have hl:=afa h
  have hq:=akj a.1
  rw [if_neg (by rw [h]; decide)]
  split
  ·simp only [List.length_append,List.length_cons,List.length_nil]; omega
  ·simp only [List.length_append,List.length_cons,List.length_nil]; omega
 ·rw [if_pos (by simpa using h)]; simp
theorem als (a:Bs × Bs × Bs) (hn:a.1.length<=400000) (hl:a.2.1.length<=4000000) (hd:a.2.2.length<=4000000):qc Q5 [.agg [.str a.1,.str a.2.1,.str a.2.2]]=some (.str (B2 a)):=by
 obtain ⟨n,l,d⟩:=a
 simp only at hn hl hd
 have e1:=aap n l d (by omega) hl hd
 have e2:=apy n (by omega)
 refine y1 (H:=[]) ?_ (by simp only [b8]) rfl
 show cv _ _ _=_
 rw [afM]
 unfold B2
 by_cases h:H8 n l d=true
 ·have hl:=afa h
  have hq:=akj n
  rw [h] at e1
  by_cases h0:n=[]
  ·subst h0
   have a1:=J0 .str l [64] (by simp; omega)
   have a2:=J0 .str (l++[64]) d (by simp; omega)
   simp only [b8,e1,a1,a2,h]
   try simp
  ·have a1:=J0 .str (D8 n) [32,60] (by simp; omega)
   have a2:=J0 .str (D8 n++[32,60]) l (by simp; omega)
   have a3:=J0 .str (D8 n++[32,60]++l) [64] (by simp; omega)
   have a4:=J0 .str (D8 n++[32,60]++l++[64]) d (by simp; omega)
   have a5:=J0 .str (D8 n++[32,60]++l++[64]++d) [62] (by simp; omega)
   simp only [b8,e1,h0,e2,a1,a2,a3,a4,a5,h]
   try simp
 ·have h':H8 n l d=false:=by simpa using h
  rw [h'] at e1
  simp only [b8,e1,h']
  try simp
theorem akT (n s:Bs) (hn:n.length<=1000000) (hs:s.length<=1000000):pc S7 [.str s,.str n]=some (.w5 (ad3 (abU n s))):=by
 have e1:qc J1 [.str s,.int .u8 64]=_:=ais s 64 (by omega)
 suffices h:l3 (cv S7 [.str s,.str n] []) fun r=>r.1 = .w5 (ad3 (abU n s)) by
  obtain ⟨⟨v,H⟩,e,h⟩:=h
  have h:v=_:=h
  subst h
  refine adY e (by simp only [b8]) ?_
  cases abU n s<;>simp only [ad3,b8]
 have st:∀ a b c:V,stO (.ptr 0 0) [a,b,c] [[.str [],.str [],.str []]]=some [[a,b,c]]:=fun _ _ _=>rfl
 have ld:∀ a b c:Bs,G7 C4 false true 3 (.ptr 0 0) [[.str a,.str b,.str c]]=some (.agg [.str a,.str b,.str c],[[.str a,.str b,.str c]]):=fun _ _ _=>rfl
 rw [aj4]
 cases hq:z8 64 s 0 with
 | none =>
   rw [atW hq]
   rw [hq] at e1
   simp only [ouI] at e1
   simp only [b8,e1,show ((-1:Int)<0) from by decide]
   exact l3.here rfl
 | some k =>
   have hk:=(acI hq).2
   rw [asr hq]
   rw [hq] at e1
   simp only [ouI] at e1
   have p1:=agp s .i64 k (by omega)
   have e2:a8 (.int .i64) .add (.int .i64 (k:Int)) (.int .i64 1)=some (.int .i64 ((k+1:Nat):Int)):=y4 _ k 1 (by omega)
   have p2:=ade s .i64 (k+1) (by omega)
   have e3:=ajC (s.drop (k+1)) (by simp; omega)
   have e4:=aap n (s.take k) (aaF (s.drop (k+1))) (by omega) (by simp; omega) (by simp [aaF]; omega)
   by_cases h:H8 n (s.take k) (aaF (s.drop (k+1)))=true
   ·rw [h] at e4
    rw [if_pos h]
    simp only [b8,e1,p1,e2,p2,e3,st,ld,e4,List.length_nil,List.nil_append,show ¬ ((k:Int)<0) from by omega]
    exact l3.here rfl
   ·have h':H8 n (s.take k) (aaF (s.drop (k+1)))=false:=by simpa using h
    rw [h'] at e4
    rw [if_neg h]
    simp only [b8,e1,p1,e2,p2,e3,st,ld,e4,List.length_nil,List.nil_append,show ¬ ((k:Int)<0) from by omega]
    exact l3.here rfl
theorem atn (o:Bool) (ws:List Bs) (sep:Bs) (H:VH) (h1:ws.length<=1000000) (h2:(J2 sep ws).length<=1000000000):cv aaw [.sl o (vT ws),.str sep] H=some (.str (J2 sep ws),H):=by
 show M7 vb _ _ _=_
 rw [aq3 vb _ _ _ (g:=akw) rfl]
 have e:adu (vT ws)=some ws:=amM ws
 simp only [akw,e,Option.bind_some]
 rw [if_pos ⟨by omega,by omega⟩]
def V7 (l:List Bs):Nat:=(l.map fun t=>t.length+1).sum
theorem aod (a b:List Bs):V7 (a++b)=V7 a+V7 b:=by simp [V7]
theorem aiC {s:Bs} {i:Nat} {ap:Bool} {acc ws:List Bs} (h:P8 s i ap acc=some ws):V7 ws<=V7 acc+2*(s.length-i):=by
 rw [P8] at h
 split at h
 ·rename_i hi
  split at h
  ·have:=aiC h; omega
  ·split at h
   ·cases h
   ·split at h
    ·split at h
     ·cases h
     ·rename_i r hr
      have h1:=alE (t:=r.1) (k:=r.2) hr
      rw [List.length_drop] at h1
      have:=aiC h
      rw [aod] at this
      have e:V7 [r.1]=r.1.length+1:=by simp [V7]
      omega
    ·split at h
     ·cases h
     ·rename_i hk
      have hge:=afE (s:=s) (i:=i)
      have:=aiC h
      rw [aod] at this
      have e:V7 [(s.drop i).take (L5 s i-i)]=L5 s i-i+1:=by
       have:=hge.2 (by omega)
       simp [V7]; omega
      have:=hge.2 (by omega)
      omega
 ·cases h; omega
termination_by s.length-i
decreasing_by
 ·omega
 ·omega
 ·have:=afE (s:=s) (i:=i); omega
theorem aos:∀ ws:List Bs,ws.length<=V7 ws
 | []=>by simp
 | a::l=>by
   have:=aos l
   have e:V7 (a::l)=a.length+1+V7 l:=by simp [V7]
   simp only [List.length_cons]; omega
theorem amK:∀ ws:List Bs,(J2 [32] ws).length<=V7 ws
 | []=>by simp [J2,V7]
 | [a]=>by simp [J2,V7]
 | a::b::l=>by
   have:=amK (b::l)
   simp only [J2,List.length_append,List.length_cons,List.length_nil]
   have e:V7 (a::b::l)=a.length+1+V7 (b::l):=by simp [V7]
   omega
def acK (s:Bs):Option (Bs × Bs × Bs) :=
 if A9 s=false then none else
 match z8 60 (A5 s) 0 with
 | none=>abU [] (A5 s)
 | some k=>match P8 ((A5 s).take k) 0 true [] with
   | none=>none
   | some ws=>if ((A5 s).drop (k+1)).getLast? = some 62 then abU (J2 [32] ws) (((A5 s).drop (k+1)).take (((A5 s).drop (k+1)).length-1)) else none
section
variable {s:Bs} {k:Nat} {ws:List Bs}
theorem aut (h:A9 s=false):acK s=none:=by unfold acK; rw [if_pos h]
theorem an0 (h:A9 s=true) (h2:z8 60 (A5 s) 0=none):acK s=abU [] (A5 s):=by
 unfold acK; rw [if_neg (by rw [h]; decide),h2]
theorem awO (h:A9 s=true) (h2:z8 60 (A5 s) 0=some k) (h3:P8 ((A5 s).take k) 0 true []=none):acK s=none:=by
 unfold acK; rw [if_neg (by rw [h]; decide),h2]; simp only [h3]
theorem apV (h:A9 s=true) (h2:z8 60 (A5 s) 0=some k) (h3:P8 ((A5 s).take k) 0 true []=some ws):acK s=if ((A5 s).drop (k+1)).getLast? = some 62 then abU (J2 [32] ws) (((A5 s).drop (k+1)).take (((A5 s).drop (k+1)).length-1)) else none:=by
 unfold acK; rw [if_neg (by rw [h]; decide),h2]; simp only [h3]
end
theorem avI (o:Option (Bs × Bs × Bs)):∃ a b c:Bs,∃ ok:Bool,ad3 o=[.agg [.str a,.str b,.str c],.bool ok]:=by
 cases o with
 | none=>exact ⟨[],[],[],false,rfl⟩
 | some x=>exact ⟨x.1,x.2.1,x.2.2,true,rfl⟩
set_option maxRecDepth 100000 in
theorem amp (s:Bs) (hs:s.length<=1000000):pc M5 [.str s]=some (.w5 (ad3 (acK s))):=by
 have e0:=abu s (by omega)
 suffices h:l3 (cv M5 [.str s] []) fun r=>r.1 = .w5 (ad3 (acK s)) by
  obtain ⟨⟨v,H⟩,e,h⟩:=h
  have h:v=_:=h
  subst h
  refine adY e (by simp only [b8]) ?_
  cases acK s<;>simp only [ad3,b8]
 rw [aha]
 by_cases ht:A9 s=true
 ·have h200:=anI ht
  have e1:=anK s (by omega)
  have hT:A9 (A5 s)=true:=ajZ ht (ar4 s) (am7 s)
  have hTl:=am7 s
  rw [ht] at e0
  have e2:qc J1 [.str (A5 s),.int .u8 60]=_:=ais (A5 s) 60 (by omega)
  cases hq:z8 60 (A5 s) 0 with
  | none =>
    rw [an0 ht hq]
    rw [hq] at e2
    simp only [ouI] at e2
    have e3:=akT [] (A5 s) (by simp) (by omega)
    obtain ⟨a,b,c,ok,h3⟩:=avI (abU [] (A5 s))
    rw [h3] at e3 ⊢
    simp only [b8,e0,e1,e2,e3,show ((-1:Int)<0) from by decide]
    exact l3.here rfl
  | some k =>
    have hk:=(acI hq).2
    rw [hq] at e2
    simp only [ouI] at e2
    have p1:=agp (A5 s) .i64 k (by omega)
    have e3:a8 (.int .i64) .add (.int .i64 (k:Int)) (.int .i64 1)=some (.int .i64 ((k+1:Nat):Int)):=y4 _ k 1 (by omega)
    have p2:=ade (A5 s) .i64 (k+1) (by omega)
    have e4:=an8 ((A5 s).take k) (atl hT k)
    have e5:=apz ((A5 s).drop (k+1)) 62 (by simp; omega)
    have hzl:((A5 s).drop (k+1)).length<=200:=by simp; omega
    cases hw:P8 ((A5 s).take k) 0 true [] with
    | none =>
      rw [awO ht hq hw]
      rw [hw] at e4
      simp only [wdX] at e4
      generalize (A5 s).drop (k+1)=z at *
      by_cases hg:z.getLast? = some 62
      ·simp only [hg,if_true,decide_true] at e5
       simp only [b8,e0,e1,e2,p1,e3,p2,e4,e5,show ¬ ((k:Int)<0) from by omega]
       exact l3.here rfl
      ·simp only [hg,if_false,decide_false] at e5
       simp only [b8,e0,e1,e2,p1,e3,p2,e4,e5,show ¬ ((k:Int)<0) from by omega]
       exact l3.here rfl
    | some ws =>
      rw [apV ht hq hw]
      rw [hw] at e4
      simp only [wdX] at e4
      have htot:=aiC hw
      have htk:((A5 s).take k).length<=(A5 s).length:=by simp; omega
      have e0w:V7 ([]:List Bs)=0:=rfl
      have hj:=amK ws
      have hwl:=aos ws
      generalize (A5 s).drop (k+1)=z at *
      by_cases hg:z.getLast? = some 62
      ·have e6:=fun o H=>atn o ws [32] H (by omega) (by omega)
       have e7:=akT (J2 [32] ws) (z.take (z.length-1)) (by omega) (by simp; omega)
       obtain ⟨a,b,c,ok,h3⟩:=avI (abU (J2 [32] ws) (z.take (z.length-1)))
       rw [if_pos hg]
       rw [h3] at e7 ⊢
       simp only [hg,if_true,decide_true] at e5
       simp only [b8,e0,e1,e2,p1,e3,p2,e4,e5,e6,e7,show ¬ ((k:Int)<0) from by omega]
       exact l3.here rfl
      ·rw [if_neg hg]
       simp only [hg,if_false,decide_false] at e5
       simp only [b8,e0,e1,e2,p1,e3,p2,e4,e5,show ¬ ((k:Int)<0) from by omega]
       exact l3.here rfl
 ·have ht':A9 s=false:=by simpa using ht
  rw [aut ht']
  rw [ht'] at e0
  simp only [b8,e0]
  exact l3.here rfl
end Go.Proofs.YtmokcpfbeggigaaGreatDoor.Q
