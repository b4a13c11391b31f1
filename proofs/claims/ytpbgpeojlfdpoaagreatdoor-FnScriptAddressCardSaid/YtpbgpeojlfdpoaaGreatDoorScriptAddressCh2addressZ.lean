/- Contracts: addresses are read and written. -/
import Derived.Test.YtpbgpeojlfdpoaaGreatDoorScriptAddressCh1wordsZ
namespace Go.Proofs.YtpbgpeojlfdpoaaGreatDoor.Q
open Go Go.AM
set_option linter.unusedSimpArgs false
set_option linter.unusedVariables false
set_option linter.unusedSectionVars false
def abP (n s:Bs):Option (Bs × Bs × Bs):=match B4 64 s 0 with
 | none=>none
 | some k=>if G4 n (s.take k) (I8 (s.drop (k+1)))=true then some (n,s.take k,I8 (s.drop (k+1))) else none
theorem aeL {n s:Bs} (h:B4 64 s 0=none):abP n s=none:=by unfold abP; rw [h]
theorem aeF {n s:Bs} {k:Nat} (h:B4 64 s 0=some k):abP n s=if G4 n (s.take k) (I8 (s.drop (k+1)))=true then some (n,s.take k,I8 (s.drop (k+1))) else none:=by unfold abP; rw [h]
def X2:Option (Bs × Bs × Bs)->List V
 | some a=>[.agg [.str a.1,.str a.2.1,.str a.2.2],.bool true]
 | none=>[.agg [.str [],.str [],.str []],.bool false]
def fmA (a:Bs × Bs × Bs):Bs:=if G4 a.1 a.2.1 a.2.2=false then [] else if a.1=[] then a.2.1++[64]++a.2.2 else Z5 a.1++[32,60]++a.2.1++[64]++a.2.2++[62]
theorem acY {n l d:Bs} (h:G4 n l d=true):n.length<=40/\l.length<=30/\d.length<=40:=by
 unfold G4 aef agC at h
 simp only [Bool.and_eq_true,decide_eq_true_eq] at h
 exact ⟨h.1.2,h.2.1.1,h.2.2.1⟩
theorem alZ (a:Bs × Bs × Bs):(fmA a).length<=200:=by
 unfold fmA
 by_cases h:G4 a.1 a.2.1 a.2.2=true
 ·have hl:=acY h
  have hq:=aji a.1
  rw [if_neg (by rw [h]; decide)]
  split
  ·simp only [List.length_append,List.length_cons,List.length_nil]; omega
  ·simp only [List.length_append,List.length_cons,List.length_nil]; omega
 ·rw [if_pos (by simpa using h)]; simp
theorem ab5 (a:Bs × Bs × Bs) (hn:a.1.length<=400000) (hl:a.2.1.length<=4000000) (hd:a.2.2.length<=4000000):qc J0 [.agg [.str a.1,.str a.2.1,.str a.2.2]]=some (.str (fmA a)):=by
 obtain ⟨n,l,d⟩:=a
 simp only at hn hl hd
 have e1:=acg n l d (by omega) hl hd
 have e2:=ao2 n (by omega)
 refine w8 (H:=[]) ?_ (by simp only [b8]) rfl
 show cv _ _ _=_
 rw [afv]
 unfold fmA
 by_cases h:G4 n l d=true
 ·have hl:=acY h
  have hq:=aji n
  rw [h] at e1
  by_cases h0:n=[]
  ·subst h0
   have a1:=E4 .str l [64] (by simp; omega)
   have a2:=E4 .str (l++[64]) d (by simp; omega)
   simp only [b8,e1,a1,a2,h]
   try simp
  ·have a1:=E4 .str (Z5 n) [32,60] (by simp; omega)
   have a2:=E4 .str (Z5 n++[32,60]) l (by simp; omega)
   have a3:=E4 .str (Z5 n++[32,60]++l) [64] (by simp; omega)
   have a4:=E4 .str (Z5 n++[32,60]++l++[64]) d (by simp; omega)
   have a5:=E4 .str (Z5 n++[32,60]++l++[64]++d) [62] (by simp; omega)
   simp only [b8,e1,h0,e2,a1,a2,a3,a4,a5,h]
   try simp
 ·have h':G4 n l d=false:=by simpa using h
  rw [h'] at e1
  simp only [b8,e1,h']
  try simp
theorem akX (n s:Bs) (hn:n.length<=1000000) (hs:s.length<=1000000):pc Q2 [.str s,.str n]=some (.o7 (X2 (abP n s))):=by
 have e1:qc K6 [.str s,.int .u8 64]=_:=amF s 64 (by omega)
 suffices h:j9 (cv Q2 [.str s,.str n] []) fun r=>r.1 = .o7 (X2 (abP n s)) by
  obtain ⟨⟨v,H⟩,e,h⟩:=h
  have h:v=_:=h
  subst h
  refine acD e (by simp only [b8]) ?_
  cases abP n s<;>simp only [X2,b8]
 have st:∀ a b c:V,stO (.ptr 0 0) [a,b,c] [[.str [],.str [],.str []]]=some [[a,b,c]]:=fun _ _ _=>rfl
 have ld:∀ a b c:Bs,H5 C5 false true 3 (.ptr 0 0) [[.str a,.str b,.str c]]=some (.agg [.str a,.str b,.str c],[[.str a,.str b,.str c]]):=fun _ _ _=>rfl
 rw [ajQ]
 cases hq:B4 64 s 0 with
 | none =>
   rw [aeL hq]
   rw [hq] at e1
   simp only [ouI] at e1
   simp only [b8,e1,show ((-1:Int)<0) from by decide]
   exact j9.here rfl
 | some k =>
   have hk:=(adS hq).2
   rw [aeF hq]
   rw [hq] at e1
   simp only [ouI] at e1
   have p1:=abO s .i64 k (by omega)
   have e2:a8 (.int .i64) .add (.int .i64 (k:Int)) (.int .i64 1)=some (.int .i64 ((k+1:Nat):Int)):=y1 _ k 1 (by omega)
   have p2:=abk s .i64 (k+1) (by omega)
   have e3:=ajp (s.drop (k+1)) (by simp; omega)
   have e4:=acg n (s.take k) (I8 (s.drop (k+1))) (by omega) (by simp; omega) (by simp [I8]; omega)
   by_cases h:G4 n (s.take k) (I8 (s.drop (k+1)))=true
   ·rw [h] at e4
    rw [if_pos h]
    simp only [b8,e1,p1,e2,p2,e3,st,ld,e4,List.length_nil,List.nil_append,show ¬ ((k:Int)<0) from by omega]
    exact j9.here rfl
   ·have h':G4 n (s.take k) (I8 (s.drop (k+1)))=false:=by simpa using h
    rw [h'] at e4
    rw [if_neg h]
    simp only [b8,e1,p1,e2,p2,e3,st,ld,e4,List.length_nil,List.nil_append,show ¬ ((k:Int)<0) from by omega]
    exact j9.here rfl
theorem awA (o:Bool) (ws:List Bs) (sep:Bs) (H:VH) (h1:ws.length<=1000000) (h2:(D1 sep ws).length<=1000000000):cv aeN [.sl o (vT ws),.str sep] H=some (.str (D1 sep ws),H):=by
 show K3 vb _ _ _=_
 rw [aqY vb _ _ _ (g:=akU) rfl]
 have e:ac0 (vT ws)=some ws:=amo ws
 simp only [akU,e,Option.bind_some]
 rw [if_pos ⟨by omega,by omega⟩]
def L8 (l:List Bs):Nat:=(l.map fun t=>t.length+1).sum
theorem agL (a b:List Bs):L8 (a++b)=L8 a+L8 b:=by simp [L8]
theorem afk {s:Bs} {i:Nat} {ap:Bool} {acc ws:List Bs} (h:F4 s i ap acc=some ws):L8 ws<=L8 acc+2*(s.length-i):=by
 rw [F4] at h
 split at h
 ·rename_i hi
  split at h
  ·have:=afk h; omega
  ·split at h
   ·cases h
   ·split at h
    ·split at h
     ·cases h
     ·rename_i r hr
      have h1:=agb (t:=r.1) (k:=r.2) hr
      rw [List.length_drop] at h1
      have:=afk h
      rw [agL] at this
      have e:L8 [r.1]=r.1.length+1:=by simp [L8]
      omega
    ·split at h
     ·cases h
     ·rename_i hk
      have hge:=adR (s:=s) (i:=i)
      have:=afk h
      rw [agL] at this
      have e:L8 [(s.drop i).take (E8 s i-i)]=E8 s i-i+1:=by
       have:=hge.2 (by omega)
       simp [L8]; omega
      have:=hge.2 (by omega)
      omega
 ·cases h; omega
termination_by s.length-i
decreasing_by
 ·omega
 ·omega
 ·have:=adR (s:=s) (i:=i); omega
theorem ae8:∀ ws:List Bs,(D1 [32] ws).length<=L8 ws
 | []=>by simp [D1,L8]
 | [a]=>by simp [D1,L8]
 | a::b::l=>by
   have:=ae8 (b::l)
   simp only [D1,List.length_append,List.length_cons,List.length_nil]
   have e:L8 (a::b::l)=a.length+1+L8 (b::l):=by simp [L8]
   omega
theorem ajm:∀ ws:List Bs,ws.length<=L8 ws
 | []=>by simp
 | a::l=>by
   have:=ajm l
   have e:L8 (a::l)=a.length+1+L8 l:=by simp [L8]
   simp only [List.length_cons]; omega
def S4 (s:Bs):Option (Bs × Bs × Bs) :=
 if C2 s=false then none else
 match B4 60 (w9 s) 0 with
 | none=>abP [] (w9 s)
 | some k=>match F4 ((w9 s).take k) 0 true [] with
   | none=>none
   | some ws=>if ((w9 s).drop (k+1)).getLast? = some 62 then abP (D1 [32] ws) (((w9 s).drop (k+1)).take (((w9 s).drop (k+1)).length-1)) else none
section
variable {s:Bs} {k:Nat} {ws:List Bs}
theorem an5 (h:C2 s=false):S4 s=none:=by unfold S4; rw [if_pos h]
theorem anZ (h:C2 s=true) (h2:B4 60 (w9 s) 0=none):S4 s=abP [] (w9 s):=by
 unfold S4; rw [if_neg (by rw [h]; decide),h2]
theorem alP (h:C2 s=true) (h2:B4 60 (w9 s) 0=some k) (h3:F4 ((w9 s).take k) 0 true []=none):S4 s=none:=by
 unfold S4; rw [if_neg (by rw [h]; decide),h2]; simp only [h3]
theorem alD (h:C2 s=true) (h2:B4 60 (w9 s) 0=some k) (h3:F4 ((w9 s).take k) 0 true []=some ws):S4 s=if ((w9 s).drop (k+1)).getLast? = some 62 then abP (D1 [32] ws) (((w9 s).drop (k+1)).take (((w9 s).drop (k+1)).length-1)) else none:=by
 unfold S4; rw [if_neg (by rw [h]; decide),h2]; simp only [h3]
end
theorem aur (o:Option (Bs × Bs × Bs)):∃ a b c:Bs,∃ ok:Bool,X2 o=[.agg [.str a,.str b,.str c],.bool ok]:=by
 cases o with
 | none=>exact ⟨[],[],[],false,rfl⟩
 | some x=>exact ⟨x.1,x.2.1,x.2.2,true,rfl⟩
set_option maxRecDepth 100000 in
theorem afW (s:Bs) (hs:s.length<=1000000):pc K9 [.str s]=some (.o7 (X2 (S4 s))):=by
 have e0:=acN s (by omega)
 suffices h:j9 (cv K9 [.str s] []) fun r=>r.1 = .o7 (X2 (S4 s)) by
  obtain ⟨⟨v,H⟩,e,h⟩:=h
  have h:v=_:=h
  subst h
  refine acD e (by simp only [b8]) ?_
  cases S4 s<;>simp only [X2,b8]
 rw [agj]
 by_cases ht:C2 s=true
 ·have h200:=aje ht
  have e1:=atJ s (by omega)
  have hT:C2 (w9 s)=true:=anj ht (asJ s) (ahD s)
  have hTl:=ahD s
  rw [ht] at e0
  have e2:qc K6 [.str (w9 s),.int .u8 60]=_:=amF (w9 s) 60 (by omega)
  cases hq:B4 60 (w9 s) 0 with
  | none =>
    rw [anZ ht hq]
    rw [hq] at e2
    simp only [ouI] at e2
    have e3:=akX [] (w9 s) (by simp) (by omega)
    obtain ⟨a,b,c,ok,h3⟩:=aur (abP [] (w9 s))
    rw [h3] at e3 ⊢
    simp only [b8,e0,e1,e2,e3,show ((-1:Int)<0) from by decide]
    exact j9.here rfl
  | some k =>
    have hk:=(adS hq).2
    rw [hq] at e2
    simp only [ouI] at e2
    have p1:=abO (w9 s) .i64 k (by omega)
    have e3:a8 (.int .i64) .add (.int .i64 (k:Int)) (.int .i64 1)=some (.int .i64 ((k+1:Nat):Int)):=y1 _ k 1 (by omega)
    have p2:=abk (w9 s) .i64 (k+1) (by omega)
    have e4:=aoC ((w9 s).take k) (ary hT k)
    have e5:=ao6 ((w9 s).drop (k+1)) 62 (by simp; omega)
    have hzl:((w9 s).drop (k+1)).length<=200:=by simp; omega
    cases hw:F4 ((w9 s).take k) 0 true [] with
    | none =>
      rw [alP ht hq hw]
      rw [hw] at e4
      simp only [wdX] at e4
      generalize (w9 s).drop (k+1)=z at *
      by_cases hg:z.getLast? = some 62
      ·simp only [hg,if_true,decide_true] at e5
       simp only [b8,e0,e1,e2,p1,e3,p2,e4,e5,show ¬ ((k:Int)<0) from by omega]
       exact j9.here rfl
      ·simp only [hg,if_false,decide_false] at e5
       simp only [b8,e0,e1,e2,p1,e3,p2,e4,e5,show ¬ ((k:Int)<0) from by omega]
       exact j9.here rfl
    | some ws =>
      rw [alD ht hq hw]
      rw [hw] at e4
      simp only [wdX] at e4
      have htot:=afk hw
      have htk:((w9 s).take k).length<=(w9 s).length:=by simp; omega
      have e0w:L8 ([]:List Bs)=0:=rfl
      have hj:=ae8 ws
      have hwl:=ajm ws
      generalize (w9 s).drop (k+1)=z at *
      by_cases hg:z.getLast? = some 62
      ·have e6:=fun o H=>awA o ws [32] H (by omega) (by omega)
       have e7:=akX (D1 [32] ws) (z.take (z.length-1)) (by omega) (by simp; omega)
       obtain ⟨a,b,c,ok,h3⟩:=aur (abP (D1 [32] ws) (z.take (z.length-1)))
       rw [if_pos hg]
       rw [h3] at e7 ⊢
       simp only [hg,if_true,decide_true] at e5
       simp only [b8,e0,e1,e2,p1,e3,p2,e4,e5,e6,e7,show ¬ ((k:Int)<0) from by omega]
       exact j9.here rfl
      ·rw [if_neg hg]
       simp only [hg,if_false,decide_false] at e5
       simp only [b8,e0,e1,e2,p1,e3,p2,e4,e5,show ¬ ((k:Int)<0) from by omega]
       exact j9.here rfl
 ·have ht':C2 s=false:=by simpa using ht
  rw [an5 ht']
  rw [ht'] at e0
  simp only [b8,e0]
  exact j9.here rfl
end Go.Proofs.YtpbgpeojlfdpoaaGreatDoor.Q
