/- Contracts: addresses, as the specification reads and writes them. -/
import Derived.Test.YtmokcpfbeggigaaGreatDoorScriptListCh3kindZ
namespace Go.Proofs.YtmokcpfbeggigaaGreatDoor.Q
open Go Go.AM
set_option linter.unusedSimpArgs false
set_option linter.unusedVariables false
set_option linter.unusedSectionVars false
theorem akL (sep:Bs) (a:Bs):∀ l:List Bs,J2 sep (l++[a])=if l=[] then a else J2 sep l++sep++a
 | []=>rfl
 | [b]=>by simp [J2]
 | b::c::l=>by
   have ih:=akL sep a (c::l)
   simp only [List.cons_append,J2,reduceCtorEq,if_false] at ih ⊢
   rw [ih]
   simp only [List.append_assoc]
theorem atg (s:Bs) (hs:s.length<=1000000):qc aas [.str s]=some (.str (P9 s)):=by
 suffices h:l3 (cv aas [.str s] []) fun r=>r.1 = .str (P9 s) by
  obtain ⟨⟨v,H⟩,e,h⟩:=h
  have h:v=_:=h
  subst h
  exact y1 e (by simp only [b8]) rfl
 rw [akH]
 refine l3.V3 (I:=fun n st H=>∃ (i:Nat),n=s.length-i/\i<=s.length/\st=[.str s,.str (quI s i),.int .i64 (i:Nat)])
  (P:=fun q vs H=>q=0/\vs=[.str (quI s s.length)]) (n:=s.length) ?_ ⟨0,by omega,by omega,rfl⟩ ?_
 ·rintro n st H ⟨i,rfl,hi,rfl⟩
  rw [ahl]
  have hAl:=aiu s i
  by_cases hlt:i<s.length
  ·have i1:=N8 s .i64 i hlt
   have h34 := @adX s[i] 34 (by omega)
   have h92 := @adX s[i] 92 (by omega)
   have e2:a8 (.int .i64) .add (.int .i64 (i:Int)) (.int .i64 1)=some (.int .i64 ((i+1:Nat):Int)):=y4 _ i 1 (by omega)
   have b1:abm (.sl true [[.int .u8 92]]) H=some (.str [92]):=by
    have:([[V.int .u8 92]]:List (List V))=vB [92]:=rfl
    rw [this]; simp only [abm,afP,Option.map_some]
   have p1:=ari s .i64 .i64 i (i+1) (by omega) (by omega)
   have hp:(s.drop i).take (i+1-i)=[s[i]]:=by
    rw [show i+1-i=1 by omega,List.drop_eq_getElem_cons hlt]; rfl
   rw [hp] at p1
   have a1:=J0 .str (quI s i) [92] (by simp; omega)
   have a2:=J0 .str (quI s i++[92]) [s[i]] (by simp; omega)
   have a3:=J0 .str (quI s i) [s[i]] (by simp; omega)
   by_cases h1:(s[i].toNat:Int)=34
   ·have hes:K4 s[i]=[92,s[i]]:=by unfold K4; rw [if_pos (.inl (h34.1 h1))]
    simp only [b8,i1,h1,b1,p1,a1,a2,e2,show ((i:Int)<(s.length:Int)) from by omega]
    exact ⟨_,rfl,.inr ⟨rfl,s.length-(i+1),by omega,i+1,rfl,by omega,by rw [acL hlt,hes]; simp⟩⟩
   ·by_cases h2:(s[i].toNat:Int)=92
    ·have hes:K4 s[i]=[92,s[i]]:=by unfold K4; rw [if_pos (.inr (h92.1 h2))]
     simp only [b8,i1,h1,h2,b1,p1,a1,a2,e2,show ¬ ((92:Int)=34) from by decide,show ((i:Int)<(s.length:Int)) from by omega]
     exact ⟨_,rfl,.inr ⟨rfl,s.length-(i+1),by omega,i+1,rfl,by omega,by rw [acL hlt,hes]; simp⟩⟩
    ·have hes:K4 s[i]=[s[i]]:=by unfold K4; rw [if_neg (fun h=>h.elim (fun e=>h1 (h34.2 e)) (fun e=>h2 (h92.2 e)))]
     simp only [b8,i1,h1,h2,p1,a3,e2,show ((i:Int)<(s.length:Int)) from by omega]
     exact ⟨_,rfl,.inr ⟨rfl,s.length-(i+1),by omega,i+1,rfl,by omega,by rw [acL hlt,hes]⟩⟩
  ·have he:i=s.length:=by omega
   subst he
   simp only [b8,show ¬ ((s.length:Int)<(s.length:Int)) from by omega]
   exact ⟨_,rfl,.inl ⟨0,rfl,rfl,rfl⟩⟩
 rintro _ _ H ⟨rfl,rfl⟩
 have hel:=aiu s s.length
 have a1:=J0 .str (quI s s.length) [34] (by simp; omega)
 rw [ap8] at a1
 simp only [b8,a1]
 exact l3.here rfl
theorem ajS (s:Bs) (hs:s.length<=1000000):qc abk [.str s]=some (.str (D8 s)):=by
 have e0:=aeL s (by omega)
 have e1:=aeQ s (by omega)
 have e2:=atg s hs
 refine y1 (H:=[]) ?_ (by simp only [b8]) rfl
 show cv _ _ _=_
 rw [ajg]
 unfold D8
 by_cases ht:A9 s=true
 ·rw [ht] at e0
  by_cases ha:N7 s=true
  ·rw [ha] at e1
   simp only [b8,e0,e1,ht,ha]
   try simp
  ·have ha':N7 s=false:=by simpa using ha
   rw [ha'] at e1
   simp only [b8,e0,e1,e2,ht,ha']
   try simp
 ·have ht':A9 s=false:=by simpa using ht
  rw [ht'] at e0
  simp only [b8,e0,ht']
  try simp
theorem agv (a:Bs × Bs × Bs) (hn:a.1.length<=400000) (hl:a.2.1.length<=4000000) (hd:a.2.2.length<=4000000):qc Y2 [.agg [.str a.1,.str a.2.1,.str a.2.2]]=some (.str (B2 a)):=by
 obtain ⟨n,l,d⟩:=a
 simp only at hn hl hd
 have e1:=acE n l d (by omega) hl hd
 have e2:=ajS n (by omega)
 refine y1 (H:=[]) ?_ (by simp only [b8]) rfl
 show cv _ _ _=_
 rw [agk]
 unfold B2
 by_cases h:H8 n l d=true
 ·have hl:=afa h
  have hq:=akj n
  rw [h] at e1
  have a1:=J0 .str l [64] (by simp; omega)
  have a2:=J0 .str (l++[64]) d (by simp; omega)
  by_cases h0:n=[]
  ·subst h0
   simp only [b8,e1,a1,a2,h]
   try simp
  ·have a3:=J0 .str (D8 n) [32,60] (by simp; omega)
   have a4:=J0 .str (D8 n++[32,60]) (l++[64]++d) (by simp; omega)
   have a5:=J0 .str (D8 n++[32,60]++(l++[64]++d)) [62] (by simp; omega)
   simp only [b8,e1,h0,e2,a1,a2,a3,a4,a5,h]
   try simp
 ·have h':H8 n l d=false:=by simpa using h
  rw [h'] at e1
  simp only [b8,e1,h']
  try simp
end Go.Proofs.YtmokcpfbeggigaaGreatDoor.Q
