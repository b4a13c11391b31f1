/- What is read of a kind, in quotes and without. -/
import Derived.Test.YtmokcpfbeggigaaGreatDoorScriptKindCh7bendZ
namespace Go.Proofs.YtmokcpfbeggigaaGreatDoor.Q
open Go Go.AM
set_option linter.unusedSimpArgs false
set_option linter.unusedVariables false
set_option linter.unusedSectionVars false
theorem ant (a s:Bs) (i:Nat):A4 (a++s) (a.length+i)=a.length+A4 s i:=by
 by_cases h:i<s.length
 ·have h':a.length+i<(a++s).length:=by simp; omega
  have hg:(a++s)[a.length+i]=s[i]:=by rw [List.getElem_append_right (by omega)]; congr 1; omega
  by_cases ha:M8 s[i].toNat=true
  ·rw [adW h' (by rw [hg]; exact ha),adW h ha,Nat.add_assoc]
   exact ant a s (i+1)
  ·rw [acr h' (by rw [hg]; exact ha),acr h ha]
 ·rw [aef (by simp; omega),aef h]
termination_by s.length-i
theorem aeR (a s:Bs) (i:Nat) (ap:Bool) (acc:List Bs):B3 (a++s) (a.length+i) ap acc=B3 s i ap acc:=by
 have hat:∀ i,A4 (a++s) (a.length+i)=a.length+A4 s i:=fun i=>ant a s i
 by_cases h:i<s.length
 ·have h':a.length+i<(a++s).length:=by simp; omega
  have hg:(a++s)[a.length+i]=s[i]:=by rw [List.getElem_append_right (by omega)]; congr 1; omega
  have hd:∀ j,(a++s).drop (a.length+j)=s.drop j:=fun j=>by rw [List.drop_append]; simp
  have hd1:(a++s).drop (a.length+i+1)=s.drop (i+1):=by rw [Nat.add_assoc]; exact hd _
  by_cases h1:s[i]=32
  ·rw [P7 h' (by rw [hg]; exact h1),P7 h h1,Nat.add_assoc]
   exact aeR a s (i+1) true acc
  ·cases ap with
   | false=>rw [abA h' (by rw [hg]; exact h1),abA h h1]
   | true =>
     by_cases h2:s[i]=34
     ·cases hq:qR (s.drop (i+1)) with
      | none=>rw [afK h' (by rw [hg]; exact h2) (by rw [hd1]; exact hq),afK h h2 hq]
      | some r =>
        rw [afz h' (by rw [hg]; exact h2) (by rw [hd1]; exact hq),afz h h2 hq,show a.length+i+1+r.2=a.length+(i+1+r.2) by omega]
        exact aeR a s (i+1+r.2) false _
     ·by_cases h3:A4 s i=i
      ·rw [agd h' (by rw [hg]; exact h1) (by rw [hg]; exact h2) (by rw [hat,h3]),agd h h1 h2 h3]
      ·have:=abI (s:=s) (i:=i)
       rw [afq h' (by rw [hg]; exact h1) (by rw [hg]; exact h2) (by rw [hat]; omega),afq h h1 h2 h3,hat,hd,show a.length+A4 s i-(a.length+i)=A4 s i-i by omega]
       exact aeR a s (A4 s i) false _
 ·rw [aaJ (by simp; omega),aaJ h]
termination_by s.length-i
theorem ajZ:∀ (s:Bs),qR (s++[32])=qR s
 | []=>rfl
 | [b]=>by
   by_cases h1:b=34
   ·subst h1; rfl
   ·by_cases h2:b=92
    ·subst h2; rfl
    ·simp only [List.cons_append,List.nil_append,qR,if_neg h1,if_neg h2,Option.map_none,show ¬ ((32:UInt8)=34) from by decide,show ¬ ((32:UInt8)=92) from by decide,if_false]
 | b::d::l=>by
   have i1:=ajZ (d::l)
   have i2:=ajZ l
   simp only [List.cons_append] at i1 ⊢
   by_cases h1:b=34
   ·subst h1; simp only [qR,if_true]
   ·by_cases h2:b=92
    ·subst h2
     simp only [qR,show ¬ ((92:UInt8)=34) from by decide,if_false,if_true,i2]
    ·simp only [qR,if_neg h1,if_neg h2] at i1 ⊢
     rw [i1]
theorem am3 (s:Bs) (i:Nat) (hi:i<=s.length):A4 (s++[32]) i=A4 s i:=by
 by_cases h:i<s.length
 ·have h':i<(s++[32]).length:=by simp; omega
  have hg:(s++[(32:UInt8)])[i]=s[i]:=List.getElem_append_left h
  by_cases ha:M8 s[i].toNat=true
  ·rw [adW h' (by rw [hg]; exact ha),adW h ha]
   exact am3 s (i+1) (by omega)
  ·rw [acr h' (by rw [hg]; exact ha),acr h ha]
 ·have:i=s.length:=by omega
  subst this
  rw [acr (by simp) (by rw [List.getElem_concat_length rfl]; decide),aef h]
termination_by s.length-i
theorem ae4 (s:Bs) (i:Nat) (hi:i<=s.length) (ap:Bool) (acc:List Bs):B3 (s++[32]) i ap acc=B3 s i ap acc:=by
 by_cases h:i<s.length
 ·have h':i<(s++[32]).length:=by simp; omega
  have hg:(s++[(32:UInt8)])[i]=s[i]:=List.getElem_append_left h
  have hd:qR ((s++[32]).drop (i+1))=qR (s.drop (i+1)):=by
   rw [List.drop_append,show i+1-s.length=0 by omega,List.drop_zero]; exact ajZ _
  by_cases h1:s[i]=32
  ·rw [P7 h' (by rw [hg]; exact h1),P7 h h1]
   exact ae4 s (i+1) (by omega) true acc
  ·cases ap with
   | false=>rw [abA h' (by rw [hg]; exact h1),abA h h1]
   | true =>
     by_cases h2:s[i]=34
     ·cases hq:qR (s.drop (i+1)) with
      | none=>rw [afK h' (by rw [hg]; exact h2) (by rw [hd]; exact hq),afK h h2 hq]
      | some r =>
        have hr:=afb (t:=r.1) (k:=r.2) hq
        rw [List.length_drop] at hr
        rw [afz h' (by rw [hg]; exact h2) (by rw [hd]; exact hq),afz h h2 hq]
        exact ae4 s (i+1+r.2) (by omega) false _
     ·have hat:=am3 s i hi
      by_cases h3:A4 s i=i
      ·rw [agd h' (by rw [hg]; exact h1) (by rw [hg]; exact h2) (by rw [hat,h3]),agd h h1 h2 h3]
      ·have:=abI (s:=s) (i:=i)
       have ht:((s++[32]).drop i).take (A4 s i-i)=(s.drop i).take (A4 s i-i):=by
        rw [List.drop_append,show i-s.length=0 by omega,List.drop_zero,List.take_append_of_le_length (by simp; omega)]
       rw [afq h' (by rw [hg]; exact h1) (by rw [hg]; exact h2) (by rw [hat]; exact h3),afq h h1 h2 h3,hat,ht]
       exact ae4 s (A4 s i) (by omega) false _
 ·have:i=s.length:=by omega
  subst this
  rw [aaJ h,P7 (by simp) (by rw [List.getElem_concat_length rfl]),aaJ (by simp)]
termination_by s.length-i
theorem ahN:∀ (s:Bs),B3 (L0 32 s) 0 true []=B3 s 0 true []:=fun s=>by
 rcases List.eq_nil_or_concat s with rfl | ⟨l,b,rfl⟩
 ·rfl
 ·simp only [List.concat_eq_append]
  by_cases h:b=32
  ·subst h
   rw [aen,ae4 l 0 (by omega)]
   exact ahN l
  ·rw [ac3 h]
termination_by s=>s.length
decreasing_by rename_i hq; rw [hq]; simp
theorem anr:∀ (s:Bs),B3 (D1 32 s) 0 true []=B3 s 0 true []
 | []=>rfl
 | b::l=>by
   by_cases h:b=32
   ·subst h
    have h1:D1 32 ((32:UInt8)::l)=D1 32 l:=by simp [D1]
    rw [h1,anr l,P7 (s:=32::l) (by simp) rfl]
    exact (aeR [32] l 0 true []).symm
   ·have h1:D1 32 (b::l)=b::l:=by simp [D1,h]
    rw [h1]
theorem arK (s:Bs):B3 (l7 s) 0 true []=B3 s 0 true []:=by
 unfold l7; rw [anr,ahN]
theorem apa (c:UInt8):∀ s:Bs,D1 c (D1 c s)=D1 c s
 | []=>rfl
 | b::l=>by
   by_cases h:b=c
   ·simp only [D1,if_pos h]; exact apa c l
   ·simp only [D1,if_neg h]
theorem al8 {b:UInt8} (h:b ≠ 32):∀ s:Bs,b ∈ D1 32 s<->b ∈ s
 | []=>Iff.rfl
 | d::l=>by
   by_cases hd:d=32
   ·subst hd
    simp only [D1,if_true,al8 h l,List.mem_cons,h,false_or]
   ·simp only [D1,if_neg hd]
theorem aqN {b:UInt8} (h:b ≠ 32) (s:Bs):b ∈ L0 32 s<->b ∈ s:=by
 rcases List.eq_nil_or_concat s with rfl | ⟨l,d,rfl⟩
 ·exact Iff.rfl
 ·simp only [List.concat_eq_append]
  by_cases hd:d=32
  ·subst hd
   rw [aen,aqN h l]
   simp [h]
  ·rw [ac3 hd]
termination_by s.length
decreasing_by rename_i hq; rw [hq]; simp
theorem anm {b:UInt8} (h:b ≠ 32) (s:Bs):b ∈ l7 s<->b ∈ s:=by unfold l7; rw [al8 h,aqN h]
theorem aqq {c:UInt8} (h:c ≠ 32) (A Z:Bs):L0 32 (A++c::Z)=A++c::L0 32 Z:=by
 rcases List.eq_nil_or_concat Z with rfl | ⟨l,d,rfl⟩
 ·rw [ac3 h]; rfl
 ·simp only [List.concat_eq_append]
  by_cases hd:d=32
  ·subst hd
   rw [aen,<-aqq h A l,<-aen 32 (A++c::l)]
   congr 1
   simp
  ·rw [ac3 hd,<-List.cons_append,<-List.append_assoc,ac3 hd]
termination_by Z.length
decreasing_by rename_i hq; rw [hq]; simp
theorem aqs {c:UInt8} (h:c ≠ 32) (Z:Bs):∀ (A:Bs),D1 32 (A++c::Z)=D1 32 A++c::Z
 | []=>by simp [D1,h]
 | d::A=>by
   by_cases hd:d=32
   ·subst hd
    simp only [List.cons_append,D1,if_true]; exact aqs h Z A
   ·simp only [List.cons_append,D1,if_neg hd]
theorem auE {c:UInt8} (h:c ≠ 32) (A Z:Bs):l7 (A++c::Z)=D1 32 A++c::L0 32 Z:=by
 unfold l7; rw [aqq h,aqs h]
theorem asB {c:UInt8} {s:Bs} (h:c ∈ s):s=C3 c s++c::H7 c s/\c ∉ C3 c s:=by
 unfold C3 H7
 rw [if_pos h,if_pos h]
 have hl:=List.idxOf_lt_length_of_mem h
 have hg:s[s.idxOf c]=c:=List.getElem_idxOf hl
 constructor
 ·conv=>lhs; rw [<-List.take_append_drop (s.idxOf c) s]
  rw [List.drop_eq_getElem_cons hl,hg]
 ·intro hm
  obtain ⟨i,hi,he⟩:=List.getElem_of_mem hm
  rw [List.getElem_take] at he
  rw [List.length_take] at hi
  have:=List.not_of_lt_findIdx (p:=(·==c)) (xs:=s) (i:=i) (by simpa [List.idxOf] using (by omega:i<s.idxOf c))
  simp [he] at this
theorem afv {c:UInt8} {s:Bs} {i k:Nat} (h:y5 c s i=some k):c ∈ s/\s[k]? = some c:=by
 rw [y5] at h
 split at h
 ·rename_i hi
  split at h
  ·split at h
   ·cases h
   ·exact afv h
  ·split at h
   ·rename_i hc
    cases h
    exact ⟨hc ▸ List.getElem_mem hi,by rw [List.getElem?_eq_getElem hi,hc]⟩
   ·exact afv h
 ·cases h
termination_by s.length-i
theorem aoJ {c:UInt8} {A Z:Bs} (hc:c ≠ 34) (h1:c ∉ A) (h2:34 ∉ A):y5 c (A++c::Z) 0=some A.length:=by
 rw [ar6 (c::Z) (fun b hb=>⟨fun e=>h2 (by rw [<-e]; exact hb),fun e=>h1 (by rw [<-e]; exact hb)⟩),@afU c (c::Z) 0 (by simp) hc rfl]
 simp
theorem ao1 {c:UInt8} {A Z:Bs} {k:Nat} (h1:c ∉ A) (h:y5 c (A++c::Z) 0=some k):A.length<=k:=by
 have hk:=(afv h).2
 refine Nat.le_of_not_lt fun hlt=>h1 ?_
 rw [List.getElem?_append_left hlt] at hk
 exact List.mem_of_getElem? hk
theorem alP {s:Bs} (h:(34:UInt8) ∈ s):N3 (m7 s)=false:=by
 have h1:(34:UInt8) ∈ m7 s:=List.mem_map.2 ⟨34,h,by decide⟩
 unfold N3 S7
 have:(m7 s).all (fun b=>nmB b.toNat)=false:=by
  rw [List.all_eq_false]
  exact ⟨34,h1,by decide⟩
 rw [this]; simp
def ab7 (p:Bs):Option F2:=match y5 61 (l7 p) 0 with
 | none=>none
 | some k=>match B3 (l7 ((l7 p).drop (k+1))) 0 true [] with | some [w]=>some (m7 (l7 ((l7 p).take k)),w) | _=>none
def arv (o:Option F2):Prop:=∀ x,o=some x->N3 x.1=false
theorem awy (p:Bs):ab7 p=aba p\/arv (aba p)/\arv (ab7 p):=by
 by_cases h:(61:UInt8) ∈ p
 ·obtain ⟨e,hn⟩:=asB h
  have hT:l7 p=D1 32 (C3 61 p)++61::L0 32 (H7 61 p):=by
   conv=>lhs; rw [e]
   exact auE (by decide) _ _
  have hn':(61:UInt8) ∉ D1 32 (C3 61 p):=fun hm=>hn (aiJ _ _ _ hm)
  by_cases h2:(34:UInt8) ∈ C3 61 p
  ·right
   constructor
   ·intro x hx
    unfold aba at hx
    rw [if_pos h] at hx
    split at hx
    ·cases hx
     exact alP ((anm (by decide) _).2 h2)
    ·cases hx
   ·intro x hx
    unfold ab7 at hx
    split at hx
    ·cases hx
    ·rename_i k hk
     split at hx
     ·cases hx
      refine alP ((anm (by decide) _).2 ?_)
      rw [hT] at hk ⊢
      have hf:=ao1 hn' hk
      rw [List.take_append,List.take_of_length_le hf]
      exact List.mem_append_left _ ((al8 (by decide) _).2 h2)
     ·cases hx
  ·left
   have hk:y5 61 (l7 p) 0=some (D1 32 (C3 61 p)).length:=by
    rw [hT]
    exact aoJ (by decide) hn' (fun hm=>h2 (aiJ _ _ _ hm))
   have t1:(l7 p).take (D1 32 (C3 61 p)).length=D1 32 (C3 61 p):=by rw [hT,List.take_left]
   have t2:(l7 p).drop ((D1 32 (C3 61 p)).length+1)=L0 32 (H7 61 p):=by
    rw [hT,List.drop_append,List.drop_of_length_le (by omega),Nat.add_sub_cancel_left]; rfl
   have t3:l7 (D1 32 (C3 61 p))=l7 (C3 61 p):=by
    unfold l7; rw [aiU,apa,aiU]
   have t4:B3 (l7 (L0 32 (H7 61 p))) 0 true []=B3 (H7 61 p) 0 true []:=by rw [arK,ahN]
   unfold ab7 aba
   rw [hk,if_pos h]
   simp only [t1,t2,t3,t4]
   rfl
 ·left
  unfold ab7 aba
  rw [if_neg h]
  split
  ·rfl
  ·rename_i k hk
   exact absurd (atm _ _ (afv hk).1) h
def K1:List Bs->Option (List F2)
 | []=>some []
 | p::l=>match ab7 p with | none=>none | some x=>match K1 l with | none=>none | some xs=>some (x::xs)
def ahE (o:Option (List F2)):Prop:=∀ xs,o=some xs->∃ x ∈ xs,N3 x.1=false
theorem aum {p:Bs} {l:List Bs} (h:arv (aba p)):ahE (B7 (p::l)):=by
 intro xs hx
 unfold B7 at hx
 split at hx
 ·cases hx
 ·rename_i x hp
  split at hx
  ·cases hx
  ·cases hx; exact ⟨x,by simp,h x hp⟩
theorem auv {p:Bs} {l:List Bs} (h:arv (ab7 p)):ahE (K1 (p::l)):=by
 intro xs hx
 unfold K1 at hx
 split at hx
 ·cases hx
 ·rename_i x hp
  split at hx
  ·cases hx
  ·cases hx; exact ⟨x,by simp,h x hp⟩
theorem at1 {p:Bs} {l:List Bs} (h:ahE (B7 l)):ahE (B7 (p::l)):=by
 intro xs hx
 unfold B7 at hx
 split at hx
 ·cases hx
 ·split at hx
  ·cases hx
  ·rename_i ys hy
   cases hx
   obtain ⟨x,h1,h2⟩:=h ys hy
   exact ⟨x,by simp [h1],h2⟩
theorem aua {p:Bs} {l:List Bs} (h:ahE (K1 l)):ahE (K1 (p::l)):=by
 intro xs hx
 unfold K1 at hx
 split at hx
 ·cases hx
 ·split at hx
  ·cases hx
  ·rename_i ys hy
   cases hx
   obtain ⟨x,h1,h2⟩:=h ys hy
   exact ⟨x,by simp [h1],h2⟩
theorem an1:∀ l:List Bs,K1 l=B7 l\/ahE (B7 l)/\ahE (K1 l)
 | [] => .inl rfl
 | p::l=>by
   rcases awy p with h | ⟨h1,h2⟩
   ·rcases an1 l with g | ⟨g1,g2⟩
    ·left; unfold K1 B7; rw [h,g]; rfl
    ·exact .inr ⟨at1 g1,aua g2⟩
   ·exact .inr ⟨aum h1,auv h2⟩
theorem auc {M S:Bs} {ps:List F2} (h:∃ x ∈ ps,N3 x.1=false):L9 M S ps=false:=by
 obtain ⟨x,hx,hs⟩:=h
 obtain ⟨i,hi,rfl⟩:=List.getElem_of_mem hx
 have:(List.range ps.length).all (X4 ps)=false:=by
  rw [List.all_eq_false]
  refine ⟨i,by simpa using hi,?_⟩
  unfold X4
  rw [List.getElem?_eq_getElem hi]
  simp [hs]
 unfold L9
 rw [this]; simp
theorem amV {M S:Bs} {ps:List F2} (h:N3 M=false):L9 M S ps=false:=by unfold L9; rw [h]; rfl
def aht (s:Bs):Option Knd:=if u7 s=false then none else match Q8 59 s with
 | []=>none
 | p::r=>match K1 r with
   | none=>none
   | some ps=>match y5 47 (l7 p) 0 with
     | none=>none
     | some k=>if L9 (m7 ((l7 p).take k)) (m7 ((l7 p).drop (k+1))) ps=true then some (m7 ((l7 p).take k),m7 ((l7 p).drop (k+1)),ps) else none
def hdP (T:Bs) (ps:List F2):Option Knd:=if (47:UInt8) ∈ T/\L9 (m7 (C3 47 T)) (m7 (H7 47 T)) ps=true then some (m7 (C3 47 T),m7 (H7 47 T),ps) else none
def hdQ (T:Bs) (ps:List F2):Option Knd:=match y5 47 T 0 with
 | none=>none
 | some k=>if L9 (m7 (T.take k)) (m7 (T.drop (k+1))) ps=true then some (m7 (T.take k),m7 (T.drop (k+1)),ps) else none
theorem avP (T:Bs) (ps:List F2):hdQ T ps=hdP T ps:=by
 unfold hdP hdQ
 by_cases h:(47:UInt8) ∈ T
 ·obtain ⟨e,hn⟩:=asB h
  by_cases h2:(34:UInt8) ∈ C3 47 T
  ·have hb:L9 (m7 (C3 47 T)) (m7 (H7 47 T)) ps=false:=amV (alP h2)
   rw [if_neg (fun q=>by rw [hb] at q; cases q.2)]
   split
   ·rfl
   ·rename_i k hk
    rw [e] at hk
    have hf:=ao1 hn hk
    have hm:(34:UInt8) ∈ T.take k:=by
     rw [e,List.take_append,List.take_of_length_le hf]
     exact List.mem_append_left _ h2
    have hb2:L9 (m7 (T.take k)) (m7 (T.drop (k+1))) ps=false:=amV (alP hm)
    rw [if_neg (by rw [hb2]; decide)]
  ·have hk:y5 47 T 0=some (C3 47 T).length:=by
    conv=>lhs; rw [e]
    exact aoJ (by decide) hn h2
   have t1:T.take (C3 47 T).length=C3 47 T:=by
    conv=>lhs; arg 2; rw [e]
    rw [List.take_left]
   have t2:T.drop ((C3 47 T).length+1)=H7 47 T:=by
    conv=>lhs; arg 2; rw [e]
    rw [List.drop_append,List.drop_of_length_le (by omega),Nat.add_sub_cancel_left]; rfl
   rw [hk]
   simp only [t1,t2,h,true_and]
 ·rw [if_neg (fun q=>h q.1)]
  split
  ·rfl
  ·rename_i k hk
   exact absurd (afv hk).1 h
theorem aqY {T:Bs} {ps:List F2} (h:∃ x ∈ ps,N3 x.1=false):hdP T ps=none:=by
 unfold hdP; rw [if_neg (fun q=>by rw [auc h] at q; cases q.2)]
theorem awz (s:Bs):aht s=Y4 s:=by
 unfold aht Y4
 by_cases ht:u7 s=false
 ·rw [if_pos ht,if_pos ht]
 ·rw [if_neg ht,if_neg ht]
  cases Q8 59 s with
  | nil=>rfl
  | cons p r =>
    show (match K1 r with | none=>none | some ps=>hdQ (l7 p) ps)=(match B7 r with | none=>none | some ps=>hdP (l7 p) ps)
    rcases an1 r with h | ⟨h1,h2⟩
    ·rw [h]
     cases B7 r with
     | none=>rfl
     | some ps=>exact avP _ _
    ·have a1:(match B7 r with | none=>none | some ps=>hdP (l7 p) ps)=none:=by
      split
      ·rfl
      ·rename_i ps hps; exact aqY (h1 ps hps)
     have a2:(match K1 r with | none=>none | some ps=>hdQ (l7 p) ps)=none:=by
      split
      ·rfl
      ·rename_i ps hps; rw [avP]; exact aqY (h2 ps hps)
     rw [a1,a2]
end Go.Proofs.YtmokcpfbeggigaaGreatDoor.Q
