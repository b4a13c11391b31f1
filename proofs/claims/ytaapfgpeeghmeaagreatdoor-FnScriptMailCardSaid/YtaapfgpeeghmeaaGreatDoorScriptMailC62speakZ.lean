/- Contracts: mails spoken as lines. -/
import Derived.Test.YtaapfgpeeghmeaaGreatDoorScriptMailC60hopsZ
namespace Go.Proofs.YtaapfgpeeghmeaaGreatDoor.Q
open Go Go.AM
set_option linter.unusedSimpArgs false
set_option linter.unusedVariables false
set_option linter.unusedSectionVars false
def A5 (l:Bs):Bs:=if agH l [46]=true then 46::l else l
def Y3 (t:Bs):Bs:=[82,67,80,84,32,84,79,58,60]++t++[62]
def aah (f:Bs):Bs:=[77,65,73,76,32,70,82,79,77,58,60]++f++[62]
def K3 (m:l9):List Bs:=[aah m.from_]++m.to.map Y3++[[68,65,84,65]]
def L4 (m:l9):Bool:=D6 m 1 30 && !(m.lines.any fun l => !A6 (A5 l))
def D2 (m:l9):List Bs:=if L4 m=true then K3 m++m.lines.map A5++[[46]] else []
theorem aj5 (l:Bs):(A5 l).length<=l.length+1:=by unfold A5; split<;>simp
theorem aED {p:Int->Bool} {s:Bs} (h:∀ b ∈ s,p b.toNat=false):(s.any fun b=>p b.toNat)=false:=by
 rw [List.any_eq_false]; intro b hb; simp [h b hb]
theorem aAL {s:Bs} (h:ac8 s=true):(∀ b ∈ s,wrB b.toNat=false)/\s.length<=30:=by
 simp only [ac8,Bool.and_eq_true,Bool.not_eq_true',List.any_eq_false,decide_eq_true_eq] at h
 refine ⟨fun b hb=>?_,h.1⟩
 rcases ag9 46 s b hb with rfl | ⟨t,h1,h2⟩
 ·rfl
 ·have h3:aaY t=true:=by have:=h.2 t h1; simpa using this
  simp only [aaY,Bool.and_eq_true,List.all_eq_true] at h3
  have h4:=h3.2 b h2
  simp only [adG,decide_eq_true_eq] at h4
  exact decide_eq_false (by omega)
theorem azG {s:Bs} (h:V7 s=true):(∀ b ∈ s,wrB b.toNat=false)/\s.length<=40:=by
 simp only [V7,Bool.and_eq_true,Bool.not_eq_true',List.any_eq_false,decide_eq_true_eq] at h
 refine ⟨fun b hb=>?_,h.1⟩
 rcases ag9 46 s b hb with rfl | ⟨t,h1,h2⟩
 ·rfl
 ·have h3:ae3 t=true:=by have:=h.2 t h1; simpa using this
  simp only [ae3,Bool.and_eq_true,List.all_eq_true] at h3
  have h4:=h3.2 b h2
  simp only [adW,decide_eq_true_eq] at h4
  exact decide_eq_false (by omega)
theorem aeS {s:Bs} (h:G0 s=true):(∀ b ∈ s,wrB b.toNat=false)/\s.length<=71:=by
 simp only [G0,Bool.and_eq_true,decide_eq_true_eq] at h
 have hc:=akn h.1
 have h1:=aAL h.2.1
 have h2:=azG h.2.2
 constructor
 ·intro b hb
  rw [hc] at hb
  rcases List.mem_append.1 hb with hb | hb
  ·rcases List.mem_append.1 hb with hb | hb
   ·exact h1.1 b hb
   ·simp at hb; subst hb; rfl
  ·exact h2.1 b hb
 ·have:=congrArg List.length hc
  simp at this; omega
theorem aB4 {s:Bs} (h:∀ b ∈ s,wrB b.toNat=false) (hl:s.length<=200):A6 s=true:=by
 unfold A6
 rw [aED h,decide_eq_true hl]; rfl
theorem arI {a s z:Bs} (ha:(a.all fun b => !wrB b.toNat)=true) (hz:(z.all fun b => !wrB b.toNat)=true) (h:∀ b ∈ s,wrB b.toNat=false) (hl:a.length+s.length+z.length<=200):A6 (a++s++z)=true:=by
 refine aB4 (fun b hb=>?_) (by simp; omega)
 rcases List.mem_append.1 hb with hb | hb
 ·rcases List.mem_append.1 hb with hb | hb
  ·have:=List.all_eq_true.1 ha b hb; simpa using this
  ·exact h b hb
 ·have:=List.all_eq_true.1 hz b hb; simpa using this
theorem arJ {m:l9} (h:D6 m 1 30=true):((K3 m).any fun t => !A6 t)=false:=by
 simp only [D6,Bool.and_eq_true,Bool.not_eq_true',List.any_eq_false,abE,Bool.or_eq_true,decide_eq_true_eq] at h
 rw [List.any_eq_false]
 intro t ht
 have key:A6 t=true:=by
  simp only [K3,List.mem_append,List.mem_singleton,List.mem_map] at ht
  rcases ht with (rfl | ⟨p,hp,rfl⟩) | rfl
  ·rcases h.1 with h0 | h0
   ·rw [h0]; rfl
   ·have:=aeS h0
    exact arI (by decide) (by decide) this.1 (by simp; omega)
  ·have h0:G0 p=true:=by have:=h.2.2.2.1 p hp; simpa using this
   have:=aeS h0
   exact arI (by decide) (by decide) this.1 (by simp; omega)
  ·rfl
 simp [key]
theorem aDA {l k:List Bs} (h:l.length+k.length<=4000000):F8 false 1 16 (vT l) (.sl true (vT k))=some (.sl true (vT (l++k))):=by
 have:=aeZ 1 16 (vT l) true (vT k) (abc l) (abc k) (by rw [aaA,aaA]; omega)
 rw [alq] at this
 exact this
theorem abN {l:List Bs} (s:Bs) (h:l.length+1<=4000000):F8 false 1 16 (vT l) (.sl true [[.str s]])=some (.sl true (vT (l++[s]))):=aDA (k:=[s]) (by simpa using h)
theorem azD (s:Bs) (hs:s.length<=1000000000):qc afr [.str s]=some (.str (A5 s)):=by
 have e1:=ans s [46] hs
 have a1:=D9 .str [46] s (by simp; omega)
 refine y4 (H:=[]) ?_ (by simp only [c9]) rfl
 show cv _ _ _=_
 rw [ap4]
 unfold A5
 by_cases h:agH s [46]=true
 ·simp only [c9,e1,h,a1]
  try rfl
 ·simp only [c9,e1,h]
theorem alJ (s:Bs) (hs:s.length<=1000000000):qc aaN [.str s]=some (.bool (!A6 s)):=by
 have e1:=aiP s hs
 refine y4 (H:=[]) ?_ (by simp only [c9]) rfl
 show cv _ _ _=_
 rw [ak1]
 simp only [c9,e1]
theorem anP (m:l9) (h:Z7 m):∃ H,cv Z6 [.agg (cM m)] []=some (.n9 [.sl true (vT (D2 m)),.bool (L4 m)],H):=by
 have e0:=aaz m h
 simp only [K4] at e0
 have hf:=h.1
 have ht:=h.2.1.1
 have hl:=h.2.2.1
 suffices hg:j8 (cv Z6 [.agg (cM m)] []) fun r=>r.1 = .n9 [.sl true (vT (D2 m)),.bool (L4 m)] by
  obtain ⟨⟨v,H⟩,e,h⟩:=hg
  have h:v=_:=h
  subst h
  exact ⟨H,e⟩
 rw [anf]
 by_cases hv:D6 m 1 30=true
 ·have a1:=D9 .str [77,65,73,76,32,70,82,79,77,58,60] m.from_ (by simp; omega)
  have a2:=D9 .str ([77,65,73,76,32,70,82,79,77,58,60]++m.from_) [62] (by simp; omega)
  simp only [U3,Z1] at a1 a2
  simp only [c9,e0,hv,a1,a2]
  refine j8.N1 (I:=fun n st H=>∃ (i:Nat) (out:List Bs),n=m.to.length-i/\i<=m.to.length/\st=[.sl true (vT out),.sl false (vT m.to),.int .i64 (m.to.length:Nat),.int .i64 (i:Nat),.str m.from_,.sl false (vT m.to),.sl false (vT m.lines)]/\out=[aah m.from_]++(m.to.take i).map Y3)
   (P:=fun q vs H=>∃ out,q=0/\vs=[.sl true (vT out),.str m.from_,.sl false (vT m.to),.sl false (vT m.lines)]/\out=[aah m.from_]++m.to.map Y3) (n:=m.to.length) ?_ ⟨0,[aah m.from_],by omega,by omega,rfl,by simp⟩ ?_
  ·rintro n st H ⟨i,out,rfl,hi,rfl,ho⟩
   have hol:out.length=i+1:=by rw [ho]; simp; omega
   rw [aj6]
   by_cases hlt:i<m.to.length
   ·have i1:=P8 false m.to .i64 i hlt
    have hsm:=h.2.1.2 _ (List.getElem_mem hlt)
    have b1:=D9 .str [82,67,80,84,32,84,79,58,60] m.to[i] (by simp; omega)
    have b2:=D9 .str ([82,67,80,84,32,84,79,58,60]++m.to[i]) [62] (by simp; omega)
    have e2:b7 (.int .i64) .add (.int .i64 (i:Int)) (.int .i64 1)=some (.int .i64 ((i+1:Nat):Int)):=A0 _ i 1 (by omega)
    have ap:=abN (l:=out) ([82,67,80,84,32,84,79,58,60]++m.to[i]++[62]) (by omega)
    simp only [U3,Z1] at b1 b2 ap
    simp only [c9,i1,b1,b2,e2,ap,show ((i:Int)<(m.to.length:Int)) from by omega]
    refine ⟨_,rfl,.inr ⟨rfl,m.to.length-(i+1),by omega,i+1,_,rfl,by omega,rfl,?_⟩⟩
    rw [ho,List.take_succ_eq_append_getElem hlt]
    show [aah m.from_]++(m.to.take i).map Y3++[Y3 m.to[i]]=[aah m.from_]++(m.to.take i++[m.to[i]]).map Y3
    rw [List.map_append,List.append_assoc]; rfl
   ·have:i=m.to.length:=by omega
    subst this
    simp only [c9,show ¬ ((m.to.length:Int)<(m.to.length:Int)) from by omega]
    exact ⟨_,rfl,.inl ⟨0,rfl,out,rfl,rfl,by rw [ho,List.take_length]; rfl⟩⟩
  rintro _ _ H ⟨out,rfl,rfl,ho⟩
  have hol:out.length=m.to.length+1:=by rw [ho]; simp
  have ap:=abN (l:=out) [68,65,84,65] (by omega)
  simp only [c9,ap]
  refine j8.N1 (I:=fun n st H=>∃ (i:Nat) (out:List Bs),n=m.lines.length-i/\i<=m.lines.length/\st=[.sl true (vT out),.sl false (vT m.lines),.int .i64 (m.lines.length:Nat),.int .i64 (i:Nat)]/\out=K3 m++(m.lines.take i).map A5)
   (P:=fun q vs H=>∃ out,q=0/\vs=[.sl true (vT out)]/\out=K3 m++m.lines.map A5) (n:=m.lines.length) ?_ ⟨0,_,by omega,by omega,rfl,by rw [ho]; simp [K3]⟩ ?_
  ·rintro n st H ⟨i,out,rfl,hi,rfl,ho⟩
   have hol:out.length=m.to.length+2+i:=by rw [ho]; simp [K3]; omega
   rw [aiZ]
   by_cases hlt:i<m.lines.length
   ·have i1:=P8 false m.lines .i64 i hlt
    have hsm:=h.2.2.2 _ (List.getElem_mem hlt)
    have e1:=azD m.lines[i] (by omega)
    have e2:b7 (.int .i64) .add (.int .i64 (i:Int)) (.int .i64 1)=some (.int .i64 ((i+1:Nat):Int)):=A0 _ i 1 (by omega)
    have ap:=abN (l:=out) (A5 m.lines[i]) (by omega)
    simp only [c9,i1,e1,e2,ap,show ((i:Int)<(m.lines.length:Int)) from by omega]
    refine ⟨_,rfl,.inr ⟨rfl,m.lines.length-(i+1),by omega,i+1,_,rfl,by omega,rfl,?_⟩⟩
    rw [ho,List.take_succ_eq_append_getElem hlt]
    show K3 m++(m.lines.take i).map A5++[A5 m.lines[i]]=K3 m++(m.lines.take i++[m.lines[i]]).map A5
    rw [List.map_append,List.append_assoc]; rfl
   ·have:i=m.lines.length:=by omega
    subst this
    simp only [c9,show ¬ ((m.lines.length:Int)<(m.lines.length:Int)) from by omega]
    exact ⟨_,rfl,.inl ⟨0,rfl,out,rfl,rfl,by rw [ho,List.take_length]⟩⟩
  rintro _ _ H2 ⟨out,rfl,rfl,ho⟩
  subst ho
  have hany:((K3 m++m.lines.map A5).any fun t => !A6 t)=(m.lines.any fun l => !A6 (A5 l)):=by
   rw [List.any_append,arJ hv,Bool.false_or,List.any_map]; rfl
  have hcf:=aa4 aaN (fun t => !A6 t) (K3 m++m.lines.map A5) (fun t htm=>alJ t (by
   simp only [K3,List.mem_append,List.mem_singleton,List.mem_map] at htm
   rcases htm with ((rfl | ⟨p,hp,rfl⟩) | rfl) | ⟨p,hp,rfl⟩
   ·simp [aah]; omega
   ·have:=h.2.1.2 p hp; simp [Y3]; omega
   ·simp
   ·have:=h.2.2.2 p hp; have:=aj5 p; omega)) (by simp [K3]; omega)
  rw [hany] at hcf
  have ap2:=abN (l:=K3 m++m.lines.map A5) [46] (by simp [K3]; omega)
  by_cases hb:(m.lines.any fun l => !A6 (A5 l))=true
  ·have h1:L4 m=false:=by unfold L4; rw [hb,hv]; rfl
   have h2:D2 m=[]:=by unfold D2; rw [if_neg (by rw [h1]; simp)]
   rw [h1,h2]
   simp only [c9,hcf,hb]
   exact j8.here rfl
  ·have hb':(m.lines.any fun l => !A6 (A5 l))=false:=by simpa using hb
   have h1:L4 m=true:=by unfold L4; rw [hb',hv]; rfl
   have h2:D2 m=K3 m++m.lines.map A5++[[46]]:=by unfold D2; rw [if_pos h1]
   rw [h1,h2]
   simp only [c9,hcf,hb',ap2]
   exact j8.here rfl
 ·have h1:L4 m=false:=by unfold L4; rw [show D6 m 1 30=false from by simpa using hv]; rfl
  have h2:D2 m=[]:=by unfold D2; rw [if_neg (by rw [h1]; simp)]
  rw [h1,h2]
  simp only [c9,e0,hv]
  exact j8.here rfl
theorem aoI (m:l9) (h:Z7 m):pc Z6 [.agg (cM m)]=some (.n9 [.sl true (vT (D2 m)),.bool (L4 m)]):=by
 obtain ⟨H,e⟩:=anP m h
 exact Y9 e (by simp only [c9]) (by simp only [c9])
theorem aqW (l:Bs):agH l [46]=decide (l.head? = some 46):=by
 unfold agH
 cases l with
 | nil=>rfl
 | cons b r=>simp
end Go.Proofs.YtaapfgpeeghmeaaGreatDoor.Q
