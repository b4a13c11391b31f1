/- What is written is read. -/
import Derived.Test.YtmokcpfbeggigaaGreatDoorScriptListCh4specaddressZ
namespace Go.Proofs.YtmokcpfbeggigaaGreatDoor.Q
open Go Go.AM
set_option linter.unusedSimpArgs false
set_option linter.unusedVariables false
set_option linter.unusedSectionVars false
theorem api:∀ (n r:Bs),qR ((n.map K4).flatten++34::r)=some (n,((n.map K4).flatten).length+1)
 | [],r=>by cases r<;>simp [qR]
 | b::n,r=>by
   have ih:=api n r
   simp only [List.map_cons,List.flatten_cons,List.append_assoc]
   obtain ⟨d,l,hX⟩:∃ d l,(n.map K4).flatten++34::r=d::l:=by
    cases hX:(n.map K4).flatten++34::r with
    | nil=>simp at hX
    | cons d l=>exact ⟨d,l,rfl⟩
   by_cases h:b=34\/b=92
   ·have he:K4 b=[92,b]:=by unfold K4; rw [if_pos h]
    rw [he]
    simp only [List.cons_append,List.nil_append,qR,ih,Option.map_some,List.length_cons,show ¬ ((92:UInt8)=34) from by decide,if_false,if_true]
   ·have he:K4 b=[b]:=by unfold K4; rw [if_neg h]
    simp only [not_or] at h
    rw [he]
    rw [hX] at ih ⊢
    simp only [List.cons_append,List.nil_append,qR,ih,Option.map_some,List.length_cons,if_neg h.1,if_neg h.2]
theorem ass (c:UInt8) (n s:Bs):z8 c (P9 n++s) 0=(z8 c s 0).map (·+(P9 n).length):=by
 have hl:(P9 n).length=((n.map K4).flatten).length+2:=by unfold P9; simp
 have h0:0<(P9 n++s).length:=by simp [hl]; omega
 have hd:(P9 n++s).drop (0+1)=(n.map K4).flatten++34::s:=by unfold P9; simp
 rw [aiN h0 (by unfold P9; rfl) (by rw [hd]; exact api n s)]
 have:=ad0 c (P9 n) s 0
 rw [<-this]
 congr 1
 rw [hl]; simp; omega
theorem aiD {s:Bs} (h:N7 s=true):1<=s.length/\∀ b ∈ s,N9 b.toNat=true:=by
 unfold N7 at h
 simp only [Bool.and_eq_true,decide_eq_true_eq,List.all_eq_true] at h
 exact ⟨h.1.1,h.2⟩
theorem agJ {b:UInt8} (h:N9 b.toNat=true):b ≠ 34/\b ≠ 32/\b ≠ 60/\b ≠ 44/\b ≠ 64/\b ≠ 62:=by
 refine ⟨?_,?_,?_,?_,?_,?_⟩<;>rintro rfl<;>revert h<;>decide
theorem anG {c:UInt8} {n:Bs} (s:Bs) (ht:A9 n=true) (hc:c=60\/c=44):z8 c (D8 n++s) 0=(z8 c s 0).map (·+(D8 n).length):=by
 unfold D8
 rw [if_neg (by rw [ht]; decide)]
 split
 ·rename_i ha
  refine abZ s fun b hb=>?_
  have:=agJ ((aiD ha).2 b hb)
  rcases hc with rfl | rfl
  ·exact ⟨this.1,this.2.2.1⟩
  ·exact ⟨this.1,this.2.2.2.1⟩
 ·exact ass c n s
theorem aoz {a s:Bs} (h:∀ b ∈ a,N9 b.toNat=true) (hs:∀ b,s.head? = some b->¬ N9 b.toNat=true):∀ (m i:Nat),i+m=a.length->L5 (a++s) i=a.length
 | 0,i,hi=>by
   have hia:i=a.length:=by omega
   subst hia
   cases s with
   | nil=>rw [aot (by simp)]
   | cons b l =>
     rw [aqv (by simp)]
     rw [List.getElem_append_right (by omega)]
     simp only [Nat.sub_self,List.getElem_cons_zero]
     exact hs b rfl
 | m+1,i,hi=>by
   have hg:(a++s)[i]'(by simp; omega)=a[i]'(by omega):=List.getElem_append_left (by omega)
   rw [apT (by simp; omega) (by rw [hg]; exact h _ (List.getElem_mem _))]
   exact aoz h hs m (i+1) (by omega)
theorem asA {n:Bs} (ht:A9 n=true) (hn:n ≠ []):P8 (D8 n++[32]) 0 true []=some [n]:=by
 have fin:∀ a:Bs,P8 (a++[32]) a.length false [n]=some [n]:=fun a=>by
  rw [amY (by simp) (by rw [List.getElem_append_right (by omega)]; simp),ap7 (by simp)]
 unfold D8
 rw [if_neg (by rw [ht]; decide)]
 split
 ·rename_i ha
  obtain ⟨h1,h2⟩:=aiD ha
  have hlt:0<(n++[32]).length:=by simp
  have hg:(n++[32])[0]=n[0]:=List.getElem_append_left (by omega)
  have hb:=agJ (h2 _ (List.getElem_mem (show 0<n.length by omega)))
  have hE:=aoz (a:=n) (s:=[32]) h2 (by intro b hb; simp at hb; subst hb; decide) n.length 0 (by omega)
  rw [atB hlt (by rw [hg]; exact hb.2.1) (by rw [hg]; exact hb.1) (by rw [hE]; omega),hE]
  have:((n++[32]).drop 0).take (n.length-0)=n:=by simp
  rw [this]
  exact fin n
 ·have hl:(P9 n).length=((n.map K4).flatten).length+2:=by unfold P9; simp
  have h0:0<(P9 n++[32]).length:=by simp
  have hd:(P9 n++[32]).drop (0+1)=(n.map K4).flatten++34::[32]:=by unfold P9; simp
  rw [asu h0 (by unfold P9; rfl) (by rw [hd]; exact api n [32])]
  have:=fin (P9 n)
  rw [hl] at this
  rw [<-this]
  congr 1
  simp; omega
def ahv (b:UInt8):Prop:=b ≠ 34/\b ≠ 32/\b ≠ 60/\b ≠ 44/\b ≠ 64/\b ≠ 62
theorem afr {s:Bs} (h:aaE s=true):s ≠ []/\∀ b ∈ s,ahv b:=by
 unfold aaE at h
 simp only [Bool.and_eq_true,Bool.not_eq_true',List.any_eq_false,Bool.not_eq_false'] at h
 refine ⟨fun e=>?_,fun b hb=>?_⟩
 ·subst e
  exact absurd (h.2 [] (by simp [j4])) (by decide)
 ·rcases acg 46 s b hb with rfl | ⟨t,ht,hbt⟩
  ·unfold ahv; decide
  ·have:=h.2 t ht
   exact agJ ((aiD (by simpa using this)).2 b hbt)
theorem ahC {s:Bs} (h:aaD s=true):s ≠ []/\∀ b ∈ s,ahv b:=by
 unfold aaD at h
 simp only [Bool.and_eq_true,Bool.not_eq_true',List.any_eq_false,Bool.not_eq_false'] at h
 refine ⟨fun e=>?_,fun b hb=>?_⟩
 ·subst e
  exact absurd (h.2 [] (by simp [j4])) (by decide)
 ·rcases acg 46 s b hb with rfl | ⟨t,ht,hbt⟩
  ·unfold ahv; decide
  ·have h1:abr t=true:=by simpa using h.2 t ht
   unfold abr at h1
   simp only [Bool.and_eq_true,List.all_eq_true] at h1
   have h2:=h1.2 b hbt
   unfold ahv
   refine ⟨?_,?_,?_,?_,?_,?_⟩<;>rintro rfl<;>revert h2<;>decide
theorem acf {n l d:Bs} (h:H8 n l d=true):A9 n=true/\aaE l=true/\aaD d=true:=by
 unfold H8 at h
 simp only [Bool.and_eq_true] at h
 exact ⟨h.1.1,h.2.1,h.2.2⟩
theorem aoR {n l d:Bs} (h:H8 n l d=true):abU n (l++[64]++d)=some (n,l,d):=by
 obtain ⟨h1,h2,h3⟩:=acf h
 have hl:=(afr h2).2
 have e:z8 64 (l++[64]++d) 0=some l.length:=by
  rw [List.append_assoc,abZ _ fun b hb=>⟨(hl b hb).1,(hl b hb).2.2.2.2.1⟩]
  have:z8 64 ([64]++d) 0=some 0:=aej (by simp) (by simp) rfl
  rw [this]; simp
 unfold abU
 rw [e]
 have e1:(l++[64]++d).take l.length=l:=by simp
 have e2:(l++[64]++d).drop (l.length+1)=d:=by rw [List.append_assoc,List.drop_append]; simp
 simp only [e1,e2,awo h3,h,if_true]
theorem axb {c:UInt8} {l d:Bs} (h2:aaE l=true) (h3:aaD d=true) (hc:c=60\/c=44):z8 c (l++[64]++d) 0=none:=by
 have hl:=(afr h2).2
 have hd:=(ahC h3).2
 have:z8 c (l++[64]++d++[]) 0=_:=abZ [] fun b hb=>by
  simp only [List.mem_append,List.mem_singleton] at hb
  have q:b ≠ 34/\b ≠ 60/\b ≠ 44:=by
   rcases hb with (hb | rfl) | hb
   ·exact ⟨(hl b hb).1,(hl b hb).2.2.1,(hl b hb).2.2.2.1⟩
   ·decide
   ·exact ⟨(hd b hb).1,(hd b hb).2.2.1,(hd b hb).2.2.2.1⟩
  rcases hc with rfl | rfl
  ·exact ⟨q.1,q.2.1⟩
  ·exact ⟨q.1,q.2.2⟩
 rw [List.append_nil] at this
 rw [this,aey (by simp)]; rfl
theorem agm {s:Bs} (hne:s ≠ []) (h1:∀ b,s.head? = some b->b ≠ 32) (h2:∀ b,s.getLast? = some b->b ≠ 32):A5 s=s/\A5 (32::s)=s:=by
 obtain ⟨l,c,rfl⟩:=(List.eq_nil_or_concat s).resolve_left hne
 simp only [List.concat_eq_append] at *
 have hc:c ≠ 32:=h2 c (by simp)
 have hR:Q8 32 (l++[c])=l++[c]:=anH hc l
 have hL:Y3 32 (l++[c])=l++[c]:=by
  cases l with
  | nil=>simp [Y3,hc]
  | cons b l=>have:=h1 b rfl; simp [Y3,this]
 refine ⟨by unfold A5; rw [hR,hL],?_⟩
 unfold A5
 have:Q8 32 (32::(l++[c]))=32::(l++[c]):=by
  simp only [Q8,hR]; rw [if_neg (by simp)]
 rw [this]
 simp only [Y3,if_true]
 exact hL
theorem auK {n:Bs} (ht:A9 n=true) (hn:n ≠ []):∃ b l,D8 n=b::l/\b ≠ 32:=by
 unfold D8
 rw [if_neg (by rw [ht]; decide)]
 split
 ·rename_i ha
  cases n with
  | nil=>exact absurd rfl hn
  | cons b l=>exact ⟨b,l,rfl,(agJ ((aiD ha).2 b (by simp))).2.1⟩
 ·exact ⟨34,_,rfl,by decide⟩
theorem aqm {a:Bs × Bs × Bs} (h:H8 a.1 a.2.1 a.2.2=true):A5 (B2 a)=B2 a/\A5 (32::B2 a)=B2 a/\B2 a ≠ []:=by
 obtain ⟨n,l,d⟩:=a
 obtain ⟨h1,h2,h3⟩:=acf h
 obtain ⟨hl,hlb⟩:=afr h2
 obtain ⟨hd,hdb⟩:=ahC h3
 unfold B2
 rw [if_neg (by rw [h]; decide)]
 split
 ·obtain ⟨x,m,rfl⟩:=List.exists_cons_of_ne_nil hl
  obtain ⟨z,c,rfl⟩:=(List.eq_nil_or_concat d).resolve_left hd
  simp only [List.concat_eq_append] at *
  have:=agm (s:=x::m++[64]++(z++[c])) (by simp) (fun b hb=>by simp at hb; subst hb; exact (hlb _ (by simp)).2.1) (fun b hb=>by
   rw [<-List.append_assoc,List.getLast?_concat] at hb
   cases hb
   exact (hdb _ (by simp)).2.1)
  exact ⟨this.1,this.2,by simp⟩
 ·rename_i hn
  obtain ⟨x,m,hq,hx⟩:=auK h1 hn
  have:=agm (s:=D8 n++[32,60]++l++[64]++d++[62]) (by simp) (fun b hb=>by rw [hq] at hb; simp at hb; subst hb; exact hx) (fun b hb=>by
   rw [List.getLast?_concat] at hb
   cases hb; decide)
  exact ⟨this.1,this.2,by simp⟩
theorem ath {l d:Bs} (h:H8 [] l d=true):B2 ([],l,d)=l++[64]++d:=by
 unfold B2
 rw [if_neg (by rw [h]; decide),if_pos rfl]
theorem aun {n l d:Bs} (h:H8 n l d=true) (hn:n ≠ []):B2 (n,l,d)=D8 n++[32,60]++l++[64]++d++[62]:=by
 unfold B2
 rw [if_neg (by rw [h]; decide),if_neg hn]
theorem aup {a:Bs × Bs × Bs} {s:Bs} (h:H8 a.1 a.2.1 a.2.2=true) (hs:A5 s=B2 a) (ht:A9 s=true):acK s=some a:=by
 obtain ⟨n,l,d⟩:=a
 simp only at h
 obtain ⟨h1,h2,h3⟩:=acf h
 by_cases hn:n=[]
 ·subst hn
  rw [ath h] at hs
  rw [an0 ht (by rw [hs]; exact axb h2 h3 (.inl rfl)),hs]
  exact aoR h
 ·rw [aun h hn] at hs
  have e:z8 60 (D8 n++[32,60]++l++[64]++d++[62]) 0=some ((D8 n).length+1):=by
   have e0:D8 n++[32,60]++l++[64]++d++[62]=D8 n++(32::60::(l++[64]++d++[62])):=by simp
   rw [e0,anG _ h1 (.inl rfl),afS (by simp) (by simp) (by simp),aej (by simp) (by simp) (by simp)]
   simp; omega
  have e1:(D8 n++[32,60]++l++[64]++d++[62]).take ((D8 n).length+1)=D8 n++[32]:=by
   have e0:D8 n++[32,60]++l++[64]++d++[62]=(D8 n++[32])++(60::(l++[64]++d++[62])):=by simp
   rw [e0,List.take_left' (by simp)]
  have e2:(D8 n++[32,60]++l++[64]++d++[62]).drop ((D8 n).length+1+1)=l++[64]++d++[62]:=by
   have e0:D8 n++[32,60]++l++[64]++d++[62]=(D8 n++[32,60])++(l++[64]++d++[62]):=by simp
   rw [e0,List.drop_left' (by simp)]
  have e3:(l++[64]++d++[62]).take ((l++[64]++d++[62]).length-1)=l++[64]++d:=by
   rw [List.take_left' (by simp)]
  rw [apV ht (k:=(D8 n).length+1) (ws:=[n]) (by rw [hs]; exact e) (by rw [hs,e1]; exact asA h1 hn),hs,e2,if_pos (by rw [List.getLast?_concat]),e3]
  exact aoR h
theorem atZ {a:Bs × Bs × Bs} (h:H8 a.1 a.2.1 a.2.2=true) (s:Bs):z8 44 (B2 a++s) 0=(z8 44 s 0).map (·+(B2 a).length):=by
 obtain ⟨n,l,d⟩:=a
 obtain ⟨h1,h2,h3⟩:=acf h
 have hl:=(afr h2).2
 have hd:=(ahC h3).2
 have pl:∀ b ∈ l++[64]++d,b ≠ 34/\b ≠ 44:=fun b hb=>by
  simp only [List.mem_append,List.mem_singleton] at hb
  rcases hb with (hb | rfl) | hb
  ·exact ⟨(hl b hb).1,(hl b hb).2.2.2.1⟩
  ·decide
  ·exact ⟨(hd b hb).1,(hd b hb).2.2.2.1⟩
 unfold B2
 rw [if_neg (by rw [h]; decide)]
 split
 ·exact abZ s pl
 ·have e0:D8 n++[32,60]++l++[64]++d++[62]++s=D8 n++(([32,60]++(l++[64]++d)++[62])++s):=by simp
  rw [e0,anG _ h1 (.inr rfl),abZ s (fun b hb=>by
   simp only [List.mem_append,List.mem_cons,List.not_mem_nil,or_false] at hb
   rcases hb with ((rfl | rfl) | hb) | rfl
   ·decide
   ·decide
   ·exact pl b (by simp only [List.mem_append,List.mem_singleton]; exact hb)
   ·decide),Option.map_map]
  congr 1
  funext k
  simp only [Function.comp,List.length_append,List.length_cons,List.length_nil]
  omega
end Go.Proofs.YtmokcpfbeggigaaGreatDoor.Q
