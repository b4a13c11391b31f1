/- Contracts: marks in memory. -/
import Derived.Test.YtpbgpeojlfdpoaaDoorExactSplitMailC99addboxZ
import Derived.Test.YtpbgpeojlfdpoaaDoorFnExactSplitMailK4
namespace Go.Proofs.YtpbgpeojlfdpoaaDoor.Q
open Go Go.AM
set_option linter.unusedSimpArgs false
set_option linter.unusedVariables false
set_option linter.unusedSectionVars false
noncomputable def mkN (k:Nat):Bs:=match qc D3 [.int .i64 (k:Nat)] with | some (.str s)=>s | _=>[]
theorem ad3 (k:Nat) (hk:k<=9000000000000000000):qc D3 [.int .i64 (k:Nat)]=some (.str (mkN k)):=by
 suffices h:∃ s,qc D3 [.int .i64 (k:Nat)]=some (.str s) by
  obtain ⟨s,h⟩:=h
  unfold mkN
  rw [h]
 suffices hg:o9 (cv D3 [.int .i64 (k:Nat)] []) fun r=>∃ s,r.1 = .str s by
  obtain ⟨⟨v,H⟩,e,s,hs⟩:=hg
  cases hs
  exact ⟨s,s7 e (by simp only [b9]) rfl⟩
 rw [ajy]
 by_cases h0:(k:Int)<=0
 ·simp only [b9,h0]; exact o9.here ⟨_,rfl⟩
 ·simp only [b9,h0]
  refine o9.P8 (I:=fun n st H=>∃ s:Bs,s.length+n<=9000000000000000000/\st=[.int .i64 (n:Nat),.str s]) (P:=fun q vs H=>q=0/\∃ s:Bs,s.length<=9000000000000000000/\vs=[.str s]) (n:=k) ?_ ⟨[],by simpa using hk,rfl⟩ ?_
  ·rintro n st H ⟨s,hn,rfl⟩
   rw [agA]
   by_cases hp:(n:Int)>0
   ·have q1:a8 (.int .i64) .rem (.int .i64 (n:Int)) (.int .i64 10)=some (.int .i64 ((n % 10:Nat):Int)):=aw5 _ n 10 (by omega)
    have q2:a8 (.int .i64) .add (.int .i64 48) (.int .i64 ((n % 10:Nat):Int))=some (.int .i64 ((48+n % 10:Nat):Int)):=s9 _ 48 (n % 10) (by omega)
    have q3:a8 (.int .i64) .quo (.int .i64 (n:Int)) (.int .i64 10)=some (.int .i64 ((n / 10:Nat):Int)):=aw8 _ n 10 (by omega) (by omega)
    have q4:∀ x,ag0 .u8 (.int .i64 x)=some (.int .u8 (IntKind.u8.wrap x)):=fun _=>rfl
    have q6:∀ c:UInt8,a8 .str .add (.str [c]) (.str s)=some (.str ([c]++s)):=fun c=>ahZ .str [c] s (by simp; omega)
    have q5:∀ c G,ag7 (.sl true [[.int .u8 c]]) G=some (.str [UInt8.ofNat c.toNat]):=fun _ _=>rfl
    simp only [b9,hp,q1,q2,q3,q4,q5,q6]
    exact ⟨_,rfl,.inr ⟨rfl,n / 10,by omega,_,by simp; omega,rfl⟩⟩
   ·simp only [b9,hp]
    exact ⟨_,rfl,.inl ⟨0,rfl,rfl,s,by omega,rfl⟩⟩
  ·rintro _ _ H ⟨rfl,s,hs,rfl⟩
   have q6:a8 .str .add (.str [109]) (.str s)=some (.str ([109]++s)):=ahZ .str [109] s (by simp; omega)
   simp only [b9,q6]
   exact o9.here ⟨_,rfl⟩
noncomputable def mkT (k n:Nat):List Bs:=(List.range n).map fun i=>mkN (k+i)
theorem afu (k n:Nat):(mkT k n).length=n:=by simp [mkT]
theorem atx (k n:Nat):mkT k (n+1)=mkT k n++[mkN (k+n)]:=by simp [mkT,List.range_succ]
theorem avy (k n i:Nat) (h:i<(mkT k n).length):(mkT k n)[i]=mkN (k+i):=by simp [mkT]
def Q9 (H:VH) (ks:List Nat) (v:V) (l:List Bs):Prop:=(ks=[]/\l=[]/\(v = .sl true []\/v = .sl false []\/∃ k,v = .m8 k 0 0 1))\/∃ k,ks=[k]/\l ≠ []/\v = .m8 k 0 l.length 1/\H[k]? = some (l.map V.str)
theorem arM:∀ l:List Bs,(vT l).flatten=l.map V.str
 | []=>rfl
 | s::l=>by
   show [V.str s]++(vT l).flatten=_
   rw [arM l]; rfl
theorem au2 (l:List Bs):Go.AM.Rows 1 (vT l):=fun x hx=>by
 obtain ⟨b,_,rfl⟩:=List.mem_map.1 hx
 rfl
theorem atj (l:List Bs):w7 1 l.length (l.map V.str)=vT l:=by
 have:=(au2 l).chunk
 rw [arM,P3] at this
 exact this
theorem Q9.mono {H H':VH} {ks:List Nat} {v:V} {l:List Bs} (h:Q9 H ks v l) (e:∀ j ∈ ks,H'[j]? = H[j]?):Q9 H' ks v l:=by
 rcases h with h | ⟨k,rfl,h1,h2,h3⟩
 ·exact .inl h
 ·exact .inr ⟨k,rfl,h1,h2,by rw [e k (by simp),h3]⟩
theorem Q9.nod {H:VH} {ks:List Nat} {v:V} {l:List Bs} (h:Q9 H ks v l):ks.Nodup:=by
 rcases h with ⟨rfl,_⟩ | ⟨k,rfl,_⟩<;>simp
theorem Q9.strip {H:VH} {ks:List Nat} {v:V} {l:List Bs} (h:Q9 H ks v l):Q9 H ks (Go.AM.strip v) l:=by
 rcases h with ⟨h1,h2,h3⟩ | ⟨k,h1,h2,rfl,h3⟩
 ·refine .inl ⟨h1,h2,?_⟩
  rcases h3 with rfl | rfl | ⟨k,rfl⟩
  ·exact .inr (.inl rfl)
  ·exact .inr (.inl rfl)
  ·exact .inr (.inr ⟨k,rfl⟩)
 ·exact .inr ⟨k,h1,h2,rfl,h3⟩
theorem Q9.len {H:VH} {ks:List Nat} {v:V} {l:List Bs} (h:Q9 H ks v l):s8 v=some (.int .i64 (l.length:Nat)):=by
 rcases h with ⟨h1,rfl,rfl | rfl | ⟨k,rfl⟩⟩ | ⟨k,h1,h2,rfl,h3⟩<;>rfl
theorem Q9.one {H:VH} {ks:List Nat} {v:V} {l:List Bs} (h:Q9 H ks v l):w5 v=some v:=by
 rcases h with ⟨h1,rfl,rfl | rfl | ⟨k,rfl⟩⟩ | ⟨k,h1,h2,rfl,h3⟩<;>rfl
theorem Q9.nd {H:VH} {ks:List Nat} {v:V} {l:List Bs} (h:Q9 H ks v l) (hn:abw v=true):data v=true:=by
 rcases h with ⟨h1,rfl,rfl | rfl | ⟨k,rfl⟩⟩ | ⟨k,h1,h2,rfl,h3⟩<;>first | rfl | (simp [abw] at hn)
theorem atJ (d:Nat) (H:VH) (l:List Bs):(l.map V.str).map (A1 d H)=l.map V.str:=by
 rw [List.map_map]
 refine List.map_congr_left fun s _=>?_
 exact Y1 d H (.str s) rfl
theorem Q9.A1 {H:VH} {ks:List Nat} {v:V} {l:List Bs} (d:Nat) (h:Q9 H ks v l):Go.AM.A1 (d+1) H v = .sl false (vT l):=by
 rcases h with ⟨h1,rfl,h3⟩ | ⟨k,h1,h2,rfl,h3⟩
 ·rcases h3 with rfl | rfl | ⟨k,rfl⟩
  ·rfl
  ·rfl
  ·simp only [Go.AM.A1,K3,H7,Nat.zero_mul,Nat.add_zero,Nat.zero_le,if_true,List.take_zero]
   rfl
 ·have hg:(H.map fun cs=>cs.map (Go.AM.A1 d H)).getD k []=l.map V.str:=by
   rw [List.getD_eq_getElem?_getD,List.getElem?_map,h3]
   exact atJ d H l
  simp only [Go.AM.A1,K3,hg,H7]
  rw [if_pos (by simp)]
  simp only [List.drop_zero,Nat.mul_one]
  rw [List.take_of_length_le (by simp),atj]
theorem ajP {f:FuncId} {H:VH} {vs:List V} (h:G7 vs=true->o8 vs=true):qco f H vs=qc f (vs.map (A1 3 H)):=by
 show G8 cv f H vs=I3 cv f _
 cases hn:G7 vs with
 | true =>
   rw [alX (h hn),afC (h hn)]
 | false =>
   unfold G8
   rw [hn]
theorem apu {a b:List V} {x y:V} {i:Nat} (h:a.length=i):(a++x::b).set i y=a++y::b:=by
 subst h
 rw [List.set_append_right _ _ (Nat.le_refl _),Nat.sub_self,List.set_cons_zero]
theorem abx {H:VH} {ks:List Nat} {v:V} {l:List Bs} (h:Q9 H ks v l) (k:Nat) (hk:k+l.length<=9000000000000000000) :
 L7 (cv I1 [v,.int .i64 (k:Nat)] H) (fun r G=>r = .int .i64 ((k+l.length:Nat):Int)/\Q9 G ks v (mkT k l.length)/\(∀ j,j ∉ ks->G[j]? = H[j]?)/\G.length=H.length):=by
 have hlen:=h.strip.len
 refine L7.of ?_
 rw [agC]
 refine o9.P8 (I:=fun n st G=>∃ i:Nat,n=l.length-i/\i<=l.length/\st=[v,.int .i64 ((k+i:Nat):Int),.int .i64 (i:Nat)]/\G.length=H.length/\(∀ j,j ∉ ks->G[j]? = H[j]?)/\(∀ q,ks=[q]->G[q]? = some ((mkT k i).map V.str++(l.drop i).map V.str)))
  (P:=fun q vs G=>q=0/\vs=[.int .i64 ((k+l.length:Nat):Int)]/\G.length=H.length/\(∀ j,j ∉ ks->G[j]? = H[j]?)/\(∀ q,ks=[q]->G[q]? = some ((mkT k l.length).map V.str))) (n:=l.length) ?_
  ⟨0,by omega,by omega,rfl,rfl,fun _ _=>rfl,fun q hq=>by
   rcases h with ⟨rfl,_⟩ | ⟨k',rfl,_,_,h3⟩
   ·cases hq
   ·cases hq; rw [h3]; simp [mkT]⟩ ?_
 ·rintro n st G ⟨i,rfl,hi,rfl,g1,g2,g3⟩
  rw [afb]
  by_cases hlt:i<l.length
  ·obtain ⟨q,rfl,hne,rfl,hq⟩:∃ q,ks=[q]/\l ≠ []/\v = .m8 q 0 l.length 1/\H[q]? = some (l.map V.str):=by
    rcases h with ⟨_,rfl,_⟩ | h
    ·simp at hlt
    ·exact h
   have hG:=g3 q rfl
   have m1:=ad3 (k+i) (by omega)
   have i1:s6 1 (.m8 q 0 l.length 1) (.int .i64 (i:Nat))=some (.ptr q i):=by have:=ajA (k:=q) (e:=1) (kk := .i64) hlt; rwa [Nat.mul_one] at this
   rw [List.drop_eq_getElem_cons hlt,List.map_cons] at hG
   have st:M6 (.ptr q i) [.str (mkN (k+i))] G=some (G.set q ((mkT k (i+1)).map V.str++(l.drop (i+1)).map V.str)):=by
    rw [aeb hG (by simp [afu]),apu (by simp [afu]),atx]
    simp
   have e1:a8 (.int .i64) .add (.int .i64 ((k+i:Nat):Int)) (.int .i64 1)=some (.int .i64 ((k+i+1:Nat):Int)):=s9 _ (k+i) 1 (by omega)
   have e2:a8 (.int .i64) .add (.int .i64 (i:Int)) (.int .i64 1)=some (.int .i64 ((i+1:Nat):Int)):=s9 _ i 1 (by omega)
   generalize hki:k+i=j at *
   simp only [b9,m1,i1,st,e1,e2,show ((i:Int)<(l.length:Int)) from by omega]
   refine ⟨_,rfl,.inr ⟨rfl,l.length-(i+1),by omega,i+1,rfl,by omega,by rw [<-hki]; rfl,by simpa using g1,fun j hj=>?_,fun q' hq'=>?_⟩⟩
   ·simp only
    rw [List.getElem?_set_ne (fun e=>hj (by simp [e]))]; exact g2 j hj
   ·cases hq'
    simp only
    have hql:q<G.length:=by
     have:=List.getElem?_eq_some_iff.1 hG
     exact this.1
    rw [List.getElem?_set_self hql]
  ·have:i=l.length:=by omega
   subst this
   simp only [b9,hlen,show ¬ ((l.length:Int)<(l.length:Int)) from by omega]
   exact ⟨_,rfl,.inl ⟨0,rfl,rfl,rfl,g1,g2,fun q hq=>by rw [g3 q hq]; simp⟩⟩
 ·rintro _ _ G ⟨rfl,rfl,g1,g2,g3⟩
  simp only [b9]
  refine o9.here ⟨rfl,?_,g2,g1⟩
  rcases h with ⟨rfl,rfl,h3⟩ | ⟨q,rfl,hne,rfl,hq⟩
  ·exact .inl ⟨rfl,rfl,h3⟩
  ·exact .inr ⟨q,rfl,fun e=>hne (List.length_eq_zero_iff.1 (by rw [<-afu k l.length,e]; rfl)),by rw [afu],g3 q rfl⟩
theorem agu (k n:Nat) (hk:k+n<=9000000000000000000):qc M3 [.sl false (vT (mkT k n)),.int .i64 (k:Nat)]=some (.int .i64 ((k+n:Nat):Int)):=by
 suffices hg:o9 (cv M3 [.sl false (vT (mkT k n)),.int .i64 (k:Nat)] []) fun r=>r.1 = .int .i64 ((k+n:Nat):Int) by
  obtain ⟨⟨v,H⟩,e,h⟩:=hg
  cases h
  exact s7 e (by simp only [b9]) rfl
 have hl:=afu k n
 rw [agE]
 refine o9.P8 (I:=fun m st G=>∃ i:Nat,m=n-i/\i<=n/\st=[.sl false (vT (mkT k n)),.int .i64 ((k+i:Nat):Int),.int .i64 (i:Nat)])
  (P:=fun q vs G=>q=0/\vs=[.int .i64 ((k+n:Nat):Int)]) (n:=n) ?_ ⟨0,by omega,by omega,rfl⟩ ?_
 ·rintro m st G ⟨i,rfl,hi,rfl⟩
  rw [afa]
  by_cases hlt:i<n
  ·have i1:=M0 false (mkT k n) .i64 i (by omega)
   rw [avy] at i1
   have m1:=ad3 (k+i) (by omega)
   have e1:a8 (.int .i64) .add (.int .i64 ((k+i:Nat):Int)) (.int .i64 1)=some (.int .i64 ((k+i+1:Nat):Int)):=s9 _ (k+i) 1 (by omega)
   have e2:a8 (.int .i64) .add (.int .i64 (i:Int)) (.int .i64 1)=some (.int .i64 ((i+1:Nat):Int)):=s9 _ i 1 (by omega)
   generalize hki:k+i=j at *
   simp only [b9,hl,m1,i1,e1,e2,show ((i:Int)<(n:Int)) from by omega]
   exact ⟨_,rfl,.inr ⟨rfl,n-(i+1),by omega,i+1,rfl,by omega,by rw [<-hki]; rfl⟩⟩
  ·have:i=n:=by omega
   subst this
   simp only [b9,hl,show ¬ ((i:Int)<(i:Int)) from by omega]
   exact ⟨_,rfl,.inl ⟨0,rfl,rfl,rfl⟩⟩
 ·rintro _ _ G ⟨rfl,rfl⟩
  simp only [b9]
  exact o9.here rfl
theorem atH (n:Nat):W3 n [V.str []]=List.replicate n (V.str []):=by
 induction n with
 | zero=>rfl
 | succ n ih=>simp only [W3,ih]; rfl
theorem aiB (l:List Bs) (hl:l.length<=1049600) (H:VH):L7 (cv V1 [.sl false (vT l)] H) (fun r G=>r = .m8 H.length 0 l.length 1/\G=H++[l.map V.str]):=by
 have hmk:=aqV 16 l.length (by omega) (by omega)
 refine L7.of ?_
 rw [ah8]
 simp only [b9,hmk,atH]
 refine o9.P8 (I:=fun n st G=>∃ i:Nat,n=l.length-i/\i<=l.length/\st=[.sl false (vT l),.m8 H.length 0 l.length 1,.int .i64 (i:Nat)]/\G=H++[(l.take i).map V.str++List.replicate (l.length-i) (V.str [])])
  (P:=fun q vs G=>q=0/\vs=[.m8 H.length 0 l.length 1]/\G=H++[l.map V.str]) (n:=l.length) ?_ ⟨0,by omega,by omega,rfl,by simp⟩ ?_
 ·rintro n st G ⟨i,rfl,hi,rfl,rfl⟩
  rw [af6]
  by_cases hlt:i<l.length
  ·have i1:=M0 false l .i64 i hlt
   have i2:s6 1 (.m8 H.length 0 l.length 1) (.int .i64 (i:Nat))=some (.ptr H.length i):=by have:=ajA (k:=H.length) (e:=1) (kk := .i64) hlt; rwa [Nat.mul_one] at this
   obtain ⟨m,hm⟩:∃ m,l.length-i=m+1:=⟨l.length-i-1,by omega⟩
   have st:M6 (.ptr H.length i) [.str l[i]] (H++[(l.take i).map V.str++List.replicate (l.length-i) (V.str [])])=some (H++[(l.take (i+1)).map V.str++List.replicate (l.length-(i+1)) (V.str [])]):=by
    rw [aeb (R3 H _) (by simp; omega),Q6,hm,List.replicate_succ,apu (by simp; omega),List.take_succ_eq_append_getElem hlt,show l.length-(i+1)=m by omega,List.map_append,List.append_assoc]
    rfl
   have e2:a8 (.int .i64) .add (.int .i64 (i:Int)) (.int .i64 1)=some (.int .i64 ((i+1:Nat):Int)):=s9 _ i 1 (by omega)
   simp only [b9,i1,i2,st,e2,show ((i:Int)<(l.length:Int)) from by omega]
   exact ⟨_,rfl,.inr ⟨rfl,l.length-(i+1),by omega,i+1,rfl,by omega,rfl,rfl⟩⟩
  ·have:i=l.length:=by omega
   subst this
   simp only [b9,show ¬ ((l.length:Int)<(l.length:Int)) from by omega]
   exact ⟨_,rfl,.inl ⟨0,rfl,rfl,rfl,by simp⟩⟩
 ·rintro _ _ G ⟨rfl,rfl,rfl⟩
  simp only [b9]
  exact o9.here ⟨rfl,rfl⟩
theorem Q9.new (l:List Bs) (H:VH):∃ ks,Q9 (H++[l.map V.str]) ks (.m8 H.length 0 l.length 1) l/\∀ j ∈ ks,j=H.length:=by
 by_cases h:l=[]
 ·subst h; exact ⟨[],.inl ⟨rfl,rfl,.inr (.inr ⟨_,rfl⟩)⟩,by simp⟩
 ·exact ⟨[H.length],.inr ⟨_,rfl,h,rfl,by simp⟩,by simp⟩
theorem alJ (d:Nat) (H:VH):∀ l:List Bs,K9 d H (vT l)=(l.map V.str,H)
 | []=>rfl
 | s::l=>by
   show K9 d H ([V.str s]::vT l)=_
   simp only [K9,C3,prom,alJ d H l]
   rfl
theorem apI (d:Nat) (l:List Bs) (H:VH):∃ ks v G,prom (d+1) H (.sl true (vT l))=(v,H++G)/\Q9 (H++G) ks v l/\∀ j ∈ ks,H.length<=j/\j<(H++G).length:=by
 cases l with
 | nil=>exact ⟨[],.sl true [],[],by simp [vT,prom],.inl ⟨rfl,rfl,.inl rfl⟩,by simp⟩
 | cons s l =>
   have e:=alJ d H (s::l)
   have hv:vT (s::l)=[V.str s]::vT l:=rfl
   rw [hv] at e
   refine ⟨[H.length],.m8 H.length 0 (l.length+1) 1,[(s::l).map V.str],?_,.inr ⟨H.length,rfl,by simp,rfl,by simp⟩,by simp⟩
   rw [hv]
   simp only [prom,e,P3]
   rfl
def K1 (H:VH) (ks:List Nat) (cs:List V) (m:j0):Prop:=∃ v w k1 k2,cs=[.str m.from_,v,w]/\ks=k1++k2/\Q9 H k1 v m.to/\Q9 H k2 w m.lines
theorem K1.mono {H H':VH} {ks:List Nat} {cs:List V} {m:j0} (h:K1 H ks cs m) (e:∀ j ∈ ks,H'[j]? = H[j]?):K1 H' ks cs m:=by
 obtain ⟨v,w,k1,k2,rfl,rfl,h1,h2⟩:=h
 exact ⟨v,w,k1,k2,rfl,rfl,h1.mono fun j hj=>e j (by simp [hj]),h2.mono fun j hj=>e j (by simp [hj])⟩
theorem K1.strip {H:VH} {ks:List Nat} {cs:List V} {m:j0} (h:K1 H ks cs m):K1 H ks (j3 cs) m:=by
 obtain ⟨v,w,k1,k2,rfl,rfl,h1,h2⟩:=h
 exact ⟨_,_,k1,k2,rfl,rfl,h1.strip,h2.strip⟩
theorem K1.A1 {H:VH} {ks:List Nat} {cs:List V} {m:j0} (d:Nat) (h:K1 H ks cs m):Go.AM.A1 (d+1) H (.agg cs) = .agg (cM m):=by
 obtain ⟨v,w,k1,k2,rfl,rfl,h1,h2⟩:=h
 have a1:=h1.A1 d
 have a2:=h2.A1 d
 simp only [Go.AM.A1] at a1 a2
 simp only [Go.AM.A1,K3,aah,a1,a2,N5]
theorem K1.nd {H:VH} {ks:List Nat} {cs:List V} {m:j0} (h:K1 H ks cs m) (hn:abw (.agg cs)=true):data (.agg cs)=true:=by
 obtain ⟨v,w,k1,k2,rfl,rfl,h1,h2⟩:=h
 simp only [abw,G7,Bool.and_eq_true] at hn
 simp only [data,o8,h1.nd hn.2.1,h2.nd hn.2.2.1,Bool.and_self]
theorem agk (m:j0) (h:Z6 m) (H:VH):L7 (cv Q5 [.agg (cM m)] H) (fun r G=>∃ cs ks X,r = .agg cs/\G=H++X/\K1 G ks cs m/\ks.Nodup/\∀ j ∈ ks,H.length<=j/\j<G.length):=by
 refine L7.of ?_
 rw [alo]
 simp only [b9,N5]
 refine (aiB m.to h.2.1.1 H).bind ?_
 rintro _ _ ⟨rfl,rfl⟩
 simp only [b9,show ∀ a b c d,w5 (.m8 a b c d)=some (.m8 a b c d) from fun _ _ _ _=>rfl]
 refine (aiB m.lines h.2.2.1 _).bind ?_
 rintro _ _ ⟨rfl,rfl⟩
 simp only [b9,show ∀ a b c d,w5 (.m8 a b c d)=some (.m8 a b c d) from fun _ _ _ _=>rfl]
 obtain ⟨k1,a1,a2⟩:=Q9.new m.to H
 obtain ⟨k2,b1,b2⟩:=Q9.new m.lines (H++[m.to.map V.str])
 refine o9.here ⟨_,k1++k2,[m.to.map V.str,m.lines.map V.str],rfl,by simp,⟨_,_,k1,k2,rfl,rfl,a1.mono fun j hj=>?_,by simpa using b1⟩,?_,fun j hj=>?_⟩
 ·have:=a2 j hj
  subst this
  simp
 ·rw [List.nodup_append]
  exact ⟨a1.nod,b1.nod,fun a ha b hb=>by have:=a2 a ha; have:=b2 b hb; simp at this; omega⟩
 ·rcases List.mem_append.1 hj with hj | hj
  ·have:=a2 j hj; simp; omega
  ·have:=b2 j hj; simp at this ⊢; omega
noncomputable def mkM (k:Nat) (m:j0):j0:=⟨m.from_,mkT k m.to.length,mkT (k+m.to.length) m.lines.length⟩
theorem apX {H:VH} {ks:List Nat} {cs:List V} {m:j0} (h:K1 H ks cs m) (hn:ks.Nodup) (k:Nat) (hk:k+m.to.length+m.lines.length<=9000000000000000000) :
 L7 (cv abO [.agg cs,.int .i64 (k:Nat)] H) (fun r G=>r = .int .i64 ((k+m.to.length+m.lines.length:Nat):Int)/\K1 G ks (j3 cs) (mkM k m)/\(∀ j,j ∉ ks->G[j]? = H[j]?)/\G.length=H.length):=by
 obtain ⟨v,w,k1,k2,rfl,rfl,h1,h2⟩:=h
 rw [List.nodup_append] at hn
 refine L7.of ?_
 rw [ai5]
 have s1:=h1.strip
 have s2:=h2.strip
 simp only [b9]
 refine (abx s1 k (by omega)).bind ?_
 rintro _ G ⟨rfl,g1,g2,g3⟩
 have s2':=s2.mono (H':=G) fun j hj=>g2 j fun hj1=>hn.2.2 j hj1 j hj rfl
 simp only [b9]
 refine (abx s2' (k+m.to.length) hk).bind ?_
 rintro _ G2 ⟨rfl,f1,f2,f3⟩
 simp only [b9]
 refine o9.here ⟨rfl,⟨_,_,k1,k2,rfl,rfl,g1.mono fun j hj=>f2 j fun hj2=>hn.2.2 j hj j hj2 rfl,f1⟩,fun j hj=>?_,f3.trans g3⟩
 simp only [List.mem_append,not_or] at hj
 rw [f2 j hj.2,g2 j hj.1]
end Go.Proofs.YtpbgpeojlfdpoaaDoor.Q
