/- Contracts: marks in memory. -/
import Derived.Test.YtpbgpeojlfdpoaaGreatDoorExactTraceMailC99addboxZ
import Derived.Test.YtpbgpeojlfdpoaaGreatDoorFnExactTraceMailK4
namespace Go.Proofs.YtpbgpeojlfdpoaaGreatDoor.Q
open Go Go.AM
set_option linter.unusedSimpArgs false
set_option linter.unusedVariables false
set_option linter.unusedSectionVars false
noncomputable def mkN (k:Nat):Bs:=match qc K0 [.int .i64 (k:Nat)] with | some (.str s)=>s | _=>[]
theorem alo (k:Nat) (hk:k<=9000000000000000000):qc K0 [.int .i64 (k:Nat)]=some (.str (mkN k)):=by
 suffices h:∃ s,qc K0 [.int .i64 (k:Nat)]=some (.str s) by
  obtain ⟨s,h⟩:=h
  unfold mkN
  rw [h]
 suffices hg:p9 (cv K0 [.int .i64 (k:Nat)] []) fun r=>∃ s,r.1 = .str s by
  obtain ⟨⟨v,H⟩,e,s,hs⟩:=hg
  cases hs
  exact ⟨s,o7 e (by simp only [g9]) rfl⟩
 rw [akx]
 by_cases h0:(k:Int)<=0
 ·simp only [g9,h0]; exact p9.here ⟨_,rfl⟩
 ·simp only [g9,h0]
  refine p9.T6 (I:=fun n st H=>∃ s:Bs,s.length+n<=9000000000000000000/\st=[.int .i64 (n:Nat),.str s]) (P:=fun q vs H=>q=0/\∃ s:Bs,s.length<=9000000000000000000/\vs=[.str s]) (n:=k) ?_ ⟨[],by simpa using hk,rfl⟩ ?_
  ·rintro n st H ⟨s,hn,rfl⟩
   rw [ahz]
   by_cases hp:(n:Int)>0
   ·have q1:b9 (.int .i64) .rem (.int .i64 (n:Int)) (.int .i64 10)=some (.int .i64 ((n % 10:Nat):Int)):=aec _ n 10 (by omega)
    have q2:b9 (.int .i64) .add (.int .i64 48) (.int .i64 ((n % 10:Nat):Int))=some (.int .i64 ((48+n % 10:Nat):Int)):=A6 _ 48 (n % 10) (by omega)
    have q3:b9 (.int .i64) .quo (.int .i64 (n:Int)) (.int .i64 10)=some (.int .i64 ((n / 10:Nat):Int)):=ae5 _ n 10 (by omega) (by omega)
    have q4:∀ x,acZ .u8 (.int .i64 x)=some (.int .u8 (IntKind.u8.wrap x)):=fun _=>rfl
    have q6:∀ c:UInt8,b9 .str .add (.str [c]) (.str s)=some (.str ([c]++s)):=fun c=>aal .str [c] s (by simp; omega)
    have q5:∀ c G,adw (.sl true [[.int .u8 c]]) G=some (.str [UInt8.ofNat c.toNat]):=fun _ _=>rfl
    simp only [g9,hp,q1,q2,q3,q4,q5,q6]
    exact ⟨_,rfl,.inr ⟨rfl,n / 10,by omega,_,by simp; omega,rfl⟩⟩
   ·simp only [g9,hp]
    exact ⟨_,rfl,.inl ⟨0,rfl,rfl,s,by omega,rfl⟩⟩
  ·rintro _ _ H ⟨rfl,s,hs,rfl⟩
   have q6:b9 .str .add (.str [109]) (.str s)=some (.str ([109]++s)):=aal .str [109] s (by simp; omega)
   simp only [g9,q6]
   exact p9.here ⟨_,rfl⟩
noncomputable def mkT (k n:Nat):List Bs:=(List.range n).map fun i=>mkN (k+i)
theorem agv (k n:Nat):(mkT k n).length=n:=by simp [mkT]
theorem auQ (k n:Nat):mkT k (n+1)=mkT k n++[mkN (k+n)]:=by simp [mkT,List.range_succ]
theorem awt (k n i:Nat) (h:i<(mkT k n).length):(mkT k n)[i]=mkN (k+i):=by simp [mkT]
def TxR (H:VH) (ks:List Nat) (v:V) (l:List Bs):Prop:=(ks=[]/\l=[]/\(v = .sl true []\/v = .sl false []\/∃ k,v = .o9 k 0 0 1))\/∃ k,ks=[k]/\l ≠ []/\v = .o9 k 0 l.length 1/\H[k]? = some (l.map V.str)
theorem apr:∀ l:List Bs,(vT l).flatten=l.map V.str
 | []=>rfl
 | s::l=>by
   show [V.str s]++(vT l).flatten=_
   rw [apr l]; rfl
theorem aqS (l:List Bs):Go.AM.Rows 1 (vT l):=fun x hx=>by
 obtain ⟨b,_,rfl⟩:=List.mem_map.1 hx
 rfl
theorem avb (l:List Bs):A9 1 l.length (l.map V.str)=vT l:=by
 have:=(aqS l).chunk
 rw [apr,U9] at this
 exact this
theorem TxR.mono {H H':VH} {ks:List Nat} {v:V} {l:List Bs} (h:TxR H ks v l) (e:∀ j ∈ ks,H'[j]? = H[j]?):TxR H' ks v l:=by
 rcases h with h | ⟨k,rfl,h1,h2,h3⟩
 ·exact .inl h
 ·exact .inr ⟨k,rfl,h1,h2,by rw [e k (by simp),h3]⟩
theorem TxR.nod {H:VH} {ks:List Nat} {v:V} {l:List Bs} (h:TxR H ks v l):ks.Nodup:=by
 rcases h with ⟨rfl,_⟩ | ⟨k,rfl,_⟩<;>simp
theorem TxR.strip {H:VH} {ks:List Nat} {v:V} {l:List Bs} (h:TxR H ks v l):TxR H ks (Go.AM.strip v) l:=by
 rcases h with ⟨h1,h2,h3⟩ | ⟨k,h1,h2,rfl,h3⟩
 ·refine .inl ⟨h1,h2,?_⟩
  rcases h3 with rfl | rfl | ⟨k,rfl⟩
  ·exact .inr (.inl rfl)
  ·exact .inr (.inl rfl)
  ·exact .inr (.inr ⟨k,rfl⟩)
 ·exact .inr ⟨k,h1,h2,rfl,h3⟩
theorem TxR.len {H:VH} {ks:List Nat} {v:V} {l:List Bs} (h:TxR H ks v l):B9 v=some (.int .i64 (l.length:Nat)):=by
 rcases h with ⟨h1,rfl,rfl | rfl | ⟨k,rfl⟩⟩ | ⟨k,h1,h2,rfl,h3⟩<;>rfl
theorem TxR.one {H:VH} {ks:List Nat} {v:V} {l:List Bs} (h:TxR H ks v l):A8 v=some v:=by
 rcases h with ⟨h1,rfl,rfl | rfl | ⟨k,rfl⟩⟩ | ⟨k,h1,h2,rfl,h3⟩<;>rfl
theorem TxR.nd {H:VH} {ks:List Nat} {v:V} {l:List Bs} (h:TxR H ks v l) (hn:adN v=true):data v=true:=by
 rcases h with ⟨h1,rfl,rfl | rfl | ⟨k,rfl⟩⟩ | ⟨k,h1,h2,rfl,h3⟩<;>first | rfl | (simp [adN] at hn)
theorem aua (d:Nat) (H:VH) (l:List Bs):(l.map V.str).map (I5 d H)=l.map V.str:=by
 rw [List.map_map]
 refine List.map_congr_left fun s _=>?_
 exact V8 d H (.str s) rfl
theorem TxR.I5 {H:VH} {ks:List Nat} {v:V} {l:List Bs} (d:Nat) (h:TxR H ks v l):Go.AM.I5 (d+1) H v = .sl false (vT l):=by
 rcases h with ⟨h1,rfl,h3⟩ | ⟨k,h1,h2,rfl,h3⟩
 ·rcases h3 with rfl | rfl | ⟨k,rfl⟩
  ·rfl
  ·rfl
  ·simp only [Go.AM.I5,O8,L1,Nat.zero_mul,Nat.add_zero,Nat.zero_le,if_true,List.take_zero]
   rfl
 ·have hg:(H.map fun cs=>cs.map (Go.AM.I5 d H)).getD k []=l.map V.str:=by
   rw [List.getD_eq_getElem?_getD,List.getElem?_map,h3]
   exact aua d H l
  simp only [Go.AM.I5,O8,hg,L1]
  rw [if_pos (by simp)]
  simp only [List.drop_zero,Nat.mul_one]
  rw [List.take_of_length_le (by simp),avb]
theorem alR {f:FuncId} {H:VH} {vs:List V} (h:I3 vs=true->s7 vs=true):qco f H vs=qc f (vs.map (I5 3 H)):=by
 show K5 cv f H vs=M0 cv f _
 cases hn:I3 vs with
 | true =>
   rw [amX (h hn),ags (h hn)]
 | false =>
   unfold K5
   rw [hn]
theorem aqv {a b:List V} {x y:V} {i:Nat} (h:a.length=i):(a++x::b).set i y=a++y::b:=by
 subst h
 rw [List.set_append_right _ _ (Nat.le_refl _),Nat.sub_self,List.set_cons_zero]
theorem ahq {H:VH} {ks:List Nat} {v:V} {l:List Bs} (h:TxR H ks v l) (k:Nat) (hk:k+l.length<=9000000000000000000) :
 acd (cv T7 [v,.int .i64 (k:Nat)] H) (fun r G=>r = .int .i64 ((k+l.length:Nat):Int)/\TxR G ks v (mkT k l.length)/\(∀ j,j ∉ ks->G[j]? = H[j]?)/\G.length=H.length):=by
 have hlen:=h.strip.len
 refine acd.of ?_
 rw [ahB]
 refine p9.T6 (I:=fun n st G=>∃ i:Nat,n=l.length-i/\i<=l.length/\st=[v,.int .i64 ((k+i:Nat):Int),.int .i64 (i:Nat)]/\G.length=H.length/\(∀ j,j ∉ ks->G[j]? = H[j]?)/\(∀ q,ks=[q]->G[q]? = some ((mkT k i).map V.str++(l.drop i).map V.str)))
  (P:=fun q vs G=>q=0/\vs=[.int .i64 ((k+l.length:Nat):Int)]/\G.length=H.length/\(∀ j,j ∉ ks->G[j]? = H[j]?)/\(∀ q,ks=[q]->G[q]? = some ((mkT k l.length).map V.str))) (n:=l.length) ?_
  ⟨0,by omega,by omega,rfl,rfl,fun _ _=>rfl,fun q hq=>by
   rcases h with ⟨rfl,_⟩ | ⟨k',rfl,_,_,h3⟩
   ·cases hq
   ·cases hq; rw [h3]; simp [mkT]⟩ ?_
 ·rintro n st G ⟨i,rfl,hi,rfl,g1,g2,g3⟩
  rw [af4]
  by_cases hlt:i<l.length
  ·obtain ⟨q,rfl,hne,rfl,hq⟩:∃ q,ks=[q]/\l ≠ []/\v = .o9 q 0 l.length 1/\H[q]? = some (l.map V.str):=by
    rcases h with ⟨_,rfl,_⟩ | h
    ·simp at hlt
    ·exact h
   have hG:=g3 q rfl
   have m1:=alo (k+i) (by omega)
   have i1:C3 1 (.o9 q 0 l.length 1) (.int .i64 (i:Nat))=some (.ptr q i):=by have:=ash (k:=q) (e:=1) (kk := .i64) hlt; rwa [Nat.mul_one] at this
   rw [List.drop_eq_getElem_cons hlt,List.map_cons] at hG
   have st:stO (.ptr q i) [.str (mkN (k+i))] G=some (G.set q ((mkT k (i+1)).map V.str++(l.drop (i+1)).map V.str)):=by
    rw [amM hG (by simp [agv]),aqv (by simp [agv]),auQ]
    simp
   have e1:b9 (.int .i64) .add (.int .i64 ((k+i:Nat):Int)) (.int .i64 1)=some (.int .i64 ((k+i+1:Nat):Int)):=A6 _ (k+i) 1 (by omega)
   have e2:b9 (.int .i64) .add (.int .i64 (i:Int)) (.int .i64 1)=some (.int .i64 ((i+1:Nat):Int)):=A6 _ i 1 (by omega)
   generalize hki:k+i=j at *
   simp only [g9,m1,i1,st,e1,e2,show ((i:Int)<(l.length:Int)) from by omega]
   refine ⟨_,rfl,.inr ⟨rfl,l.length-(i+1),by omega,i+1,rfl,by omega,by rw [<-hki]; rfl,by simpa using g1,fun j hj=>?_,fun q' hq'=>?_⟩⟩
   ·simp only
    rw [List.getElem?_set_ne (fun e=>hj (by simp [e]))]; exact g2 j hj
   ·cases hq'
    simp only
    have hql:q<G.length:=by
     have:=List.getElem?_eq_some_iff.1 hG
     exact this.1
    rw [List.getElem?_set_self hql]
  ·have:i=l.length:=by omega
   subst this
   simp only [g9,hlen,show ¬ ((l.length:Int)<(l.length:Int)) from by omega]
   exact ⟨_,rfl,.inl ⟨0,rfl,rfl,rfl,g1,g2,fun q hq=>by rw [g3 q hq]; simp⟩⟩
 ·rintro _ _ G ⟨rfl,rfl,g1,g2,g3⟩
  simp only [g9]
  refine p9.here ⟨rfl,?_,g2,g1⟩
  rcases h with ⟨rfl,rfl,h3⟩ | ⟨q,rfl,hne,rfl,hq⟩
  ·exact .inl ⟨rfl,rfl,h3⟩
  ·exact .inr ⟨q,rfl,fun e=>hne (List.length_eq_zero_iff.1 (by rw [<-agv k l.length,e]; rfl)),by rw [agv],g3 q rfl⟩
theorem ahs (k n:Nat) (hk:k+n<=9000000000000000000):qc N6 [.sl false (vT (mkT k n)),.int .i64 (k:Nat)]=some (.int .i64 ((k+n:Nat):Int)):=by
 suffices hg:p9 (cv N6 [.sl false (vT (mkT k n)),.int .i64 (k:Nat)] []) fun r=>r.1 = .int .i64 ((k+n:Nat):Int) by
  obtain ⟨⟨v,H⟩,e,h⟩:=hg
  cases h
  exact o7 e (by simp only [g9]) rfl
 have hl:=agv k n
 rw [ahD]
 refine p9.T6 (I:=fun m st G=>∃ i:Nat,m=n-i/\i<=n/\st=[.sl false (vT (mkT k n)),.int .i64 ((k+i:Nat):Int),.int .i64 (i:Nat)])
  (P:=fun q vs G=>q=0/\vs=[.int .i64 ((k+n:Nat):Int)]) (n:=n) ?_ ⟨0,by omega,by omega,rfl⟩ ?_
 ·rintro m st G ⟨i,rfl,hi,rfl⟩
  rw [afX]
  by_cases hlt:i<n
  ·have i1:=Z9 false (mkT k n) .i64 i (by omega)
   rw [awt] at i1
   have m1:=alo (k+i) (by omega)
   have e1:b9 (.int .i64) .add (.int .i64 ((k+i:Nat):Int)) (.int .i64 1)=some (.int .i64 ((k+i+1:Nat):Int)):=A6 _ (k+i) 1 (by omega)
   have e2:b9 (.int .i64) .add (.int .i64 (i:Int)) (.int .i64 1)=some (.int .i64 ((i+1:Nat):Int)):=A6 _ i 1 (by omega)
   generalize hki:k+i=j at *
   simp only [g9,hl,m1,i1,e1,e2,show ((i:Int)<(n:Int)) from by omega]
   exact ⟨_,rfl,.inr ⟨rfl,n-(i+1),by omega,i+1,rfl,by omega,by rw [<-hki]; rfl⟩⟩
  ·have:i=n:=by omega
   subst this
   simp only [g9,hl,show ¬ ((i:Int)<(i:Int)) from by omega]
   exact ⟨_,rfl,.inl ⟨0,rfl,rfl,rfl⟩⟩
 ·rintro _ _ G ⟨rfl,rfl⟩
  simp only [g9]
  exact p9.here rfl
theorem avi (n:Nat):Z5 n [V.str []]=List.replicate n (V.str []):=by
 induction n with
 | zero=>rfl
 | succ n ih=>simp only [Z5,ih]; rfl
theorem ajD (l:List Bs) (hl:l.length<=1049600) (H:VH):acd (cv X5 [.sl false (vT l)] H) (fun r G=>r = .o9 H.length 0 l.length 1/\G=H++[l.map V.str]):=by
 have hmk:=atU 16 l.length (by omega) (by omega)
 refine acd.of ?_
 rw [ajc]
 simp only [g9,hmk,avi]
 refine p9.T6 (I:=fun n st G=>∃ i:Nat,n=l.length-i/\i<=l.length/\st=[.sl false (vT l),.o9 H.length 0 l.length 1,.int .i64 (i:Nat)]/\G=H++[(l.take i).map V.str++List.replicate (l.length-i) (V.str [])])
  (P:=fun q vs G=>q=0/\vs=[.o9 H.length 0 l.length 1]/\G=H++[l.map V.str]) (n:=l.length) ?_ ⟨0,by omega,by omega,rfl,by simp⟩ ?_
 ·rintro n st G ⟨i,rfl,hi,rfl,rfl⟩
  rw [ahj]
  by_cases hlt:i<l.length
  ·have i1:=Z9 false l .i64 i hlt
   have i2:C3 1 (.o9 H.length 0 l.length 1) (.int .i64 (i:Nat))=some (.ptr H.length i):=by have:=ash (k:=H.length) (e:=1) (kk := .i64) hlt; rwa [Nat.mul_one] at this
   obtain ⟨m,hm⟩:∃ m,l.length-i=m+1:=⟨l.length-i-1,by omega⟩
   have st:stO (.ptr H.length i) [.str l[i]] (H++[(l.take i).map V.str++List.replicate (l.length-i) (V.str [])])=some (H++[(l.take (i+1)).map V.str++List.replicate (l.length-(i+1)) (V.str [])]):=by
    rw [amM (auh H _) (by simp; omega),awC,hm,List.replicate_succ,aqv (by simp; omega),List.take_succ_eq_append_getElem hlt,show l.length-(i+1)=m by omega,List.map_append,List.append_assoc]
    rfl
   have e2:b9 (.int .i64) .add (.int .i64 (i:Int)) (.int .i64 1)=some (.int .i64 ((i+1:Nat):Int)):=A6 _ i 1 (by omega)
   simp only [g9,i1,i2,st,e2,show ((i:Int)<(l.length:Int)) from by omega]
   exact ⟨_,rfl,.inr ⟨rfl,l.length-(i+1),by omega,i+1,rfl,by omega,rfl,rfl⟩⟩
  ·have:i=l.length:=by omega
   subst this
   simp only [g9,show ¬ ((l.length:Int)<(l.length:Int)) from by omega]
   exact ⟨_,rfl,.inl ⟨0,rfl,rfl,rfl,by simp⟩⟩
 ·rintro _ _ G ⟨rfl,rfl,rfl⟩
  simp only [g9]
  exact p9.here ⟨rfl,rfl⟩
theorem TxR.new (l:List Bs) (H:VH):∃ ks,TxR (H++[l.map V.str]) ks (.o9 H.length 0 l.length 1) l/\∀ j ∈ ks,j=H.length:=by
 by_cases h:l=[]
 ·subst h; exact ⟨[],.inl ⟨rfl,rfl,.inr (.inr ⟨_,rfl⟩)⟩,by simp⟩
 ·exact ⟨[H.length],.inr ⟨_,rfl,h,rfl,by simp⟩,by simp⟩
def MlR (H:VH) (ks:List Nat) (cs:List V) (m:s8):Prop:=∃ v w k1 k2,cs=[.str m.from_,v,w]/\ks=k1++k2/\TxR H k1 v m.to/\TxR H k2 w m.lines
theorem MlR.mono {H H':VH} {ks:List Nat} {cs:List V} {m:s8} (h:MlR H ks cs m) (e:∀ j ∈ ks,H'[j]? = H[j]?):MlR H' ks cs m:=by
 obtain ⟨v,w,k1,k2,rfl,rfl,h1,h2⟩:=h
 exact ⟨v,w,k1,k2,rfl,rfl,h1.mono fun j hj=>e j (by simp [hj]),h2.mono fun j hj=>e j (by simp [hj])⟩
theorem MlR.strip {H:VH} {ks:List Nat} {cs:List V} {m:s8} (h:MlR H ks cs m):MlR H ks (l8 cs) m:=by
 obtain ⟨v,w,k1,k2,rfl,rfl,h1,h2⟩:=h
 exact ⟨_,_,k1,k2,rfl,rfl,h1.strip,h2.strip⟩
theorem MlR.I5 {H:VH} {ks:List Nat} {cs:List V} {m:s8} (d:Nat) (h:MlR H ks cs m):Go.AM.I5 (d+1) H (.agg cs) = .agg (cM m):=by
 obtain ⟨v,w,k1,k2,rfl,rfl,h1,h2⟩:=h
 have a1:=h1.I5 d
 have a2:=h2.I5 d
 simp only [Go.AM.I5] at a1 a2
 simp only [Go.AM.I5,O8,abc,a1,a2,J0]
theorem MlR.nd {H:VH} {ks:List Nat} {cs:List V} {m:s8} (h:MlR H ks cs m) (hn:adN (.agg cs)=true):data (.agg cs)=true:=by
 obtain ⟨v,w,k1,k2,rfl,rfl,h1,h2⟩:=h
 simp only [adN,I3,Bool.and_eq_true] at hn
 simp only [data,s7,h1.nd hn.2.1,h2.nd hn.2.2.1,Bool.and_self]
theorem agU (m:s8) (h:SmM m) (H:VH):acd (cv S0 [.agg (cM m)] H) (fun r G=>∃ cs ks X,r = .agg cs/\G=H++X/\MlR G ks cs m/\ks.Nodup/\∀ j ∈ ks,H.length<=j/\j<G.length):=by
 refine acd.of ?_
 rw [amO]
 simp only [g9,J0]
 refine (ajD m.to h.2.1.1 H).bind ?_
 rintro _ _ ⟨rfl,rfl⟩
 simp only [g9,show ∀ a b c d,A8 (.o9 a b c d)=some (.o9 a b c d) from fun _ _ _ _=>rfl]
 refine (ajD m.lines h.2.2.1 _).bind ?_
 rintro _ _ ⟨rfl,rfl⟩
 simp only [g9,show ∀ a b c d,A8 (.o9 a b c d)=some (.o9 a b c d) from fun _ _ _ _=>rfl]
 obtain ⟨k1,a1,a2⟩:=TxR.new m.to H
 obtain ⟨k2,b1,b2⟩:=TxR.new m.lines (H++[m.to.map V.str])
 refine p9.here ⟨_,k1++k2,[m.to.map V.str,m.lines.map V.str],rfl,by simp,⟨_,_,k1,k2,rfl,rfl,a1.mono fun j hj=>?_,by simpa using b1⟩,?_,fun j hj=>?_⟩
 ·have:=a2 j hj
  subst this
  simp
 ·rw [List.nodup_append]
  exact ⟨a1.nod,b1.nod,fun a ha b hb=>by have:=a2 a ha; have:=b2 b hb; simp at this; omega⟩
 ·rcases List.mem_append.1 hj with hj | hj
  ·have:=a2 j hj; simp; omega
  ·have:=b2 j hj; simp at this ⊢; omega
noncomputable def mkM (k:Nat) (m:s8):s8:=⟨m.from_,mkT k m.to.length,mkT (k+m.to.length) m.lines.length⟩
theorem ak1 {H:VH} {ks:List Nat} {cs:List V} {m:s8} (h:MlR H ks cs m) (hn:ks.Nodup) (k:Nat) (hk:k+m.to.length+m.lines.length<=9000000000000000000) :
 acd (cv aaq [.agg cs,.int .i64 (k:Nat)] H) (fun r G=>r = .int .i64 ((k+m.to.length+m.lines.length:Nat):Int)/\MlR G ks (l8 cs) (mkM k m)/\(∀ j,j ∉ ks->G[j]? = H[j]?)/\G.length=H.length):=by
 obtain ⟨v,w,k1,k2,rfl,rfl,h1,h2⟩:=h
 rw [List.nodup_append] at hn
 refine acd.of ?_
 rw [akl]
 have s1:=h1.strip
 have s2:=h2.strip
 simp only [g9]
 refine (ahq s1 k (by omega)).bind ?_
 rintro _ G ⟨rfl,g1,g2,g3⟩
 have s2':=s2.mono (H':=G) fun j hj=>g2 j fun hj1=>hn.2.2 j hj1 j hj rfl
 simp only [g9]
 refine (ahq s2' (k+m.to.length) hk).bind ?_
 rintro _ G2 ⟨rfl,f1,f2,f3⟩
 simp only [g9]
 refine p9.here ⟨rfl,⟨_,_,k1,k2,rfl,rfl,g1.mono fun j hj=>f2 j fun hj2=>hn.2.2 j hj j hj2 rfl,f1⟩,fun j hj=>?_,f3.trans g3⟩
 simp only [List.mem_append,not_or] at hj
 rw [f2 j hj.2,g2 j hj.1]
theorem arZ (k:Nat) (m:s8) (hk:k+m.to.length+m.lines.length<=9000000000000000000):qc S3 [.agg (cM (mkM k m)),.int .i64 (k:Nat)]=some (.int .i64 ((k+m.to.length+m.lines.length:Nat):Int)):=by
 have e1:=ahs k m.to.length (by omega)
 have e2:=ahs (k+m.to.length) m.lines.length hk
 refine o7 (H:=[]) ?_ (by simp only [g9]) rfl
 show cv _ _ _=_
 rw [akM]
 simp only [g9,J0,mkM,e1,e2,show ¬ (((k+m.to.length:Nat):Int)<0) from by omega,show ¬ (((k+m.to.length+m.lines.length:Nat):Int)<0) from by omega]
end Go.Proofs.YtpbgpeojlfdpoaaGreatDoor.Q
