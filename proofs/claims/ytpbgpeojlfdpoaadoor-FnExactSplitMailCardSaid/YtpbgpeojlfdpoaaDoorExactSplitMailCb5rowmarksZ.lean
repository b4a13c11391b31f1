/- Contracts: marks on lists of mails and of mailboxes. -/
import Derived.Test.YtpbgpeojlfdpoaaDoorExactSplitMailCb4rowmarksZ
import Derived.Test.YtpbgpeojlfdpoaaDoorFnExactSplitMailK4
namespace Go.Proofs.YtpbgpeojlfdpoaaDoor.Q
open Go Go.AM
set_option linter.unusedSimpArgs false
set_option linter.unusedVariables false
set_option linter.unusedSectionVars false
noncomputable def mk1 (k:Nat) (m:j0):j0:=⟨mkN k,mkT (k+1) m.to.length,mkT (k+1+m.to.length) m.lines.length⟩
def sz1 (m:j0):Nat:=1+m.to.length+m.lines.length
def y6:List j0->Nat
 | []=>0
 | m::l=>sz1 m+y6 l
noncomputable def T7:Nat->List j0->List j0
 | _,[]=>[]
 | k,m::l=>mk1 k m::T7 (k+sz1 m) l
theorem aeo:∀ a b:List j0,y6 (a++b)=y6 a+y6 b
 | [],b=>by simp [y6]
 | m::a,b=>by simp only [List.cons_append,y6,aeo a b]; omega
theorem akZ:∀ l:List j0,l.length<=y6 l
 | []=>by simp
 | m::l=>by
   have:=akZ l
   simp only [List.length_cons,y6,sz1]; omega
theorem aiD:∀ (k:Nat) (a b:List j0),T7 k (a++b)=T7 k a++T7 (k+y6 a) b
 | k,[],b=>by simp [T7,y6]
 | k,m::a,b=>by simp only [List.cons_append,T7,y6,aiD (k+sz1 m) a b,Nat.add_assoc]
theorem abM:∀ (k:Nat) (l:List j0),(T7 k l).length=l.length
 | _,[]=>rfl
 | k,m::l=>by simp only [T7,List.length_cons,abM (k+sz1 m) l]
theorem Q9.apa {H:VH} {ks:List Nat} {v:V} {l:List Bs} (h:Q9 H ks (Go.AM.strip v) l):Q9 H ks v l:=by
 have key:(Go.AM.strip v = .sl true []\/Go.AM.strip v = .sl false []->v = .sl true []\/v = .sl false [])/\∀ k n,Go.AM.strip v = .m8 k 0 n 1->v = .m8 k 0 n 1:=by
  cases v with
  | sl o xs =>
    refine ⟨fun h=>?_,fun k n h=>by simp [Go.AM.strip] at h⟩
    have hx:xs=[]:=by
     rcases h with h | h
     ·simp [Go.AM.strip] at h
     ·simp only [Go.AM.strip,V.sl.injEq,true_and] at h
      exact abr.1 h
    subst hx
    cases o<;>simp
  | _=>simp [Go.AM.strip]
 rcases h with ⟨h1,h2,h3⟩ | ⟨k,h1,h2,h3,h4⟩
 ·refine .inl ⟨h1,h2,?_⟩
  rcases h3 with h | h | ⟨k,h⟩
  ·rcases key.1 (.inl h) with h | h
   ·exact .inl h
   ·exact .inr (.inl h)
  ·rcases key.1 (.inr h) with h | h
   ·exact .inl h
   ·exact .inr (.inl h)
  ·exact .inr (.inr ⟨k,key.2 k 0 h⟩)
 ·exact .inr ⟨k,h1,h2,key.2 k _ h3,h4⟩
theorem aoR {e j:Nat} {r1 r2:List (List V)} {x:List V} {i:Nat} (hr:Go.AM.Rows e (r1++x::r2)) (hi:r1.length=i) (hj:j<e):(r1++x::r2).flatten[i*e+j]? = x[j]?:=by
 subst hi
 exact hr.get hj (by simp)
theorem avn {e j:Nat} {r1 r2:List (List V)} {x:List V} {i K:Nat} {G:VH} {v:V} (hr:Go.AM.Rows e (r1++x::r2)) (hi:r1.length=i) (hj:j<e) (hG:G[K]? = some (r1++x::r2).flatten):M6 (.ptr K (i*e+j)) [v] G=some (G.set K (r1++x.set j v::r2).flatten):=by
 subst hi
 have hlen:r1.length*e+j<(r1++x::r2).flatten.length:=by
  rw [hr.flat]
  simp only [List.length_append,List.length_cons]
  have:r1.length*e+j<(r1.length+1)*e:=by rw [Nat.add_mul]; omega
  refine Nat.lt_of_lt_of_le this (Nat.mul_le_mul_right _ (by omega))
 rw [aeb hG hlen,<-afO hlen,Go.AM.Rows.set hj hr (i:=r1.length) (x:=x) (by simp)]
 congr 3
 rw [List.set_append_right _ _ (Nat.le_refl _),Nat.sub_self,List.set_cons_zero]
theorem aoF {H:VH} {ks:List Nat} {v:V} {l:List j0} (h:MsR H ks v l) (hn:ks.Nodup) (k:Nat) (hk:k+y6 l<=9000000000000000000) :
 L7 (cv abd [v,.int .i64 (k:Nat)] H) (fun r G=>r = .int .i64 ((k+y6 l:Nat):Int)/\MsR G ks v (T7 k l)/\(∀ j,j ∉ ks->G[j]? = H[j]?)/\G.length=H.length):=by
 refine L7.of ?_
 rw [aik]
 rcases h with ⟨rfl,rfl,h3⟩ | ⟨K,r,ks',rfl,hne,rfl,hK,hr⟩
 ·have hlen:s8 (strip v)=some (.int .i64 0):=by rcases h3 with rfl | rfl | ⟨q,rfl⟩<;>rfl
  refine o9.P8 (I:=fun n st G=>st=[v,.int .i64 (k:Nat),.int .i64 0]/\G=H) (P:=fun q vs G=>q=0/\vs=[.int .i64 (k:Nat)]/\G=H) (n:=0) ?_ ⟨rfl,rfl⟩ ?_
  ·rintro n st G ⟨rfl,rfl⟩
   rw [acq]
   simp only [b9,hlen,show ¬ ((0:Int)<0) from by omega]
   exact ⟨_,rfl,.inl ⟨0,rfl,rfl,rfl,rfl⟩⟩
  ·rintro _ _ G ⟨rfl,rfl,rfl⟩
   simp only [b9]
   exact o9.here ⟨rfl,.inl ⟨rfl,rfl,h3⟩,fun _ _=>rfl,rfl⟩
 ·refine o9.P8 (I:=fun n st G=>∃ (l1 l2:List j0) (r1 r2:List (List V)) (k1 k2:List Nat),n=l2.length/\l=l1++l2/\ks'=k1++k2/\st=[.m8 K 0 l.length 3,.int .i64 ((k+y6 l1:Nat):Int),.int .i64 (l1.length:Nat)]/\G.length=H.length/\(∀ j,j ∉ K::ks'->G[j]? = H[j]?)/\G[K]? = some (r1++r2).flatten/\RwR K1 G k1 r1 (T7 k l1)/\RwR K1 G k2 r2 l2)
   (P:=fun q vs G=>q=0/\vs=[.int .i64 ((k+y6 l:Nat):Int)]/\G.length=H.length/\(∀ j,j ∉ K::ks'->G[j]? = H[j]?)/\MsR G (K::ks') (.m8 K 0 l.length 3) (T7 k l)) (n:=l.length) ?_
   ⟨[],l,[],r,[],ks',rfl,rfl,rfl,rfl,rfl,fun _ _=>rfl,hK,⟨rfl,rfl⟩,hr⟩ ?_
  ·rintro n st G ⟨l1,l2,r1,r2,k1,k2,rfl,rfl,rfl,rfl,hgl,hoff,hGK,hr1,hr2⟩
   rw [acq]
   have hq1:=hr1.rows K1.Mon
   rw [abM] at hq1
   cases l2 with
   | nil =>
     obtain ⟨rfl,rfl⟩:=hr2
     simp only [List.append_nil] at hGK hne ⊢
     simp only [b9,show ¬ ((l1.length:Int)<(l1.length:Int)) from by omega]
     refine ⟨_,rfl,.inl ⟨0,rfl,rfl,rfl,hgl,by simpa using hoff,.inr ⟨K,r1,k1,rfl,fun e=>hne (List.length_eq_zero_iff.1 (by rw [<-abM k l1,e]; rfl)),by rw [abM],hGK,hr1⟩⟩⟩
   | cons m l2 =>
     obtain ⟨x,r2',ka,kb,rfl,rfl,hx,hr2⟩:=hr2
     obtain ⟨v1,w1,a1,a2,rfl,rfl,t1,t2⟩:=hx
     have hrows:∀ s,Go.AM.Rows 3 (r1++[V.str s,v1,w1]::r2'):=fun s y hy=>by
      rcases List.mem_append.1 hy with hy | hy
      ·exact hq1.1 y hy
      ·rcases List.mem_cons.1 hy with rfl | hy
       ·rfl
       ·exact (hr2.rows K1.Mon).1 y hy
     simp only [List.nodup_cons,List.nodup_append,List.mem_append,not_or] at hn
     obtain ⟨⟨hK1,⟨hKa1,hKa2⟩,hKb⟩,hnk1,⟨⟨hna1,hna2,hd12⟩,hnkb,hdab⟩,hd1⟩:=hn
     have hsz:y6 (l1++m::l2)=y6 l1+(1+m.to.length+m.lines.length)+y6 l2:=by rw [aeo]; simp only [y6,sz1]; omega
     have hlt:l1.length<(l1++m::l2).length:=by simp
     generalize hL:(l1++m::l2).length=L at *
     have i1:s6 3 (.m8 K 0 L 3) (.int .i64 (l1.length:Nat))=some (.ptr K (l1.length*3)):=ajA hlt
     have o:∀ j,K4 (.ptr K (l1.length*3)) j=some (.ptr K (l1.length*3+j)):=fun _=>rfl
     have m1:=ad3 (k+y6 l1) (by omega)
     have s1:=avn (v := .str (mkN (k+y6 l1))) (hrows m.from_) hq1.2 (show 0<3 by omega) hGK
     have hset:([V.str m.from_,v1,w1]).set 0 (.str (mkN (k+y6 l1)))=[.str (mkN (k+y6 l1)),v1,w1]:=rfl
     rw [hset] at s1
     have hKlt:K<G.length:=(List.getElem?_eq_some_iff.1 hGK).1
     have e1:a8 (.int .i64) .add (.int .i64 ((k+y6 l1:Nat):Int)) (.int .i64 1)=some (.int .i64 ((k+y6 l1+1:Nat):Int)):=s9 _ _ 1 (by omega)
     have e2:a8 (.int .i64) .add (.int .i64 (l1.length:Nat)) (.int .i64 1)=some (.int .i64 ((l1.length+1:Nat):Int)):=s9 _ _ 1 (by have:=akZ l1; omega)
     generalize hnum:k+y6 l1=num at *
     generalize hG1:G.set K (r1++[V.str (mkN num),v1,w1]::r2').flatten=G1 at *
     have g1K:G1[K]? = some (r1++[V.str (mkN num),v1,w1]::r2').flatten:=by rw [<-hG1,List.getElem?_set_self hKlt]
     have g1o:∀ j,j ≠ K->G1[j]? = G[j]?:=fun j hj=>by rw [<-hG1,List.getElem?_set_ne (fun e=>hj e.symm)]
     have l1d:=ahR (g:=o7) g1K ((aoR (hrows (mkN num)) hq1.2 (show 1<3 by omega)).trans rfl)
     have t1':=(t1.mono (H':=G1) fun j hj=>g1o j fun e=>hKa1 (e ▸ hj)).strip
     have hge:G1.length=G.length:=by rw [<-hG1]; simp
     simp only [b9,i1,o,m1,s1,e1,l1d,show ((l1.length:Int)<(L:Int)) from by omega]
     refine (abx t1' (num+1) (by omega)).bind ?_
     rintro _ G2 ⟨rfl,u1,u2,u3⟩
     have g2K:G2[K]? = some (r1++[V.str (mkN num),v1,w1]::r2').flatten:=by rw [u2 K hKa1,g1K]
     have l2d:=ahR (g:=o7) g2K ((aoR (hrows (mkN num)) hq1.2 (show 2<3 by omega)).trans rfl)
     have t2':=(t2.mono (H':=G2) fun j hj=>by rw [u2 j fun hj1=>hd12 j hj1 j hj rfl]; exact g1o j fun e=>hKa2 (e ▸ hj)).strip
     simp only [b9,i1,o,l2d]
     refine (abx t2' (num+1+m.to.length) (by omega)).bind ?_
     rintro _ G3 ⟨rfl,w1',w2,w3⟩
     simp only [b9,e2]
     have hall:∀ j,j ≠ K->j ∉ a1->j ∉ a2->G3[j]? = G[j]?:=fun j h1 h2 h3=>by rw [w2 j h3,u2 j h2,g1o j h1]
     refine ⟨_,rfl,.inr ⟨rfl,l2.length,by simp,l1++[m],l2,r1++[[V.str (mkN num),v1,w1]],r2',k1++(a1++a2),kb,rfl,by simp,by simp,?_,by simp only; omega,fun j hj=>?_,?_,?_,?_⟩⟩
     ·simp only [aeo,y6,sz1,List.length_append,List.length_singleton,<-hnum]
      congr 3
      simp only [Nat.add_zero]; omega
     ·simp only [List.mem_cons,List.mem_append,not_or] at hj
      simp only
      rw [hall j hj.1 hj.2.2.1.1 hj.2.2.1.2]
      exact hoff j (by simp only [List.mem_cons,List.mem_append,not_or]; exact hj)
     ·simp only [List.append_assoc,List.singleton_append]
      rw [w2 K hKa2,g2K]
     ·rw [aiD]
      refine RwR.app (hr1.mono K1.Mon fun j hj=>hall j (fun e=>hK1 (e ▸ hj)) (fun e=>hd1 j hj j (.inl (.inl e)) rfl) (fun e=>hd1 j hj j (.inl (.inr e)) rfl)) ?_
      simp only [T7,hnum]
      exact RwR.one ⟨v1,w1,a1,a2,rfl,rfl,(u1.mono fun j hj=>w2 j fun hj2=>hd12 j hj j hj2 rfl).apa,w1'.apa⟩
     ·exact hr2.mono K1.Mon fun j hj=>hall j (fun e=>hKb (e ▸ hj)) (fun e=>hdab j (.inl e) j hj rfl) (fun e=>hdab j (.inr e) j hj rfl)
  ·rintro _ _ G ⟨rfl,rfl,g1,g2,g3⟩
   simp only [b9]
   exact o9.here ⟨rfl,g3,g2,g1⟩
end Go.Proofs.YtpbgpeojlfdpoaaDoor.Q
