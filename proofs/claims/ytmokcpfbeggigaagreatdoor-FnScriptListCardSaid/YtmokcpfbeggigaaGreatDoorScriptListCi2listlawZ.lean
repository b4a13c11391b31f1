/- The law: lists that a script reads. -/
import Derived.Test.YtmokcpfbeggigaaGreatDoorScriptListCi1listreadZ
import Derived.Test.YtmokcpfbeggigaaGreatDoorFnScriptListK4
namespace Go.Proofs.YtmokcpfbeggigaaGreatDoor.Q
open Go Go.AM
set_option linter.unusedSimpArgs false
set_option linter.unusedVariables false
set_option linter.unusedSectionVars false
def Fr0 (H H':VH):Prop:=H.length<=H'.length/\∀ j,j ≠ 0->j<H.length->H'[j]? = H[j]?
theorem Fr0.trans {A B C:VH} (h:Fr0 A B) (g:Fr0 B C):Fr0 A C :=
 ⟨Nat.le_trans h.1 g.1,fun j h0 hj=>(g.2 j h0 (Nat.lt_of_lt_of_le hj h.1)).trans (h.2 j h0 hj)⟩
theorem Fr0.refl (A:VH):Fr0 A A:=⟨Nat.le_refl _,fun _ _ _=>rfl⟩
theorem Fr0.set (A:VH) (x:List V):Fr0 A (A.set 0 x):=⟨by simp,fun j h0 _=>by rw [List.getElem?_set_ne (Ne.symm h0)]⟩
theorem asI {b n:Nat} {H:VH} (hR:Rd 0 b H) (hb:b<=900000000) (hn:1<=n) (hn2:n<=1000000):T6 (cv I3 [.ptr 0 0,.int .i64 (n:Int)] H) (fun v H'=>∃ i:Nat,v = .int .i64 (i:Nat)/\i<n/\Rd 0 (b+1) H'/\Fr0 H H'):=by
 obtain ⟨o,xs,p,h1,h2,h3⟩:=hR
 have e:=aoK h1 hn (by omega) (by omega) h3
 exact ⟨_,_,e,_,rfl,aeN _ _ _ hn,⟨o,xs,p+1,by rw [List.getElem?_set,if_pos rfl,if_pos (List.getElem?_eq_some_iff.1 h1).1],by omega,h3⟩,Fr0.set _ _⟩
theorem al3 {b:Nat} {o:Bool} {l:List (List V)} {H:VH} (hR:Rd 0 b H) (hb:b<=900000000) (ht:okT l=true):T6 (cv E9 [.ptr 0 0,.sl o l] H) (fun v H'=>∃ s:Bs,v = .str s/\s.length<=200/\Rd 0 (b+1) H'/\Fr0 H H'):=by
 obtain ⟨o',xs,p,h1,h2,h3⟩:=hR
 simp only [okT,Bool.and_eq_true,beq_iff_eq,decide_eq_true_eq,List.all_eq_true] at ht
 obtain ⟨⟨⟨t1,t2⟩,t3⟩,t4⟩:=ht
 have e:=azg (o':=o) (l:=unT l) h1 (by omega) (by omega) (by omega) h3
 rw [ata t1] at e
 have hlt:=aeN xs p (unT l).length (by omega)
 have hm:(unT l).getD (O9 xs p (unT l).length) [] ∈ unT l:=by
  rw [List.getD_eq_getElem?_getD,List.getElem?_eq_getElem hlt]; exact List.getElem_mem hlt
 exact ⟨_,_,e,_,rfl,t2 _ hm,⟨o',xs,p+1,by rw [List.getElem?_set,if_pos rfl,if_pos (List.getElem?_eq_some_iff.1 h1).1],by omega,h3⟩,Fr0.set _ _⟩
theorem ay1 {b:Nat} {o:Bool} {l:List (List V)} {H:VH} (hR:Rd 0 b H) (hb:b<=900000000) (ht:okI l=true):T6 (cv W4 [.ptr 0 0,.sl o l] H) (fun v H'=>∃ s,v = .int .i64 s/\s ∈ unI l/\Rd 0 (b+1) H'/\Fr0 H H'):=by
 obtain ⟨o',xs,p,h1,h2,h3⟩:=hR
 simp only [okI,Bool.and_eq_true,beq_iff_eq,decide_eq_true_eq] at ht
 obtain ⟨⟨t1,t3⟩,t4⟩:=ht
 have e:=ayU (o':=o) (l:=unI l) h1 (by omega) (by omega) (by omega) h3
 rw [atD t1] at e
 have hlt:=aeN xs p (unI l).length (by omega)
 have hm:(unI l).getD (O9 xs p (unI l).length) 0 ∈ unI l:=by
  rw [List.getD_eq_getElem?_getD,List.getElem?_eq_getElem hlt]; exact List.getElem_mem hlt
 exact ⟨_,_,e,_,rfl,hm,⟨o',xs,p+1,by rw [List.getElem?_set,if_pos rfl,if_pos (List.getElem?_eq_some_iff.1 h1).1],by omega,h3⟩,Fr0.set _ _⟩
def TnA (a:Ad):Prop:=a.1.length<=200/\a.2.1.length<=200/\a.2.2.length<=200
theorem auU {b:Nat} {H:VH} (hR:Rd 0 b H) (hb:b<=800000000):T6 (cv acZ [.ptr 0 0] H) (fun v H'=>∃ a:Ad,v = .agg [.str a.1,.str a.2.1,.str a.2.2]/\TnA a/\Rd 0 (b+3) H'/\Fr0 H H'):=by
 refine T6.of ?_
 rw [alV]
 simp only [b8]
 refine (al3 hR (by omega) (by decide)).bind ?_
 rintro _ H1 ⟨n,rfl,n1,R1,F1⟩
 simp only [b8]
 refine (al3 R1 (by omega) (by decide)).bind ?_
 rintro _ H2 ⟨l,rfl,l1,R2,F2⟩
 simp only [b8]
 refine (al3 R2 (by omega) (by decide)).bind ?_
 rintro _ H3 ⟨d,rfl,d1,R3,F3⟩
 simp only [b8]
 exact l3.here ⟨(n,l,d),rfl,⟨n1,l1,d1⟩,R3,(F1.trans F2).trans F3⟩
theorem asp {b:Nat} {H:VH} (a:Ad) (ha:TnA a) (hR:Rd 0 b H) (hb:b<=800000000):T6 (cv acp [.ptr 0 0,.agg [.str a.1,.str a.2.1,.str a.2.2]] H) (fun v H'=>∃ a:Ad,v = .agg [.str a.1,.str a.2.1,.str a.2.2]/\TnA a/\Rd 0 (b+2) H'/\Fr0 H H'):=by
 refine T6.of ?_
 rw [akD]
 simp only [b8]
 refine (asI (n:=20) hR (by omega) (by omega) (by omega)).bind ?_
 rintro _ H1 ⟨i,rfl,hi,R1,F1⟩
 simp only [b8,decide_eq_true_eq]
 refine l3.ite (fun h=>?_) (fun h=>?_)
 ·refine (al3 R1 (by omega) (by decide)).bind ?_
  rintro _ H2 ⟨s,rfl,s1,R2,F2⟩
  simp only [b8]
  exact l3.here ⟨(a.1,s,a.2.2),rfl,⟨ha.1,s1,ha.2.2⟩,R2,F1.trans F2⟩
 ·refine l3.ite (fun h=>?_) (fun h=>?_)
  ·refine (al3 R1 (by omega) (by decide)).bind ?_
   rintro _ H2 ⟨s,rfl,s1,R2,F2⟩
   simp only [b8]
   exact l3.here ⟨(a.1,a.2.1,s),rfl,⟨ha.1,ha.2.1,s1⟩,R2,F1.trans F2⟩
  ·refine l3.ite (fun h=>?_) (fun h=>?_)
   ·refine (al3 R1 (by omega) (by decide)).bind ?_
    rintro _ H2 ⟨s,rfl,s1,R2,F2⟩
    simp only [b8]
    exact l3.here ⟨(s,a.2.1,a.2.2),rfl,⟨s1,ha.2.1,ha.2.2⟩,R2,F1.trans F2⟩
   ·exact l3.here ⟨a,rfl,ha,R1.le (by omega),F1⟩
def ObA (H:VH) (v:V) (l:List Ad):Prop:=(l=[]/\v = .sl true [])\/(l ≠ []/\∃ k,k ≠ 0/\k<H.length/\v = .A0 k 0 l.length 3/\H[k]? = some (vR A1 l).flatten)
theorem ObA.mono {H H':VH} {v:V} {l:List Ad} (h:ObA H v l) (f:Fr0 H H'):ObA H' v l:=by
 rcases h with h | ⟨hne,k,k0,kl,rfl,hk⟩
 ·exact .inl h
 ·exact .inr ⟨hne,k,k0,Nat.lt_of_lt_of_le kl f.1,rfl,by rw [f.2 k k0 kl]; exact hk⟩
theorem awS {b:Nat} {H:VH} (h:Rd 0 b H):0<H.length:=by
 obtain ⟨o,xs,p,h1,_⟩:=h
 exact (List.getElem?_eq_some_iff.1 h1).1
theorem R5 (l:List Ad):(vR A1 l).flatten.length=l.length*3:=by
 induction l with
 | nil=>rfl
 | cons a l ih =>
   show ([V.str a.1,.str a.2.1,.str a.2.2]++(vR A1 l).flatten).length=_
   rw [List.length_append,ih]; simp; omega
theorem ay3 {b:Nat} {H:VH} {v:V} {l:List Ad} (a:Ad) (h:ObA H v l) (hR:Rd 0 b H) (hl:l.length<=100) :
 ∃ v' H',ajI true false 3 48 v (.sl true [[.str a.1,.str a.2.1,.str a.2.2]]) H=some (v',H')/\ObA H' v' (l++[a])/\Rd 0 b H':=by
 have hp:=awS hR
 obtain ⟨o,xs,p,r1,r2,r3⟩:=hR
 have hfl:(vR A1 (l++[a])).flatten=(vR A1 l).flatten++[.str a.1,.str a.2.1,.str a.2.2]:=by
  rw [<-as3,List.flatten_append]; rfl
 rcases h with ⟨rfl,rfl⟩ | ⟨hne,k,k0,kl,rfl,hk⟩
 ·have e1:I6 false 3 48 [] (.sl true [[.str a.1,.str a.2.1,.str a.2.2]])=some (.sl true [[.str a.1,.str a.2.1,.str a.2.2]]):=by
   have:=ac2 3 48 (vR A1 []) true (vR A1 [a]) (afG A1 _) (afG A1 _) (by simp [vR])
   exact this
  refine ⟨.A0 H.length 0 1 3,H++[[.str a.1,.str a.2.1,.str a.2.2]],?_,.inr ⟨by simp,H.length,by omega,by simp,rfl,?_⟩,o,xs,p,?_,r2,r3⟩
  ·simp only [ajI,Z9,Option.bind_some,e1]
   rfl
  ·rw [List.getElem?_concat_length]; rfl
  ·rw [List.getElem?_append_left hp]; exact r1
 ·have hlp:=List.length_pos_iff.2 hne
  refine ⟨.A0 H.length 0 (l.length+1) 3,H.set k []++[(vR A1 l).flatten++[.str a.1,.str a.2.1,.str a.2.2]],?_,.inr ⟨by simp,H.length,by omega,by simp,by simp,?_⟩,o,xs,p,?_,r2,r3⟩
  ·simp only [ajI,hk,Option.bind_some]
   rw [if_pos (by first | exact ⟨rfl,rfl,hlp,R5 l,rfl,by simp; omega⟩ | exact ⟨trivial,trivial,hlp,R5 l,rfl,by simp; omega⟩)]
   rfl
  ·rw [hfl]
   have:H.length=(H.set k []).length:=by simp
   rw [this,List.getElem?_concat_length]
  ·rw [List.getElem?_append_left (by simpa using hp),List.getElem?_set_ne k0]; exact r1
theorem at0 {b:Nat} {H:VH} (hR:Rd 0 b H) (hb:b<=700000000):T6 (cv ac1 [.ptr 0 0] H) (fun v H'=>∃ l:List Ad,ObA H' v l/\l.length<=4/\(∀ a ∈ l,TnA a)/\Rd 0 (b+20) H'):=by
 refine T6.of ?_
 rw [amq]
 simp only [b8]
 refine (ay1 hR (by omega) (by decide)).bind ?_
 rintro _ H1 ⟨s,rfl,hs,R1,F1⟩
 obtain ⟨m,rfl,hm⟩:∃ m:Nat,s=(m:Int)/\m<=4:=by
  simp only [unI,List.mem_cons,List.not_mem_nil,or_false] at hs
  rcases hs with rfl | rfl | rfl | rfl | rfl
  ·exact ⟨2,rfl,by omega⟩
  ·exact ⟨3,rfl,by omega⟩
  ·exact ⟨1,rfl,by omega⟩
  ·exact ⟨0,rfl,by omega⟩
  ·exact ⟨4,rfl,by omega⟩
 simp only [b8]
 refine l3.V3 (I:=fun n st H=>∃ (m:Nat) (v:V) (l:List Ad),n=m/\st=[.ptr 0 0,v,.int .i64 (m:Nat)]/\ObA H v l/\l.length+m<=4/\(∀ a ∈ l,TnA a)/\Rd 0 (b+1+3*l.length) H)
  (P:=fun q vs H=>q=0/\∃ v l,vs=[v]/\ObA H v l/\l.length<=4/\(∀ a ∈ l,TnA a)/\Rd 0 (b+20) H) (n:=m) ?_ ⟨m,.sl true [],[],rfl,rfl,.inl ⟨rfl,rfl⟩,by simpa using hm,by simp,by simpa using R1⟩ ?_
 ·rintro n st H ⟨m',v,l,rfl,rfl,hv,hl,ha,R⟩
  rw [ai8]
  by_cases h0:n=0
  ·subst h0
   simp only [b8,show ¬ (((0:Nat):Int)>0) from by omega]
   exact ⟨_,rfl,.inl ⟨0,rfl,rfl,v,l,rfl,hv,by omega,ha,R.le (by omega)⟩⟩
  ·have e2:a8 (.int .i64) .sub (.int .i64 (n:Int)) (.int .i64 1)=some (.int .i64 ((n-1:Nat):Int)):=adC _ n 1 (by omega) (by omega)
   simp only [b8,show ((n:Int)>0) from by omega]
   refine (auU R (by omega)).bind ?_
   rintro _ H2 ⟨a,rfl,ta,R2,F2⟩
   obtain ⟨v',H',e1,hv',R'⟩:=ay3 a (hv.mono F2) R2 (by omega)
   simp only [b8,e1,e2]
   refine l3.here (.inr ⟨rfl,n-1,by omega,n-1,v',l++[a],rfl,rfl,hv',by simp; omega,fun x hx=>?_,R'.le (by simp; omega)⟩)
   rcases List.mem_append.1 hx with hx | hx
   ·exact ha x hx
   ·simp only [List.mem_singleton] at hx; subst hx; exact ta
 rintro _ _ H ⟨rfl,v,l,rfl,hv,hl,ha,R⟩
 simp only [b8]
 exact l3.here ⟨l,hv,hl,ha,R⟩
theorem anX (l:List Ad) (i:Nat) (h:i<l.length) (a:Ad):(vR A1 (l.set i a)).flatten=(vR A1 (l.take i)).flatten++cAd a++(vR A1 (l.drop (i+1))).flatten:=by
 rw [List.set_eq_take_append_cons_drop,if_pos h]
 simp only [vR,List.map_append,List.map_cons,List.flatten_append,List.flatten_cons,List.append_assoc]
 rfl
theorem awj (l:List Ad) (i:Nat) (h:i<l.length):L4 (vR A1 l).flatten (i*3) 3=some (cAd l[i]):=by
 have e:=anX l i h l[i]
 rw [List.set_getElem_self] at e
 have hl:(vR A1 (l.take i)).flatten.length=i*3:=by rw [R5]; simp; omega
 rw [e,<-hl]
 exact ajF _ (cAd l[i]) _
theorem awP (l:List Ad) (i:Nat) (h:i<l.length) (a:Ad):Q1 (vR A1 l).flatten (i*3) (cAd a)=(vR A1 (l.set i a)).flatten:=by
 have e:=anX l i h l[i]
 rw [List.set_getElem_self] at e
 have hl:(vR A1 (l.take i)).flatten.length=i*3:=by rw [R5]; simp; omega
 rw [anX l i h a,e,<-hl]
 exact aev _ (cAd l[i]) _ (cAd a) rfl
end Go.Proofs.YtmokcpfbeggigaaGreatDoor.Q
